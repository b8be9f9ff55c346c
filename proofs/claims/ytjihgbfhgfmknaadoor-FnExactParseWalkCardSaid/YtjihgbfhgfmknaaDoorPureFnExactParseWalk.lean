/- The plain side of the law FnExactParseWalk: the printed law, whatever its input (within the form's bounds), comes to true. No other condition. -/
import Derived.Test.YtjihgbfhgfmknaaDoorPFnExactParseWalkx9
import Derived.Test.YtjihgbfhgfmknaaDoorBase
import Derived.Test.YtjihgbfhgfmknaaDoorMath
namespace Go.Proofs.YtjihgbfhgfmknaaDoor.Pure
open Go.RowKit Go.Proofs.YtjihgbfhgfmknaaDoor.PFnExactParseWalk Go.Proofs.YtjihgbfhgfmknaaDoorW.PrintWords Go.Proofs.YtjihgbfhgfmknaaDoorW.PrintLast Go.Proofs.YtjihgbfhgfmknaaDoorW.PrintMore Go.Proofs.YtjihgbfhgfmknaaDoor.Base Go.Proofs.YtjihgbfhgfmknaaDoor.M
set_option linter.unusedVariables false
set_option linter.unusedSimpArgs false

theorem laws_eqIntS.ev (a b : List Int) (hl : a.length ≤ 35184372088832) : Ev (fun k => laws_eqIntS.f k a b) (decide (a = b)) := by
  have main : ∀ (d i : Nat), i + d = a.length → a.length = b.length → Ev (fun k => laws_eqIntS.l0 k a b i) (decide (a.drop i = b.drop i)) := by
    intro d
    induction d with
    | zero =>
      intro i e he
      refine Ev.step (fun k => by rw [laws_eqIntS.l0]) ?_
      refine ev_neg (by omega) ?_
      refine ev_some ?_
      rw [List.drop_eq_nil_of_le (by omega), List.drop_eq_nil_of_le (by omega)]
      rfl
    | succ d ih =>
      intro i e he
      refine Ev.step (fun k => by rw [laws_eqIntS.l0]) ?_
      refine ev_pos (by omega) ?_
      refine ev_pos (by omega) ?_
      refine ev_pos (by omega) ?_
      rw [w64 (x := (i : Int) + 1) (by omega) (by omega), rd_get rfl (by omega), rd_get rfl (by omega), List.drop_eq_getElem_cons (by omega), List.drop_eq_getElem_cons (l := b) (by omega)]
      by_cases h : a[i] = b[i]
      · refine ev_pos h ?_
        rw [show decide (a[i] :: a.drop (i + 1) = b[i] :: b.drop (i + 1)) = decide (a.drop (i + 1) = b.drop (i + 1)) from decide_eq_decide.2 ⟨fun e => (List.cons.inj e).2, fun e => by rw [h, e]⟩]
        exact ih (i + 1) (by omega) he
      · refine ev_neg h (ev_some ?_)
        exact (decide_eq_false fun e => h (List.cons.inj e).1).symm
  unfold laws_eqIntS.f
  by_cases h : a.length = b.length
  · refine ev_pos (by omega) ?_
    exact main a.length 0 (by omega) h
  · refine ev_neg (by omega) (ev_some ?_)
    symm
    rw [decide_eq_false_iff_not]
    exact fun e => h (by rw [e])
def marks (n : Nat) (a : Int) : List Int := (List.range n).map fun (j : Nat) => a + (j : Int)
theorem marks_length (n : Nat) (a : Int) : (marks n a).length = n := by simp [marks]
theorem laws_markIntS.ev (l : List Int) (hl : l.length ≤ 35184372088832) (a : Int) (h0 : 0 ≤ a) (h1 : a ≤ 4611686018427387904) :
    Ev (fun k => laws_markIntS.f k l a) (a + l.length, marks l.length a) := by
  have main : ∀ (d i : Nat) (x : List Int), i + d = l.length → x.length = l.length → (∀ j, j < i → x[j]? = (marks l.length a)[j]?) →
      Ev (fun k => laws_markIntS.l0 k x (a + i) i) (a + l.length, marks l.length a) := by
    intro d
    induction d with
    | zero =>
      intro i x e hx hj
      refine Ev.step (fun k => by rw [laws_markIntS.l0]) ?_
      refine ev_neg (by omega) ?_
      have : x = marks l.length a := List.ext_getElem? fun j => by
        by_cases h : j < l.length
        · exact hj j (by omega)
        · rw [List.getElem?_eq_none (by omega), List.getElem?_eq_none (by rw [marks_length]; omega)]
      refine ev_some ?_
      rw [this, show (i : Int) = (l.length : Int) from by omega]
    | succ d ih =>
      intro i x e hx hj
      refine Ev.step (fun k => by rw [laws_markIntS.l0]) ?_
      refine ev_pos (by omega) ?_
      refine ev_pos (by omega) ?_
      rw [w64 (x := (i : Int) + 1) (by omega) (by omega), w64 (x := a + (i : Int) + 1) (by omega) (by omega), Int.add_assoc]
      refine ih (i + 1) _ (by omega) (by simpa using hx) (fun j hj' => ?_)
      rw [Int.toNat_natCast]
      by_cases h : j = i
      · subst h
        rw [List.getElem?_set_self (by omega)]
        simp [marks, List.getElem?_range (show j < l.length by omega)]
      · rw [List.getElem?_set_ne (by omega)]
        exact hj j (by omega)
  unfold laws_markIntS.f
  have := main l.length 0 l (by omega) rfl (fun j hj => by omega)
  simpa using this
theorem laws_heldIntS.ev (n : Nat) (hn : n ≤ 35184372088832) (a : Int) (h0 : 0 ≤ a) (h1 : a ≤ 4611686018427387904) :
    Ev (fun k => laws_heldIntS.f k (marks n a) a) (a + n) := by
  have main : ∀ (d i : Nat), i + d = n → Ev (fun k => laws_heldIntS.l0 k (marks n a) (a + i) i) (a + n) := by
    intro d
    induction d with
    | zero =>
      intro i e
      refine Ev.step (fun k => by rw [laws_heldIntS.l0]) ?_
      refine ev_neg (by rw [marks_length]; omega) ?_
      exact ev_some (by rw [show (i : Int) = (n : Int) from by omega])
    | succ d ih =>
      intro i e
      refine Ev.step (fun k => by rw [laws_heldIntS.l0]) ?_
      refine ev_pos (by rw [marks_length]; omega) ?_
      refine ev_pos (by omega) ?_
      refine ev_pos ?_ ?_
      · rw [rd_get rfl (by rw [marks_length]; omega)]
        simp [marks]
      · rw [w64 (x := (i : Int) + 1) (by omega) (by omega), w64 (x := a + (i : Int) + 1) (by omega) (by omega), Int.add_assoc]
        exact ih (i + 1) (by omega)
  unfold laws_heldIntS.f
  have := main n 0 (by omega)
  simpa using this
theorem spec_l1In.at (a b c : Int) : spec_l1In.f a b c = some (decide (b ≤ a ∧ a ≤ c)) := by
  unfold spec_l1In.f
  by_cases h : a ≥ b
  · rw [if_pos h]
    simp [show b ≤ a from h]
  · rw [if_neg h]
    simp [show ¬ b ≤ a from h]
theorem impl_within.at (a b c : Int) : impl_within.f a b c = some (decide (b ≤ a ∧ a ≤ c)) := by
  unfold impl_within.f
  by_cases h : a ≥ b
  · rw [if_pos h]
    simp [show b ≤ a from h]
  · rw [if_neg h]
    simp [show ¬ b ≤ a from h]
theorem spec_l2Road.at (n : Int) (g : Bool) : spec_l2Road.f n g = some (okRoad n g) := by
  unfold spec_l2Road.f okRoad
  rw [spec_l1In.at]
  simp only [Option.bind_some]
  by_cases h : 2 ≤ n ∧ n ≤ 24
  · rw [if_pos (by simpa using h)]
    cases g with
    | false => simp [h]
    | true =>
      simp only [if_true, h, true_and, Option.some.injEq]
      exact decide_eq_decide.2 (by simp; omega)
  · rw [if_neg (by simpa using h)]
    simp only [Option.some.injEq]
    exact (decide_eq_false (fun h' => h ⟨h'.1, h'.2.1⟩)).symm
theorem impl_IsRoad.at (n : Int) (g : Bool) : impl_IsRoad.f n g = some (okRoad n g) := by
  unfold impl_IsRoad.f okRoad
  rw [impl_within.at]
  simp only [Option.bind_some]
  by_cases h : 2 ≤ n ∧ n ≤ 24
  · rw [if_pos (by simpa using h)]
    cases g with
    | false => simp [h]
    | true =>
      simp only [if_true, h, true_and, Option.some.injEq]
      exact decide_eq_decide.2 (by simp)
  · rw [if_neg (by simpa using h)]
    simp only [Option.some.injEq]
    exact (decide_eq_false (fun h' => h ⟨h'.1, h'.2.1⟩)).symm
theorem spec_l2Place.at (n : Int) (g : Bool) (p : Int) : spec_l2Place.f n g p = some (okRoad n g && decide (0 ≤ p ∧ p ≤ n - 1)) := by
  unfold spec_l2Place.f
  rw [spec_l2Road.at]
  simp only [Option.bind_some]
  by_cases h : okRoad n g = true
  · have hb := okRoad_b h
    rw [if_pos h, w64 (x := n - 1) (by omega) (by omega), spec_l1In.at, h]
    rfl
  · rw [if_neg h]
    rw [Bool.not_eq_true] at h
    rw [h]
    rfl
theorem spec_l1Most.at (a b : Int) : spec_l1Most.f a b = some (max a b) := by
  unfold spec_l1Most.f
  by_cases h : a > b
  · rw [if_pos h, Int.max_eq_left (by omega)]
  · rw [if_neg h, Int.max_eq_right (by omega)]
theorem spec_l1Least.at (a b : Int) : spec_l1Least.f a b = some (min a b) := by
  unfold spec_l1Least.f
  by_cases h : a < b
  · rw [if_pos h, Int.min_eq_left (by omega)]
  · rw [if_neg h, Int.min_eq_right (by omega)]
theorem spec_l2Gap.at {n : Int} (g : Bool) {a b : Int} (hn : 2 ≤ n ∧ n ≤ 24) (ha : 0 ≤ a ∧ a ≤ n - 1) (hb : 0 ≤ b ∧ b ≤ n - 1) : spec_l2Gap.f n g a b = some (gap n g a b) := by
  unfold spec_l2Gap.f gap
  rw [w64 (x := a - b) (by omega) (by omega), w64 (x := b - a) (by omega) (by omega), spec_l1Most.at]
  simp only [Option.bind_some]
  cases g with
  | false => simp
  | true => rw [if_pos rfl, if_pos rfl, w64 (by omega) (by omega), spec_l1Least.at]; rfl
theorem impl_Road_gap.at {n : Int} (g : Bool) {a b : Int} (hn : 2 ≤ n ∧ n ≤ 24) (ha : 0 ≤ a ∧ a ≤ n - 1) (hb : 0 ≤ b ∧ b ≤ n - 1) : impl_Road_gap.f n g a b = some (gap n g a b) := by
  unfold impl_Road_gap.f gap
  rw [w64 (x := a - b) (by omega) (by omega), w64 (x := b - a) (by omega) (by omega)]
  simp only [mx_eq, mn_eq]
  cases g with
  | false => simp
  | true => rw [if_pos rfl, if_pos rfl, w64 (by omega) (by omega)]
theorem impl_allWithin.ev (l : List Int) (lo hi : Int) (hl : l.length ≤ 35184372088832) : Ev (fun k => impl_allWithin.f k l lo hi) (l.all fun x => decide (lo ≤ x ∧ x ≤ hi)) := by
  have main : ∀ (d i : Nat), i + d = l.length → Ev (fun k => impl_allWithin.l0 k lo hi l l.length i) ((l.drop i).all fun x => decide (lo ≤ x ∧ x ≤ hi)) := by
    intro d
    induction d with
    | zero =>
      intro i e
      refine Ev.step (fun k => by rw [impl_allWithin.l0]) ?_
      refine ev_neg (by omega) (ev_some ?_)
      rw [List.drop_eq_nil_of_le (by omega)]
      rfl
    | succ d ih =>
      intro i e
      refine Ev.step (fun k => by rw [impl_allWithin.l0]) ?_
      refine ev_pos (by omega) ?_
      refine ev_pos (by omega) ?_
      refine ev_pos (by omega) ?_
      rw [w64 (x := (i : Int) + 1) (by omega) (by omega), rd_get rfl (by omega), List.drop_eq_getElem_cons (by omega), List.all_cons, impl_within.at]
      simp only [Option.bind_some]
      by_cases h : lo ≤ l[i] ∧ l[i] ≤ hi
      · refine ev_pos (by simpa using h) ?_
        rw [decide_eq_true h, Bool.true_and]
        exact ih (i + 1) (by omega)
      · refine ev_neg (by simpa using h) (ev_some ?_)
        rw [decide_eq_false h, Bool.false_and]
  unfold impl_allWithin.f
  exact main l.length 0 (by omega)
theorem impl_Road_has.ev {n : Int} (g : Bool) (l : List Int) (hn : 2 ≤ n ∧ n ≤ 24) (hl : l.length ≤ 35184372088832) : Ev (fun k => impl_Road_has.f k n g l) (l.all fun x => decide (0 ≤ x ∧ x ≤ n - 1)) := by
  unfold impl_Road_has.f
  rw [w64 (x := n - 1) (by omega) (by omega)]
  exact Ev.bind (impl_allWithin.ev l 0 (n - 1) hl) (ev_some rfl)
theorem impl_Road_isWalk.ev {n : Int} (g : Bool) (w : List Int) (hr : okRoad n g = true) (hl : w.length ≤ 35184372088832) : Ev (fun k => impl_Road_isWalk.f k n g w) (okWalk n g w) := by
  have hb := okRoad_b hr
  unfold impl_Road_isWalk.f okWalk
  rw [impl_within.at, hr, Bool.true_and]
  simp only [Option.bind_some]
  by_cases h : 1 ≤ (w.length : Int) ∧ (w.length : Int) ≤ 61
  · refine ev_pos (by simpa using h) ?_
    rw [decide_eq_true h, Bool.true_and]
    refine Ev.bind (impl_Road_has.ev g w ⟨hb.1, hb.2.1⟩ hl) ?_
    refine Ev.step (fun k => by rw [impl_Road_isWalk.j0]) ?_
    by_cases ha : (w.all fun x => decide (0 ≤ x ∧ x ≤ n - 1)) = true
    · rw [ha, Bool.true_and]
      refine ev_neg (by simp) ?_
      have main : ∀ (d i : Nat), i + d + 1 = w.length → Ev (fun k => impl_Road_isWalk.l0 k w ((i : Int) + 1) n g) (steps n g (w.drop i)) := by
        intro d
        induction d with
        | zero =>
          intro i e
          refine Ev.step (fun k => by rw [impl_Road_isWalk.l0]) ?_
          refine ev_neg (by omega) (ev_some ?_)
          rw [List.drop_eq_getElem_cons (by omega), List.drop_eq_nil_of_le (by omega)]
          rfl
        | succ d ih =>
          intro i e
          refine Ev.step (fun k => by rw [impl_Road_isWalk.l0]) ?_
          rw [show wrap64 ((i : Int) + 1 - 1) = (i : Int) from by unfold wrap64; omega, show wrap64 ((i : Int) + 1 + 1) = ((i + 1 : Nat) : Int) + 1 from by unfold wrap64; omega]
          refine ev_pos (by omega) ?_
          refine ev_pos (by omega) ?_
          refine ev_pos (by omega) ?_
          refine ev_pos (by omega) ?_
          rw [rd_get (n := i) rfl (by omega), rd_get (n := i + 1) (by omega) (by omega), impl_Road_gap.at g ⟨hb.1, hb.2.1⟩ (in_of_all ha _) (in_of_all ha _)]
          have ih := ih (i + 1) (by omega)
          rw [List.drop_eq_getElem_cons (by omega)] at ih ⊢
          rw [List.drop_eq_getElem_cons (show i + 1 < w.length by omega)]
          unfold steps
          simp only [Option.bind_some]
          by_cases hg : gap n g w[i] w[i + 1] ≤ 1
          · refine ev_neg (by omega) ?_
            rw [decide_eq_true hg, Bool.true_and]
            exact ih
          · refine ev_pos (by omega) (ev_some ?_)
            rw [decide_eq_false hg, Bool.false_and]
      have := main (w.length - 1) 0 (by omega)
      simpa using this
    · rw [Bool.not_eq_true] at ha
      rw [ha, Bool.false_and]
      exact ev_pos (by simp) (ev_some rfl)
  · refine ev_neg (by simpa using h) ?_
    rw [decide_eq_false h]
    refine Ev.step (fun k => by rw [impl_Road_isWalk.j0]) ?_
    exact ev_pos rfl (ev_some rfl)
theorem spec_l2Walk.ev (n : Int) (g : Bool) (w : List Int) (hl : w.length ≤ 35184372088832) : Ev (fun k => spec_l2Walk.f k n g w) (okWalk n g w) := by
  unfold spec_l2Walk.f okWalk
  by_cases h0 : w.length = 0
  · obtain rfl := List.eq_nil_of_length_eq_zero h0
    refine Ev.step (fun k => by rw [spec_l2Walk.l0]) ?_
    refine ev_neg (by simp) ?_
    refine Ev.step (fun k => by rw [spec_l2Walk.j1]) ?_
    refine ev_neg (by simp) ?_
    rw [spec_l2Road.at]
    simp only [Option.bind_some]
    by_cases hr : okRoad n g = true
    · rw [hr]
      refine ev_pos rfl ?_
      rw [spec_l1In.at]
      exact ev_some rfl
    · refine ev_neg hr (ev_some ?_)
      rw [Bool.not_eq_true] at hr
      rw [hr]
      rfl
  by_cases hr : okRoad n g = true
  · have hb := okRoad_b hr
    rw [hr, Bool.true_and]
    have main : ∀ (d i : Nat) (hi : i < w.length), i + 1 + d = min w.length 61 → 0 ≤ w[i] ∧ w[i] ≤ n - 1 →
        Ev (fun k => spec_l2Walk.l0 k w ((i : Int) + 1) n g) (decide (1 ≤ (w.length : Int) ∧ (w.length : Int) ≤ 61) && ((w.drop (i + 1)).all fun x => decide (0 ≤ x ∧ x ≤ n - 1)) && steps n g (w.drop i)) := by
      intro d
      induction d with
      | zero =>
        intro i hi e hw
        refine Ev.step (fun k => by rw [spec_l2Walk.l0]) ?_
        have fin : ∀ b : Bool, b = (decide (1 ≤ (w.length : Int) ∧ (w.length : Int) ≤ 61) && ((w.drop (i + 1)).all fun x => decide (0 ≤ x ∧ x ≤ n - 1)) && steps n g (w.drop i)) → decide (1 ≤ (w.length : Int) ∧ (w.length : Int) ≤ 61) = b →
            Ev (fun k => spec_l2Walk.j1 k w ((i : Int) + 1) false n g) (decide (1 ≤ (w.length : Int) ∧ (w.length : Int) ≤ 61) && ((w.drop (i + 1)).all fun x => decide (0 ≤ x ∧ x ≤ n - 1)) && steps n g (w.drop i)) := by
          intro b hb1 hb2
          refine Ev.step (fun k => by rw [spec_l2Walk.j1]) ?_
          refine ev_neg (by simp) ?_
          rw [spec_l2Road.at, hr]
          simp only [Option.bind_some]
          refine ev_pos (by trivial) ?_
          rw [spec_l1In.at]
          exact ev_some (hb2.trans hb1)
        by_cases hc : (i : Int) + 1 < w.length
        · refine ev_pos hc ?_
          rw [decide_eq_false (show ¬ (i : Int) + 1 ≤ 60 by omega)]
          have : ¬ (1 ≤ (w.length : Int) ∧ (w.length : Int) ≤ 61) := by omega
          exact fin false (by rw [decide_eq_false this, Bool.false_and, Bool.false_and]) (by rw [decide_eq_false this])
        · refine ev_neg hc ?_
          have : 1 ≤ (w.length : Int) ∧ (w.length : Int) ≤ 61 := by omega
          refine fin true ?_ (by rw [decide_eq_true this])
          rw [decide_eq_true this, List.drop_eq_getElem_cons hi, List.drop_eq_nil_of_le (by omega)]
          rfl
      | succ d ih =>
        intro i hi e hw
        refine Ev.step (fun k => by rw [spec_l2Walk.l0]) ?_
        refine ev_pos (by omega) ?_
        rw [decide_eq_true (show (i : Int) + 1 ≤ 60 by omega)]
        refine Ev.step (fun k => by rw [spec_l2Walk.j1]) ?_
        refine ev_pos rfl ?_
        rw [show wrap64 ((i : Int) + 1 - 1) = (i : Int) from by unfold wrap64; omega, show wrap64 ((i : Int) + 1 + 1) = ((i + 1 : Nat) : Int) + 1 from by unfold wrap64; omega]
        refine ev_pos (by omega) ?_
        refine ev_pos (by omega) ?_
        rw [rd_get (n := i) rfl (by omega), rd_get (n := i + 1) (by omega) (by omega), spec_l2Place.at, hr, Bool.true_and]
        simp only [Option.bind_some]
        rw [List.drop_eq_getElem_cons (show i + 1 < w.length by omega), List.all_cons]
        by_cases hp : 0 ≤ w[i + 1] ∧ w[i + 1] ≤ n - 1
        · have ih := ih (i + 1) (by omega) (by omega) hp
          refine ev_pos (by simpa using hp) ?_
          refine ev_pos (by omega) ?_
          refine ev_pos (by omega) ?_
          refine ev_pos (by omega) ?_
          rw [spec_l2Gap.at g ⟨hb.1, hb.2.1⟩ hw hp, decide_eq_true hp, Bool.true_and]
          simp only [Option.bind_some]
          rw [List.drop_eq_getElem_cons (show i + 1 < w.length by omega)] at ih
          rw [List.drop_eq_getElem_cons hi, List.drop_eq_getElem_cons (show i + 1 < w.length by omega)]
          rw [show steps n g (w[i] :: w[i + 1] :: w.drop (i + 1 + 1)) = (decide (gap n g w[i] w[i + 1] ≤ 1) && steps n g (w[i + 1] :: w.drop (i + 1 + 1))) from rfl]
          by_cases hg : gap n g w[i] w[i + 1] ≤ 1
          · refine ev_neg (by omega) ?_
            rw [decide_eq_true hg, Bool.true_and]
            exact ih
          · refine ev_pos (by omega) (ev_some ?_)
            rw [decide_eq_false hg, Bool.false_and, Bool.and_false]
        · refine ev_neg (by simpa using hp) (ev_some ?_)
          rw [decide_eq_false hp, Bool.false_and, Bool.and_false, Bool.false_and]
    refine Ev.step (fun k => by rw [spec_l2Walk.l0]) ?_
    refine ev_pos (by omega) ?_
    refine Ev.step (fun k => by rw [spec_l2Walk.j1]) ?_
    refine ev_pos (by simp) ?_
    refine ev_pos (by omega) ?_
    refine ev_pos (by omega) ?_
    rw [rd_get (i := 0) (n := 0) rfl (by omega), spec_l2Place.at, hr, Bool.true_and]
    simp only [Option.bind_some]
    have hall : (w.all fun x => decide (0 ≤ x ∧ x ≤ n - 1)) = (decide (0 ≤ w[0] ∧ w[0] ≤ n - 1) && (w.drop 1).all fun x => decide (0 ≤ x ∧ x ≤ n - 1)) := by
      cases w with
      | nil => simp at h0
      | cons a t => rfl
    rw [hall]
    by_cases hp : 0 ≤ w[0] ∧ w[0] ≤ n - 1
    · refine ev_pos (by simpa using hp) ?_
      refine ev_neg (by omega) ?_
      rw [decide_eq_true hp, Bool.true_and]
      have := main (min w.length 61 - 1) 0 (by omega) (by omega) hp
      rw [show wrap64 (0 + 1) = ((0 : Nat) : Int) + 1 from by unfold wrap64; omega]
      simpa using this
    · refine ev_neg (by simpa using hp) (ev_some ?_)
      rw [decide_eq_false hp, Bool.false_and, Bool.and_false, Bool.false_and]
  · rw [Bool.not_eq_true] at hr
    rw [hr]
    refine Ev.step (fun k => by rw [spec_l2Walk.l0]) ?_
    refine ev_pos (by omega) ?_
    refine Ev.step (fun k => by rw [spec_l2Walk.j1]) ?_
    refine ev_pos (by simp) ?_
    refine ev_pos (by omega) ?_
    refine ev_pos (by omega) ?_
    rw [spec_l2Place.at, hr]
    simp only [Bool.false_and, Option.bind_some]
    exact ev_neg (by simp) (ev_some rfl)
theorem impl_areWalks.ev_all {n : Int} {g : Bool} (hr : okRoad n g = true) : ∀ (l : List (List Int)), (∀ x ∈ l, x.length ≤ 35184372088832) → Ev (fun k => impl_areWalks.all k n g l) (l.all (okWalk n g))
  | [], _ => ev_some rfl
  | x :: t, h => by
    refine Ev.bind (impl_Road_isWalk.ev g x hr (h x (by simp))) ?_
    rw [List.all_cons]
    by_cases hx : okWalk n g x = true
    · refine ev_pos hx ?_
      rw [hx, Bool.true_and]
      exact impl_areWalks.ev_all hr t (fun y hy => h y (by simp [hy]))
    · refine ev_neg hx (ev_some ?_)
      rw [Bool.not_eq_true] at hx
      rw [hx, Bool.false_and]
theorem impl_areWalks.ev (n : Int) (g : Bool) (l : List (List Int)) (h : ∀ x ∈ l, x.length ≤ 35184372088832) : Ev (fun k => impl_areWalks.f k n g l) (okRoad n g && l.all (okWalk n g)) := by
  unfold impl_areWalks.f
  rw [impl_IsRoad.at]
  simp only [Option.bind_some]
  by_cases hr : okRoad n g = true
  · refine ev_pos hr ?_
    rw [hr, Bool.true_and]
    exact impl_areWalks.ev_all hr l h
  · refine ev_neg hr (ev_some ?_)
    rw [Bool.not_eq_true] at hr
    rw [hr, Bool.false_and]
theorem impl_areWalks.ev1 (n : Int) (g : Bool) (w : List Int) (h : w.length ≤ 35184372088832) : Ev (fun k => impl_areWalks.f k n g [w]) (okWalk n g w) := by
  have := impl_areWalks.ev n g [w] (fun x hx => by simp at hx; subst hx; exact h)
  rw [List.all_cons, List.all_nil, Bool.and_true] at this
  by_cases hw : okWalk n g w = true
  · rw [hw, (okWalk_b hw).1, Bool.true_and] at this
    rw [hw]
    exact this
  · rw [Bool.not_eq_true] at hw
    rw [hw, Bool.and_false] at this
    rw [hw]
    exact this
theorem impl_areWalks.ev2 (n : Int) (g : Bool) (a b : List Int) (h : a.length ≤ 35184372088832) (h' : b.length ≤ 35184372088832) : Ev (fun k => impl_areWalks.f k n g [a, b]) (okWalk n g a && okWalk n g b) := by
  have := impl_areWalks.ev n g [a, b] (fun x hx => by simp at hx; rcases hx with rfl | rfl <;> assumption)
  rw [List.all_cons, List.all_cons, List.all_nil, Bool.and_true] at this
  by_cases hw : okWalk n g a = true
  · rw [hw, (okWalk_b hw).1, Bool.true_and] at this
    rw [hw]
    exact this
  · rw [Bool.not_eq_true] at hw
    rw [hw, Bool.false_and, Bool.and_false] at this
    rw [hw, Bool.false_and]
    exact this
theorem dig_at (d : Nat) (h : d < 10) : (⟨#[48, 49, 50, 51, 52, 53, 54, 55, 56, 57]⟩ : ByteArray).extract d (d + 1) = ⟨#[UInt8.ofNat (48 + d)]⟩ := by
  have : ∀ q : Fin 10, (⟨#[48, 49, 50, 51, 52, 53, 54, 55, 56, 57]⟩ : ByteArray).extract q.1 (q.1 + 1) = ⟨#[UInt8.ofNat (48 + q.1)]⟩ := by decide +kernel
  exact this ⟨d, h⟩
theorem dec_len (m : Nat) : (Go.Lib.decDigits m).length ≤ m + 1 := by
  induction m using Nat.strongRecOn with
  | _ m ih =>
    unfold Go.Lib.decDigits
    by_cases h : m < 10
    · rw [dif_pos h]
      simp
    · rw [dif_neg h]
      have := ih (m / 10) (by omega)
      simp
      omega
theorem ba_app (a b : List UInt8) : (⟨a.toArray⟩ : ByteArray) ++ (⟨b.toArray⟩ : ByteArray) = ⟨(a ++ b).toArray⟩ := by
  apply ByteArray.ext
  rw [ByteArray.data_append]
  simp
theorem ba_size (a : List UInt8) : (⟨a.toArray⟩ : ByteArray).size = a.length := by simp [ByteArray.size]
theorem num_nat (m : Nat) : m ≤ 1000000000 → Ev (fun k => spec_l1Num.f k (m : Int)) ⟨(Go.Lib.decDigits m).toArray⟩ := by
  induction m using Nat.strongRecOn with
  | _ m ih =>
    intro hm
    refine Ev.step (fun k => by rw [spec_l1Num.f]) ?_
    refine ev_neg (by omega) ?_
    by_cases h : m < 10
    · refine ev_pos (by omega) ?_
      refine ev_pos (by omega) ?_
      have hw : wrap64 ((m : Int) + 1) = ((m + 1 : Nat) : Int) := by rw [w64 (by omega) (by omega)]; omega
      simp only [hw]
      refine ev_pos (by omega) ?_
      refine ev_pos (by omega) ?_
      refine ev_some ?_
      rw [Int.toNat_natCast, Int.toNat_natCast, dig_at m h, Go.Lib.decDigits, dif_pos h]
    · refine ev_neg (by omega) ?_
      have h1 : Int.tdiv (m : Int) 10 = ((m / 10 : Nat) : Int) := by rw [Int.tdiv_eq_ediv_of_nonneg (by omega)]; omega
      have h2 : Int.tmod (m : Int) 10 = ((m % 10 : Nat) : Int) := by rw [Int.tmod_eq_emod_of_nonneg (by omega)]; omega
      have hw : wrap64 ((m / 10 : Nat) : Int) = ((m / 10 : Nat) : Int) := w64 (by omega) (by omega)
      have hw2 : wrap64 (((m % 10 : Nat) : Int) + 1) = ((m % 10 + 1 : Nat) : Int) := by rw [w64 (by omega) (by omega)]; omega
      simp only [h1, h2, hw, hw2]
      refine Ev.bind (ih (m / 10) (by omega) (by omega)) ?_
      refine ev_pos (by omega) ?_
      refine ev_pos (by omega) ?_
      refine ev_pos (by omega) ?_
      rw [Int.toNat_natCast, Int.toNat_natCast, dig_at (m % 10) (by omega)]
      have hl := dec_len (m / 10)
      refine ev_pos ?_ ?_
      · rw [ba_size]
        simp [ByteArray.size]
        omega
      · refine ev_some ?_
        have e := Go.Lib.decDigits
        rw [show (⟨#[UInt8.ofNat (48 + m % 10)]⟩ : ByteArray) = ⟨([UInt8.ofNat (48 + m % 10)] : List UInt8).toArray⟩ from rfl, ba_app]
        conv => rhs; rw [Go.Lib.decDigits, dif_neg h]
theorem spec_l1Num.ev (n : Int) (h0 : -1000000000 ≤ n) (h1 : n ≤ 1000000000) : Ev (fun k => spec_l1Num.f k n) ⟨(Go.Lib.itoa n).toArray⟩ := by
  by_cases h : n < 0
  · refine Ev.step (fun k => by rw [spec_l1Num.f]) ?_
    refine ev_pos h ?_
    have hw : wrap64 (-n) = ((n.natAbs : Nat) : Int) := by rw [w64 (by omega) (by omega)]; omega
    simp only [hw]
    refine Ev.bind (num_nat n.natAbs (by omega)) ?_
    have hl := dec_len n.natAbs
    refine ev_pos ?_ ?_
    · rw [ba_size]
      omega
    · refine ev_some ?_
      rw [show (⟨#[45]⟩ : ByteArray) = ⟨([45] : List UInt8).toArray⟩ from rfl, ba_app, Go.Lib.itoa, if_pos h]
      rfl
  · obtain ⟨m, rfl⟩ : ∃ m : Nat, n = m := ⟨n.toNat, by omega⟩
    rw [Go.Lib.itoa, if_neg h]
    exact num_nat m (by omega)
theorem strconv_Itoa.at (n : Int) (h0 : -1000000000 ≤ n) (h1 : n ≤ 1000000000) : strconv_Itoa.f n = some ⟨(Go.Lib.itoa n).toArray⟩ := by
  unfold strconv_Itoa.f
  rw [if_pos ⟨by omega, by omega⟩]
/-- Does the byte stand in the text, from place i on? -/
def standsAt (s : ByteArray) (c : UInt8) (i : Nat) : Bool := (s.data.toList.drop i).contains c
theorem bt_eq (s : ByteArray) (i : Nat) (h : i < s.size) : bt s i = (s.data.toList[i]'(by simpa using h)).toNat := by
  unfold bt
  rw [dif_pos (by rw [Int.toNat_natCast]; exact h)]
  simp only [Int.toNat_natCast, Array.getElem_toList]
  rfl
theorem index_has (l : List UInt8) (c : UInt8) : decide (0 ≤ Go.Lib.indexByte l c) = l.contains c := by
  induction l with
  | nil => rfl
  | cons b t ih =>
    unfold Go.Lib.indexByte
    rw [List.contains_cons]
    by_cases h : b = c
    · subst h
      simp
    · rw [if_neg (by simpa using h), show (c == b) = false from by simpa using fun e => h e.symm, Bool.false_or, ← ih]
      by_cases h2 : Go.Lib.indexByte t c == -1
      · rw [if_pos h2]
        have := beq_iff_eq.mp h2
        rw [this]
      · rw [if_neg h2]
        have h3 : Go.Lib.indexByte t c ≠ -1 := by simpa using h2
        have h4 := Go.Lib.indexByte_ge t c
        exact decide_eq_decide.mpr ⟨fun _ => by omega, fun _ => by omega⟩
/-- A piece that is under way, laid ahead of what follows. -/
def glue (p : List UInt8) : List (List UInt8) → List (List UInt8)
  | [] => [p]
  | x :: r => (p ++ x) :: r
/-- The parts of a text between bytes. -/
def parts (c : UInt8) : List UInt8 → List (List UInt8)
  | [] => [[]]
  | b :: t => if b = c then [] :: parts c t else glue [b] (parts c t)
theorem glue_ne (p : List UInt8) (L : List (List UInt8)) : glue p L ≠ [] := by cases L <;> simp [glue]
theorem parts_ne (c : UInt8) (l : List UInt8) : parts c l ≠ [] := by
  cases l with
  | nil => simp [parts]
  | cons b t =>
    unfold parts
    by_cases h : b = c
    · rw [if_pos h]; simp
    · rw [if_neg h]; exact glue_ne _ _
theorem glue_nil {L : List (List UInt8)} (h : L ≠ []) : glue [] L = L := by
  cases L with
  | nil => exact absurd rfl h
  | cons x r => rfl
theorem glue_glue (p : List UInt8) (b : UInt8) {L : List (List UInt8)} (h : L ≠ []) : glue p (glue [b] L) = glue (p ++ [b]) L := by
  cases L with
  | nil => exact absurd rfl h
  | cons x r => simp [glue]
theorem parts_head (c : UInt8) : ∀ l : List UInt8, ∃ r, parts c l = l.takeWhile (· != c) :: r
  | [] => ⟨[], rfl⟩
  | b :: t => by
    obtain ⟨r, hr⟩ := parts_head c t
    unfold parts
    by_cases h : b = c
    · rw [if_pos h]
      exact ⟨parts c t, by rw [List.takeWhile_cons]; simp [h]⟩
    · rw [if_neg h, hr]
      exact ⟨r, by simp [glue, h]⟩
def ba (l : List UInt8) : ByteArray := ⟨l.toArray⟩
theorem ba_data (s : ByteArray) : ba s.data.toList = s := by
  unfold ba
  apply ByteArray.ext
  simp
theorem ba_toList (l : List UInt8) : (ba l).data.toList = l := by simp [ba]
theorem ba_len (l : List UInt8) : (ba l).size = l.length := by simp [ba, ByteArray.size]
theorem extract_ba (s : ByteArray) (a b : Nat) : s.extract a b = ba ((s.data.toList.drop a).take (b - a)) := by
  rw [← Go.Lib.extract_data]
  exact (ba_data _).symm
theorem size_data (s : ByteArray) : s.data.toList.length = s.size := by
  rw [Array.length_toList]
  rfl
theorem split_ev (s : ByteArray) (c : UInt8) (hs : s.size ≤ 1048576) : ∀ (d i f : Nat) (out : List ByteArray), i + d = s.size → f ≤ i → out.length ≤ i →
    Ev (fun k => spec_l1Split.l0 k s c.toNat out f i) (out ++ (glue ((s.data.toList.drop f).take (i - f)) (parts c (s.data.toList.drop i))).map ba) := by
  intro d
  induction d with
  | zero =>
    intro i f out e hf ho
    refine Ev.step (fun k => by rw [spec_l1Split.l0]) ?_
    refine ev_neg (by omega) ?_
    refine ev_pos (by omega) ?_
    refine ev_pos (by omega) ?_
    refine ev_pos (by omega) ?_
    refine ev_some ?_
    have hz : i = s.size := by omega
    subst hz
    rw [List.drop_eq_nil_of_le (i := s.size) (by rw [size_data]; omega), Int.toNat_natCast, extract_ba]
    simp [parts, glue]
  | succ d ih =>
    intro i f out e hf ho
    refine Ev.step (fun k => by rw [spec_l1Split.l0]) ?_
    refine ev_pos (by omega) ?_
    refine ev_pos (by omega) ?_
    have hi : i < s.size := by omega
    have hl : i < s.data.toList.length := by rw [size_data]; exact hi
    have hw : wrap64 ((i : Int) + 1) = ((i + 1 : Nat) : Int) := by rw [w64 (by omega) (by omega)]; omega
    rw [bt_eq s i hi, List.drop_eq_getElem_cons hl]
    by_cases h : s.data.toList[i] = c
    · refine ev_pos (by rw [h]) ?_
      refine ev_pos (by omega) ?_
      refine ev_pos (by omega) ?_
      refine ev_pos (by omega) ?_
      refine ev_pos (by omega) ?_
      simp only [hw, Int.toNat_natCast]
      have hh := ih (i + 1) (i + 1) (out ++ [s.extract f i]) (by omega) (Nat.le_refl _) (by simp; omega)
      rw [Nat.sub_self, List.take_zero, glue_nil (parts_ne _ _)] at hh
      have e2 : out ++ (glue ((s.data.toList.drop f).take (i - f)) (parts c (s.data.toList[i] :: s.data.toList.drop (i + 1)))).map ba = (out ++ [s.extract f i]) ++ (parts c (s.data.toList.drop (i + 1))).map ba := by
        rw [parts, if_pos h, extract_ba]
        simp [glue]
      rw [e2]
      exact hh
    · refine ev_neg (fun e => h (UInt8.toNat_inj.mp (by omega))) ?_
      simp only [hw]
      have hh := ih (i + 1) f out (by omega) (by omega) (by omega)
      have e3 : (s.data.toList.drop f).take (i + 1 - f) = (s.data.toList.drop f).take (i - f) ++ [s.data.toList[i]] := by
        rw [show i + 1 - f = (i - f) + 1 by omega, List.take_add_one, List.getElem?_drop, show f + (i - f) = i by omega, List.getElem?_eq_getElem hl]
        rfl
      rw [parts, if_neg h, glue_glue _ _ (parts_ne _ _), ← e3]
      exact hh
theorem spec_l1Split.ev (s : ByteArray) (c : UInt8) (hs : s.size ≤ 1048576) : Ev (fun k => spec_l1Split.f k s c.toNat) ((parts c s.data.toList).map ba) := by
  have h := split_ev s c hs s.size 0 0 [] (by omega) (Nat.le_refl _) (Nat.le_refl _)
  rw [List.drop_zero, Nat.sub_self, List.take_zero, glue_nil (parts_ne _ _), List.nil_append] at h
  exact h
theorem index_take (l : List UInt8) (c : UInt8) : (Go.Lib.indexByte l c = -1 ∧ l.takeWhile (· != c) = l ∧ c ∉ l) ∨ ∃ i : Nat, Go.Lib.indexByte l c = i ∧ l.takeWhile (· != c) = l.take i ∧ i < l.length := by
  induction l with
  | nil => exact .inl ⟨rfl, rfl, by simp⟩
  | cons b t ih =>
    unfold Go.Lib.indexByte
    by_cases h : b = c
    · subst h
      exact .inr ⟨0, by simp, by simp, by simp⟩
    · rw [if_neg (by simpa using h)]
      have hb : (b != c) = true := by simpa using h
      rcases ih with ⟨h1, h2, h3⟩ | ⟨i, h1, h2, h3⟩
      · exact .inl ⟨by rw [h1]; rfl, by rw [List.takeWhile_cons, hb, if_pos rfl, h2], by simp [h3]; exact fun e => h e.symm⟩
      · refine .inr ⟨i + 1, ?_, ?_, by simp; omega⟩
        · rw [h1, if_neg (by intro e; have := beq_iff_eq.mp e; omega)]
          rfl
        · rw [List.takeWhile_cons, hb, if_pos rfl, h2, List.take_succ_cons]
theorem cut_fst (l : List UInt8) (c : UInt8) : (Go.Lib.cut l [c]).1 = l.takeWhile (· != c) := by
  unfold Go.Lib.cut
  rw [Go.Lib.index_one]
  rcases index_take l c with ⟨h1, h2, h3⟩ | ⟨i, h1, h2, h3⟩
  · rw [h1, if_neg (by decide), h2]
  · rw [h1, if_pos (by omega), h2]
    simp
theorem parts_none {c : UInt8} : ∀ {l : List UInt8}, c ∉ l → parts c l = [l]
  | [], _ => rfl
  | b :: t, h => by
    have h1 : ¬ b = c := fun e => h (by simp [e])
    rw [parts, if_neg h1, parts_none (fun e => h (by simp [e]))]
    rfl
theorem parts_hit {c : UInt8} : ∀ {l : List UInt8} {i : Nat}, Go.Lib.indexByte l c = i → parts c l = l.take i :: parts c (l.drop (i + 1)) ∧ l.count c = 1 + (l.drop (i + 1)).count c
  | [], i, h => by
    have : (-1 : Int) = i := h
    omega
  | b :: t, i, h => by
    unfold Go.Lib.indexByte at h
    by_cases e : b = c
    · subst e
      rw [if_pos (by simp)] at h
      have hi : i = 0 := by omega
      subst hi
      refine ⟨by rw [parts, if_pos rfl]; rfl, ?_⟩
      rw [List.count_cons_self]
      simp
      omega
    · rw [if_neg (by simpa using e)] at h
      by_cases q : (Go.Lib.indexByte t c == -1) = true
      · rw [if_pos q] at h
        omega
      · rw [if_neg q] at h
        have hge := Go.Lib.indexByte_ge t c
        have hne : Go.Lib.indexByte t c ≠ -1 := by simpa using q
        obtain ⟨j, hj⟩ : ∃ j : Nat, Go.Lib.indexByte t c = j := ⟨(Go.Lib.indexByte t c).toNat, by omega⟩
        have hij : i = j + 1 := by omega
        subst hij
        obtain ⟨p1, p2⟩ := parts_hit hj
        refine ⟨?_, ?_⟩
        · rw [parts, if_neg e, p1]
          rfl
        · rw [List.count_cons_of_ne (by simpa using e), p2]
          rfl
theorem splitK_parts (c : UInt8) : ∀ (k : Nat) (l : List UInt8), l.count c ≤ k → Go.Lib.splitK [c] 0 k l = parts c l
  | 0, l, h => by
    rw [parts_none (by rw [← List.count_eq_zero]; omega)]
    rfl
  | k + 1, l, h => by
    unfold Go.Lib.splitK
    rw [Go.Lib.index_one]
    rcases index_take l c with ⟨h1, _, h3⟩ | ⟨i, h1, _, _⟩
    · rw [if_pos (by rw [h1]; rfl), parts_none h3]
    · obtain ⟨p1, p2⟩ := parts_hit h1
      rw [if_neg (by rw [h1]; intro e; have := eq_of_beq e; omega), p1, h1]
      have := splitK_parts c k (l.drop (i + 1)) (by omega)
      simp only [Int.toNat_natCast, Nat.add_zero, List.length_singleton]
      rw [this]
theorem strings_Split.at (s : ByteArray) (c : UInt8) (hs : s.size < 4294967281) : strings_Split.f s ⟨#[c]⟩ = some ((parts c s.data.toList).map ba) := by
  unfold strings_Split.f
  rw [if_pos ⟨hs, show 1 ≤ (⟨#[c]⟩ : ByteArray).size from Nat.le_refl 1⟩]
  have h := Go.Lib.splitB_data ⟨#[c]⟩ 0 (Go.Lib.countB s ⟨#[c]⟩) s
  rw [show (⟨#[c]⟩ : ByteArray).data.toList = [c] from rfl, splitK_parts c _ _ (by rw [show Go.Lib.countB s ⟨#[c]⟩ = Go.Lib.count s.data.toList [c] from rfl, Go.Lib.count_one]; exact Nat.le_refl _)] at h
  rw [← h, List.map_map]
  congr 1
  have e : (ba ∘ fun x : ByteArray => x.data.toList) = id := funext fun x => ba_data x
  rw [e, List.map_id]
theorem parts_length (c : UInt8) : ∀ l : List UInt8, (parts c l).length ≤ l.length + 1
  | [] => by simp [parts]
  | b :: t => by
    have := parts_length c t
    unfold parts
    by_cases h : b = c
    · rw [if_pos h]; simp; omega
    · rw [if_neg h]
      cases hp : parts c t with
      | nil => simp [glue]
      | cons x r =>
        rw [hp] at this
        simp [glue] at this ⊢
        omega
theorem rdOf_get {xs : List ByteArray} {i : Int} {n : Nat} (h : i = n) (hn : n < xs.length) : rdOf ByteArray.empty xs i = xs[n] := by
  subst h
  simp [rdOf, List.getD_eq_getElem?_getD, List.getElem?_eq_getElem hn]
def dl (l : List ByteArray) : List (List UInt8) := l.map (·.data.toList)
/-- The parts joined, if no one holds the sign and the whole is not too long. -/
def joinOf (l : List ByteArray) (c : UInt8) : ByteArray × Bool :=
  if (l.all fun x => !x.data.toList.contains c) = true ∧ (Go.Lib.join (dl l) [c]).length ≤ 4000 then (ba (Go.Lib.join (dl l) [c]), true) else (⟨#[]⟩, false)
/-- What is behind a beginning. -/
def joinMore (out : ByteArray) (t : List ByteArray) (c : UInt8) : ByteArray × Bool :=
  if (t.all fun x => !x.data.toList.contains c) = true ∧ out.size + (Go.Lib.joinTail [c] (dl t)).length ≤ 4000 then (ba (out.data.toList ++ Go.Lib.joinTail [c] (dl t)), true) else (⟨#[]⟩, false)
theorem jt_cons (c : UInt8) (x : ByteArray) (t : List ByteArray) : Go.Lib.joinTail [c] (dl (x :: t)) = (c :: x.data.toList) ++ Go.Lib.joinTail [c] (dl t) := by simp [Go.Lib.joinTail, dl]
theorem bt_sign (c : UInt8) : bt ⟨#[c]⟩ 0 = c.toNat := rfl
/-- How long the parts are together. -/
def lenOf (l : List ByteArray) : Nat := (l.map (·.size)).sum
theorem lens_dl (l : List ByteArray) : Go.Lib.lens (dl l) = lenOf l := by
  unfold Go.Lib.lens dl lenOf
  rw [List.map_map]
  rfl
theorem join_len (x : ByteArray) (t : List ByteArray) (c : UInt8) : (Go.Lib.join (dl (x :: t)) [c]).length = t.length + lenOf (x :: t) := by
  rw [show dl (x :: t) = x.data.toList :: dl t from rfl, Go.Lib.join_cons, List.length_append, size_data, Go.Lib.joinTail_length, lens_dl]
  simp [dl, lenOf]
  try omega
theorem strings_Join.at' (l : List ByteArray) (c : UInt8) (h1 : l.length ≤ 1048576) (h : (Go.Lib.join (dl l) [c]).length ≤ 4000) : strings_Join.f l ⟨#[c]⟩ = some (ba (Go.Lib.join (dl l) [c])) := by
  unfold strings_Join.f
  have e : (⟨#[c]⟩ : ByteArray).data.toList = [c] := rfl
  rw [e]
  exact if_pos ⟨by omega, Nat.le_trans h (by decide)⟩
def kindOf (g : Bool) : List UInt8 := if g = true then [114, 105, 110, 103, 32] else [108, 105, 110, 101, 32]
def wordOf (x : Int) : ByteArray := ba (Go.Lib.itoa x)
/-- The text of a walk, as a list of bytes. -/
def textL (n : Int) (g : Bool) (w : List Int) : List UInt8 := ((kindOf g ++ Go.Lib.itoa n) ++ [32]) ++ Go.Lib.join (dl (w.map wordOf)) [44]
theorem kind_len (g : Bool) : (kindOf g).length = 5 := by cases g <;> rfl
theorem itoa_short {x : Int} (h0 : 0 ≤ x) (h1 : x ≤ 24) : (Go.Lib.itoa x).length ≤ 25 := by
  unfold Go.Lib.itoa
  rw [if_neg (by omega)]
  have := dec_len x.toNat
  omega
theorem ba_append (a b : List UInt8) : ba a ++ ba b = ba (a ++ b) := ba_app a b
theorem num_word (x : Int) (h0 : 0 ≤ x) (h1 : x ≤ 24) : Ev (fun k => spec_l1Num.f k x) (wordOf x) := spec_l1Num.ev x (by omega) (by omega)
theorem itoa_word (x : Int) (h0 : 0 ≤ x) (h1 : x ≤ 24) : strconv_Itoa.f x = some (wordOf x) := strconv_Itoa.at x (by omega) (by omega)
theorem word_size {x : Int} (h0 : 0 ≤ x) (h1 : x ≤ 24) : (wordOf x).size ≤ 25 := by
  unfold wordOf
  rw [ba_len]
  exact itoa_short h0 h1
theorem textLoop_ev (w : List Int) (hw : w.length ≤ 61) (hb : ∀ x ∈ w, 0 ≤ x ∧ x ≤ 24) : ∀ (d i : Nat) (s : List UInt8), i + d = w.length → 0 < i → s.length ≤ 1000 + 100 * i →
    Ev (fun k => spec_l2Text.l0 k w (ba s) i) (ba (s ++ Go.Lib.joinTail [44] (dl ((w.drop i).map wordOf)))) := by
  intro d
  induction d with
  | zero =>
    intro i s e hp hs
    refine Ev.step (fun k => by rw [spec_l2Text.l0]) ?_
    refine ev_neg (by omega) (ev_some ?_)
    rw [List.drop_eq_nil_of_le (by omega)]
    simp [Go.Lib.joinTail, dl]
  | succ d ih =>
    intro i s e hp hs
    have hi : i < w.length := by omega
    obtain ⟨b0, b1⟩ := hb w[i] (List.getElem_mem hi)
    have hz := word_size b0 b1
    refine Ev.step (fun k => by rw [spec_l2Text.l0]) ?_
    refine ev_pos (by omega) ?_
    refine ev_pos (by omega) ?_
    have hsz : (ba s).size = s.length := ba_len s
    refine ev_pos (by omega) ?_
    refine ev_pos (by omega) ?_
    rw [rd_get rfl hi]
    refine Ev.bind (num_word w[i] b0 b1) ?_
    have e1 : ba s ++ (⟨#[44]⟩ : ByteArray) = ba (s ++ [44]) := ba_append s [44]
    rw [e1]
    refine ev_pos (by rw [ba_len]; simp; omega) ?_
    have e2 : ba (s ++ [44]) ++ wordOf w[i] = ba ((s ++ [44]) ++ Go.Lib.itoa w[i]) := ba_append _ _
    rw [e2, w64 (x := (i : Int) + 1) (by omega) (by omega)]
    have hh := ih (i + 1) ((s ++ [44]) ++ Go.Lib.itoa w[i]) (by omega) (by omega) (by have := itoa_short b0 b1; simp; omega)
    rw [List.drop_eq_getElem_cons hi, List.map_cons, jt_cons]
    have e3 : (s ++ [44] ++ Go.Lib.itoa w[i]) ++ Go.Lib.joinTail [44] (dl ((w.drop (i + 1)).map wordOf)) = s ++ (44 :: (wordOf w[i]).data.toList ++ Go.Lib.joinTail [44] (dl ((w.drop (i + 1)).map wordOf))) := by
      rw [wordOf, ba_toList]
      simp
    rw [← e3]
    exact hh
theorem text_more (n : Int) (g : Bool) (w : List Int) (hn : 0 ≤ n ∧ n ≤ 24) (hw : 1 ≤ w.length ∧ w.length ≤ 61) (hb : ∀ x ∈ w, 0 ≤ x ∧ x ≤ 24) : Ev (fun k => spec_l2Text.j0 k w (ba (kindOf g)) n g) (ba (textL n g w)) := by
  refine Ev.step (fun k => by rw [spec_l2Text.j0]) ?_
  refine Ev.bind (num_word n hn.1 hn.2) ?_
  have hk := kind_len g
  have hz := itoa_short hn.1 hn.2
  have e1 : ba (kindOf g) ++ wordOf n = ba (kindOf g ++ Go.Lib.itoa n) := ba_append _ _
  have e2 : ba (kindOf g ++ Go.Lib.itoa n) ++ (⟨#[32]⟩ : ByteArray) = ba ((kindOf g ++ Go.Lib.itoa n) ++ [32]) := ba_append _ [32]
  have hzw := word_size hn.1 hn.2
  refine ev_pos (by rw [ba_len]; omega) ?_
  rw [e1]
  refine ev_pos (by rw [ba_len]; simp; omega) ?_
  rw [e2]
  unfold textL
  cases w with
  | nil => simp at hw
  | cons x t =>
    obtain ⟨b0, b1⟩ := hb x (by simp)
    have hx := itoa_short b0 b1
    have hxw := word_size b0 b1
    refine Ev.step (fun k => by rw [spec_l2Text.l0]) ?_
    refine ev_pos (by rw [List.length_cons]; omega) ?_
    refine ev_neg (by omega) ?_
    refine ev_pos (by omega) ?_
    rw [show rd (x :: t) 0 = x from rfl]
    refine Ev.bind (num_word x b0 b1) ?_
    refine ev_pos (by rw [ba_len]; simp; omega) ?_
    have e3 : ba ((kindOf g ++ Go.Lib.itoa n) ++ [32]) ++ wordOf x = ba (((kindOf g ++ Go.Lib.itoa n) ++ [32]) ++ Go.Lib.itoa x) := ba_append _ _
    rw [e3, show wrap64 ((0 : Int) + 1) = ((1 : Nat) : Int) from by rw [w64 (by omega) (by omega)]; rfl]
    have hh := textLoop_ev (x :: t) hw.2 hb t.length 1 (((kindOf g ++ Go.Lib.itoa n) ++ [32]) ++ Go.Lib.itoa x) (by simp; omega) (by omega) (by simp; omega)
    have e4 : Go.Lib.join (dl ((x :: t).map wordOf)) [44] = Go.Lib.itoa x ++ Go.Lib.joinTail [44] (dl (t.map wordOf)) := by
      rw [List.map_cons, show dl (wordOf x :: t.map wordOf) = (wordOf x).data.toList :: dl (t.map wordOf) from rfl, Go.Lib.join_cons, wordOf, ba_toList]
    rw [e4, ← List.append_assoc]
    exact hh
theorem spec_l2Text.ev (n : Int) (g : Bool) (w : List Int) (hn : 0 ≤ n ∧ n ≤ 24) (hw : 1 ≤ w.length ∧ w.length ≤ 61) (hb : ∀ x ∈ w, 0 ≤ x ∧ x ≤ 24) : Ev (fun k => spec_l2Text.f k n g w) (ba (textL n g w)) := by
  unfold spec_l2Text.f
  cases g with
  | true => exact ev_pos rfl (text_more n true w hn hw hb)
  | false => exact ev_neg (by simp) (text_more n false w hn hw hb)
theorem words_len (w : List Int) (hb : ∀ x ∈ w, 0 ≤ x ∧ x ≤ 24) : lenOf (w.map wordOf) ≤ 25 * w.length := by
  induction w with
  | nil => simp [lenOf]
  | cons x t ih =>
    obtain ⟨b0, b1⟩ := hb x (by simp)
    have hz := word_size b0 b1
    have := ih (fun y hy => hb y (by simp [hy]))
    simp [lenOf] at this ⊢
    omega
theorem join_words (w : List Int) (hw : 1 ≤ w.length ∧ w.length ≤ 61) (hb : ∀ x ∈ w, 0 ≤ x ∧ x ≤ 24) : strings_Join.f (w.map wordOf) ⟨#[44]⟩ = some (ba (Go.Lib.join (dl (w.map wordOf)) [44])) ∧ (Go.Lib.join (dl (w.map wordOf)) [44]).length ≤ 2000 := by
  have hl := words_len w hb
  cases w with
  | nil => simp at hw
  | cons x t =>
    have hj := join_len (wordOf x) (t.map wordOf) 44
    rw [← List.map_cons] at hj
    rw [List.length_map] at hj
    simp only [List.length_cons] at hw hl
    exact ⟨strings_Join.at' _ 44 (by rw [List.length_map, List.length_cons]; omega) (by omega), by omega⟩
theorem decLoop_ev (w : List Int) (hw : 1 ≤ w.length ∧ w.length ≤ 61) (hb : ∀ x ∈ w, 0 ≤ x ∧ x ≤ 24) : ∀ (d i : Nat), i + d = w.length →
    Ev (fun k => impl_decimals.l0 k ⟨#[44]⟩ ((w.take i).map wordOf) w (w.length : Int) i) (ba (Go.Lib.join (dl (w.map wordOf)) [44])) := by
  intro d
  induction d with
  | zero =>
    intro i e
    refine Ev.step (fun k => by rw [impl_decimals.l0]) ?_
    refine ev_neg (by omega) ?_
    rw [List.take_of_length_le (by omega)]
    refine Ev.bind (ev_const (join_words w hw hb).1) ?_
    exact ev_some rfl
  | succ d ih =>
    intro i e
    have hi : i < w.length := by omega
    obtain ⟨b0, b1⟩ := hb w[i] (List.getElem_mem hi)
    refine Ev.step (fun k => by rw [impl_decimals.l0]) ?_
    refine ev_pos (by omega) ?_
    refine ev_pos (by omega) ?_
    refine ev_pos (by omega) ?_
    rw [rd_get rfl hi]
    refine Ev.bind (ev_const (itoa_word w[i] b0 b1)) ?_
    refine ev_pos (by simp; omega) ?_
    rw [w64 (x := (i : Int) + 1) (by omega) (by omega)]
    have hh := ih (i + 1) (by omega)
    rw [List.take_succ_eq_append_getElem hi, List.map_append, List.map_cons, List.map_nil] at hh
    exact hh
theorem impl_decimals.ev (w : List Int) (hw : 1 ≤ w.length ∧ w.length ≤ 61) (hb : ∀ x ∈ w, 0 ≤ x ∧ x ≤ 24) : Ev (fun k => impl_decimals.f k w ⟨#[44]⟩) (ba (Go.Lib.join (dl (w.map wordOf)) [44])) := by
  unfold impl_decimals.f
  exact decLoop_ev w hw hb w.length 0 (by omega)
theorem impl_walkText.ev (n : Int) (g : Bool) (w : List Int) (hn : 0 ≤ n ∧ n ≤ 24) (hw : 1 ≤ w.length ∧ w.length ≤ 61) (hb : ∀ x ∈ w, 0 ≤ x ∧ x ≤ 24) : Ev (fun k => impl_walkText.f k n g w) (ba (textL n g w)) := by
  have hz := word_size hn.1 hn.2
  have hi := itoa_short hn.1 hn.2
  have hj := (join_words w hw hb).2
  unfold impl_walkText.f textL
  cases g with
  | true =>
    have e0 : (⟨#[114, 105, 110, 103]⟩ : ByteArray) ++ (⟨#[32]⟩ : ByteArray) = ba (kindOf true) := ba_append [114, 105, 110, 103] [32]
    have e1 : ba (kindOf true) ++ wordOf n = ba (kindOf true ++ Go.Lib.itoa n) := ba_append _ _
    have e2 : ba (kindOf true ++ Go.Lib.itoa n) ++ (⟨#[32]⟩ : ByteArray) = ba ((kindOf true ++ Go.Lib.itoa n) ++ [32]) := ba_append _ [32]
    have hk := kind_len true
    refine ev_pos rfl ?_
    refine ev_pos (by decide) ?_
    refine Ev.bind (ev_const (itoa_word n hn.1 hn.2)) ?_
    rw [e0, e1, e2]
    refine ev_pos (by omega) ?_
    refine ev_pos (by rw [ba_len]; simp; omega) ?_
    refine Ev.bind (impl_decimals.ev w hw hb) ?_
    refine ev_pos (by rw [ba_len, ba_len]; simp; omega) ?_
    exact ev_some (ba_append _ _)
  | false =>
    have e0 : (⟨#[108, 105, 110, 101]⟩ : ByteArray) ++ (⟨#[32]⟩ : ByteArray) = ba (kindOf false) := ba_append [108, 105, 110, 101] [32]
    have e1 : ba (kindOf false) ++ wordOf n = ba (kindOf false ++ Go.Lib.itoa n) := ba_append _ _
    have e2 : ba (kindOf false ++ Go.Lib.itoa n) ++ (⟨#[32]⟩ : ByteArray) = ba ((kindOf false ++ Go.Lib.itoa n) ++ [32]) := ba_append _ [32]
    have hk := kind_len false
    refine ev_neg (by simp) ?_
    refine ev_pos (by decide) ?_
    refine Ev.bind (ev_const (itoa_word n hn.1 hn.2)) ?_
    rw [e0, e1, e2]
    refine ev_pos (by omega) ?_
    refine ev_pos (by rw [ba_len]; simp; omega) ?_
    refine Ev.bind (impl_decimals.ev w hw hb) ?_
    refine ev_pos (by rw [ba_len, ba_len]; simp; omega) ?_
    exact ev_some (ba_append _ _)
theorem walk_bounds {n : Int} {g : Bool} {w : List Int} (h : okWalk n g w = true) : (0 ≤ n ∧ n ≤ 24) ∧ (1 ≤ w.length ∧ w.length ≤ 61) ∧ ∀ x ∈ w, 0 ≤ x ∧ x ≤ 24 := by
  obtain ⟨h1, h2, h3, h4, _⟩ := okWalk_b h
  obtain ⟨r1, r2, _⟩ := okRoad_b h1
  exact ⟨⟨by omega, r2⟩, ⟨h2, h3⟩, fun x hx => by have := h4 x hx; omega⟩
open Go.Lib in
theorem decFrom_snoc (b : UInt8) : ∀ (l : List UInt8) (acc : Nat), decFrom acc (l ++ [b]) = (decFrom acc l).bind fun n => (digitVal b).map fun d => n * 10 + d
  | [], acc => by
    simp only [List.nil_append, decFrom, Option.bind_some]
    cases digitVal b <;> rfl
  | a :: t, acc => by
    simp only [List.cons_append, decFrom]
    cases digitVal a with
    | none => rfl
    | some d => exact decFrom_snoc b t _
theorem digit_of (d : Nat) (h : d < 10) : Go.Lib.digitVal (UInt8.ofNat (48 + d)) = some d := by
  have : ∀ q : Fin 10, Go.Lib.digitVal (UInt8.ofNat (48 + q.1)) = some q.1 := by decide +kernel
  exact this ⟨d, h⟩
theorem dec_val (m : Nat) : Go.Lib.decFrom 0 (Go.Lib.decDigits m) = some m := by
  induction m using Nat.strongRecOn with
  | _ m ih =>
    unfold Go.Lib.decDigits
    by_cases h : m < 10
    · rw [dif_pos h]
      simp only [Go.Lib.decFrom, digit_of m h]
      simp
    · rw [dif_neg h, decFrom_snoc, ih (m / 10) (by omega), digit_of (m % 10) (by omega)]
      simp
      omega
theorem dec_ne (m : Nat) : Go.Lib.decDigits m ≠ [] := by
  unfold Go.Lib.decDigits
  by_cases h : m < 10
  · rw [dif_pos h]; simp
  · rw [dif_neg h]; simp
theorem dec_len6 : ∀ (k m : Nat), m < 10 ^ (k + 1) → (Go.Lib.decDigits m).length ≤ k + 1
  | 0, m, h => by
    unfold Go.Lib.decDigits
    rw [dif_pos (by omega)]
    simp
  | k + 1, m, h => by
    unfold Go.Lib.decDigits
    by_cases h2 : m < 10
    · rw [dif_pos h2]; simp
    · rw [dif_neg h2, List.length_append]
      have := dec_len6 k (m / 10) (by rw [Nat.pow_succ] at h; omega)
      simp
      omega
theorem dec_head (m : Nat) : ∃ b r, Go.Lib.decDigits m = b :: r ∧ b ≠ 45 ∧ b ≠ 43 := by
  cases h : Go.Lib.decDigits m with
  | nil => exact absurd h (dec_ne m)
  | cons b r =>
    refine ⟨b, r, rfl, ?_⟩
    have hv := dec_val m
    rw [h] at hv
    obtain ⟨d, hd⟩ := Go.Lib.digit_of_decFrom _ _ _ hv 0 b rfl
    have := Go.Lib.digitVal_eq hd
    exact ⟨by rintro rfl; have := this.1; revert this; decide, by rintro rfl; have := this.1; revert this; decide⟩
theorem decNat_dec (m : Nat) : Go.Lib.decNat (Go.Lib.decDigits m) = some m := by
  unfold Go.Lib.decNat
  rw [if_neg (by simpa using dec_ne m), dec_val]
theorem atoi_itoa (n : Int) : Go.Lib.atoi (Go.Lib.itoa n) = some n := by
  unfold Go.Lib.itoa
  by_cases h : n < 0
  · rw [if_pos h]
    simp only [Go.Lib.atoi]
    rw [if_pos (by rfl), decNat_dec]
    simp only [Option.map_some]
    congr 1
    omega
  · rw [if_neg h]
    obtain ⟨b, r, e, h1, h2⟩ := dec_head n.toNat
    rw [e]
    simp only [Go.Lib.atoi]
    rw [if_neg (by simpa using h1), if_neg (by simpa using h2), ← e, decNat_dec]
    simp only [Option.map_some]
    congr 1
    omega
/-- The number that this text spells, as both sides take it. -/
def Spells (n : Int) (l : List UInt8) : Prop := (-999999 ≤ n ∧ n ≤ 999999) ∧ Go.Lib.itoa n = l
def readOn (l t : List UInt8) : Int × Bool :=
  if 1 ≤ t.length ∧ t.length ≤ 6 then
    match Go.Lib.decFrom 0 t with
    | none => (0, false)
    | some v => if Go.Lib.itoa (if t.length < l.length then -(v : Int) else v) = l then ((if t.length < l.length then -(v : Int) else v), true) else (0, false)
  else (0, false)
def readL (l : List UInt8) : Int × Bool := readOn l (if 1 < l.length ∧ l.head? = some 45 then l.tail else l)
theorem readL_spells {n : Int} {l : List UInt8} (h : Spells n l) : readL l = (n, true) := by
  obtain ⟨⟨h0, h1⟩, rfl⟩ := h
  have hd := dec_ne n.natAbs
  have hd2 := dec_ne n.toNat
  unfold readL readOn
  by_cases hn : n < 0
  · have e : Go.Lib.itoa n = 45 :: Go.Lib.decDigits n.natAbs := by unfold Go.Lib.itoa; rw [if_pos hn]
    have hl := dec_len6 5 n.natAbs (by omega)
    have hp : 0 < (Go.Lib.decDigits n.natAbs).length := List.length_pos_iff.mpr hd
    have c : 1 < (Go.Lib.itoa n).length ∧ (Go.Lib.itoa n).head? = some 45 := by rw [e]; simp; omega
    rw [if_pos c, show (Go.Lib.itoa n).tail = Go.Lib.decDigits n.natAbs from by rw [e]; rfl, if_pos ⟨by omega, by omega⟩, dec_val]
    have hlt : (Go.Lib.decDigits n.natAbs).length < (Go.Lib.itoa n).length := by rw [e]; simp
    simp only [if_pos hlt]
    rw [show -((n.natAbs : Nat) : Int) = n by omega, if_pos rfl]
  · have e : Go.Lib.itoa n = Go.Lib.decDigits n.toNat := by unfold Go.Lib.itoa; rw [if_neg hn]
    have hl := dec_len6 5 n.toNat (by omega)
    have hp : 0 < (Go.Lib.decDigits n.toNat).length := List.length_pos_iff.mpr hd2
    obtain ⟨b, r, eb, hb, _⟩ := dec_head n.toNat
    have c : ¬ (1 < (Go.Lib.itoa n).length ∧ (Go.Lib.itoa n).head? = some 45) := by
      rw [e, eb]
      simp [hb]
    rw [if_neg c, if_pos ⟨by rw [e]; omega, by rw [e]; omega⟩]
    rw [show Go.Lib.decFrom 0 (Go.Lib.itoa n) = some n.toNat by rw [e, dec_val]]
    simp only [Nat.lt_irrefl, if_false]
    rw [show ((n.toNat : Nat) : Int) = n by omega, if_pos rfl]
theorem readOn_cases (l t : List UInt8) : readOn l t = (0, false) ∨ ∃ n, readOn l t = (n, true) ∧ Spells n l := by
  unfold readOn
  by_cases c : 1 ≤ t.length ∧ t.length ≤ 6
  · rw [if_pos c]
    cases hv : Go.Lib.decFrom 0 t with
    | none => exact .inl rfl
    | some v =>
      have hlt := Go.Lib.decFrom_lt _ _ _ hv
      have h6 : 10 ^ t.length ≤ 10 ^ 6 := Nat.pow_le_pow_right (by decide) c.2
      have hv6 : v < 1000000 := by omega
      simp only
      by_cases e : Go.Lib.itoa (if t.length < l.length then -(v : Int) else v) = l
      · rw [if_pos e]
        refine .inr ⟨_, rfl, ⟨?_, e⟩⟩
        by_cases q : t.length < l.length
        · rw [if_pos q]; omega
        · rw [if_neg q]; omega
      · rw [if_neg e]
        exact .inl rfl
  · rw [if_neg c]
    exact .inl rfl
theorem readL_cases (l : List UInt8) : readL l = (0, false) ∨ ∃ n, readL l = (n, true) ∧ Spells n l := readOn_cases l _
theorem impl_ParseInt.at (s : ByteArray) : impl_ParseInt.f s = some (readL s.data.toList) := by
  have hsz := size_data s
  have hit : ∀ n : Int, (⟨(Go.Lib.itoa n).toArray⟩ : ByteArray) = s ↔ Go.Lib.itoa n = s.data.toList := fun n =>
    ⟨fun e => by rw [← e], fun e => by rw [e]⟩
  have key : ∀ n : Int, Spells n s.data.toList → impl_ParseInt.f s = some (n, true) := by
    intro n h
    have ha : Go.Lib.atoi s.data.toList = some n := by rw [← h.2, atoi_itoa]
    have hl : s.size ≤ 7 := by
      rw [← hsz, ← h.2]
      unfold Go.Lib.itoa
      have := h.1
      by_cases hn : n < 0
      · rw [if_pos hn, List.length_cons]
        have := dec_len6 5 n.natAbs (by omega)
        omega
      · rw [if_neg hn]
        have := dec_len6 5 n.toNat (by omega)
        omega
    unfold impl_ParseInt.f
    rw [if_neg (by omega), ha]
    simp only
    rw [if_pos ⟨h.1, (hit n).mpr h.2⟩]
  rcases readL_cases s.data.toList with e | ⟨n, e, h⟩
  · rw [e]
    unfold impl_ParseInt.f
    by_cases c : s.size > 7
    · rw [if_pos c]
    · rw [if_neg c]
      cases ha : Go.Lib.atoi s.data.toList with
      | none => rfl
      | some n =>
        simp only
        by_cases q : (-999999 ≤ n ∧ n ≤ 999999) ∧ (⟨(Go.Lib.itoa n).toArray⟩ : ByteArray) = s
        · have := readL_spells ⟨q.1, (hit n).mp q.2⟩
          rw [e] at this
          exact absurd (congrArg Prod.snd this) (by simp)
        · rw [if_neg q]
  · rw [e, key n h]
theorem readLoop_ev (s t : ByteArray) (ht : t.size ≤ 6) (hs : s.size ≤ 140737488351232) : ∀ (d i n : Nat), i + d = t.size → n + 1 ≤ 10 ^ i →
    Ev (fun k => spec_l1Read.l0 k s t n i) (match Go.Lib.decFrom n (t.data.toList.drop i) with
      | none => (0, false)
      | some v => if Go.Lib.itoa (if t.size < s.size then -(v : Int) else v) = s.data.toList then ((if t.size < s.size then -(v : Int) else v), true) else (0, false)) := by
  intro d
  induction d with
  | zero =>
    intro i n e hn
    have h6 : 10 ^ i ≤ 10 ^ 6 := Nat.pow_le_pow_right (by decide) (by omega)
    refine Ev.step (fun k => by rw [spec_l1Read.l0]) ?_
    refine ev_neg (by omega) ?_
    rw [List.drop_eq_nil_of_le (by rw [size_data]; omega)]
    simp only [Go.Lib.decFrom]
    have hl : ∀ z : Int, (⟨(Go.Lib.itoa z).toArray⟩ : ByteArray).toList = s.toList ↔ Go.Lib.itoa z = s.data.toList := by
      intro z
      rw [ByteArray.toList_eq, ByteArray.toList_eq]
    by_cases c : t.size < s.size
    · simp only [if_pos c]
      refine ev_pos (by omega) ?_
      have hw : wrap64 (-(n : Int)) = -(n : Int) := w64 (by omega) (by omega)
      simp only [hw]
      refine Ev.bind (spec_l1Num.ev _ (by omega) (by omega)) ?_
      by_cases q : Go.Lib.itoa (-(n : Int)) = s.data.toList
      · rw [if_pos q]
        exact ev_pos ((hl _).mpr q) (ev_some rfl)
      · rw [if_neg q]
        exact ev_neg (fun e => q ((hl _).mp e)) (ev_some rfl)
    · simp only [if_neg c]
      refine ev_neg (by omega) ?_
      refine Ev.bind (spec_l1Num.ev _ (by omega) (by omega)) ?_
      by_cases q : Go.Lib.itoa (n : Int) = s.data.toList
      · rw [if_pos q]
        exact ev_pos ((hl _).mpr q) (ev_some rfl)
      · rw [if_neg q]
        exact ev_neg (fun e => q ((hl _).mp e)) (ev_some rfl)
  | succ d ih =>
    intro i n e hn
    have hi : i < t.size := by omega
    have hl : i < t.data.toList.length := by rw [size_data]; exact hi
    have h5 : 10 ^ i ≤ 10 ^ 5 := Nat.pow_le_pow_right (by decide) (by omega)
    refine Ev.step (fun k => by rw [spec_l1Read.l0]) ?_
    refine ev_pos (by omega) ?_
    refine ev_pos (by omega) ?_
    rw [bt_eq t i hi, List.drop_eq_getElem_cons hl]
    simp only [Go.Lib.decFrom]
    by_cases c : 48 ≤ (t.data.toList[i]).toNat ∧ (t.data.toList[i]).toNat ≤ 57
    · rw [show Go.Lib.digitVal t.data.toList[i] = some ((t.data.toList[i]).toNat - 48) by unfold Go.Lib.digitVal; rw [if_pos c]]
      refine ev_neg (by omega) ?_
      refine ev_neg (by omega) ?_
      have hw : wrap64 (wrap64 (10 * (n : Int)) + ((((t.data.toList[i]).toNat : Int) - 48) % 256)) = ((n * 10 + ((t.data.toList[i]).toNat - 48) : Nat) : Int) := by
        rw [w64 (x := 10 * (n : Int)) (by omega) (by omega), w64 (by omega) (by omega)]
        omega
      rw [hw, w64 (x := (i : Int) + 1) (by omega) (by omega)]
      exact ih (i + 1) _ (by omega) (by rw [Nat.pow_succ]; omega)
    · rw [show Go.Lib.digitVal t.data.toList[i] = none by unfold Go.Lib.digitVal; rw [if_neg c]]
      by_cases c2 : ((t.data.toList[i]).toNat : Int) < 48
      · exact ev_pos c2 (ev_some rfl)
      · exact ev_neg c2 (ev_pos (by omega) (ev_some rfl))
theorem readOn_ev (s t : ByteArray) (hs : s.size ≤ 140737488351232) : Ev (fun k => spec_l1Read.j1 k s t) (readOn s.data.toList t.data.toList) := by
  refine Ev.step (fun k => by rw [spec_l1Read.j1]) ?_
  rw [spec_l1In.at]
  simp only [Option.bind_some]
  unfold readOn
  rw [size_data, size_data]
  by_cases c : 1 ≤ t.size ∧ t.size ≤ 6
  · rw [if_pos c]
    refine ev_pos (by simp; omega) ?_
    have h := readLoop_ev s t c.2 hs t.size 0 0 (by omega) (by simp)
    rw [List.drop_zero] at h
    exact h
  · rw [if_neg c]
    exact ev_neg (by simp; omega) (ev_some rfl)
theorem spec_l1Read.ev (s : ByteArray) (hs : s.size ≤ 140737488351232) : Ev (fun k => spec_l1Read.f k s) (readL s.data.toList) := by
  unfold spec_l1Read.f readL
  rw [size_data]
  by_cases c : s.size > 1
  · refine ev_pos (by omega) ?_
    refine ev_pos (by omega) ?_
    refine Ev.step (fun k => by rw [spec_l1Read.j0]) ?_
    have hb := bt_eq s 0 (by omega)
    rw [show ((0 : Nat) : Int) = 0 from rfl] at hb
    rw [hb]
    have hh : s.data.toList.head? = some (s.data.toList[0]'(by rw [size_data]; omega)) := by
      rw [List.head?_eq_getElem?, List.getElem?_eq_getElem]
    rw [hh]
    by_cases q : s.data.toList[0]'(by rw [size_data]; omega) = 45
    · refine ev_pos (by rw [q]; rfl) ?_
      refine ev_pos (by omega) ?_
      rw [if_pos ⟨c, by rw [q]⟩]
      have h := readOn_ev s (s.extract 1 s.size) hs
      rw [show (s.extract 1 s.size).data.toList = s.data.toList.tail by rw [extract_ba, ba_toList, List.take_of_length_le (by rw [List.length_drop, size_data]; omega), List.drop_one]] at h
      exact h
    · refine ev_neg ?_ ?_
      · intro e
        have e2 := beq_iff_eq.mp e
        exact q (UInt8.toNat_inj.mp (by have : (45 : UInt8).toNat = 45 := rfl; omega))
      · rw [if_neg (fun z => q (Option.some.inj z.2))]
        exact readOn_ev s s hs
  · refine ev_neg (by omega) ?_
    refine Ev.step (fun k => by rw [spec_l1Read.j0]) ?_
    refine ev_neg (by simp) ?_
    rw [if_neg (fun z => c z.1)]
    exact readOn_ev s s hs
def fl : Int × Bool × List Int × Bool := (0, false, [], false)
def ringL : List UInt8 := [114, 105, 110, 103]
def lineL : List UInt8 := [108, 105, 110, 101]
def pwEnd (s : List UInt8) (p : Int × Bool) (g : Bool) (q : List (Int × Bool)) : Int × Bool × List Int × Bool :=
  if p.2 = true ∧ (q.all (·.2)) = true ∧ okWalk p.1 g (q.map (·.1)) = true ∧ textL p.1 g (q.map (·.1)) = s then (p.1, g, q.map (·.1), true) else fl
def pwOf (s : List UInt8) : Int × Bool × List Int × Bool :=
  match parts 32 s with
  | [w0, w1, w2] => if w0 = lineL ∨ w0 = ringL then pwEnd s (readL w1) (decide (w0 = ringL)) ((parts 44 w2).map readL) else fl
  | _ => fl
theorem pwEnd_len (s : List UInt8) (p : Int × Bool) (g : Bool) (q : List (Int × Bool)) : (pwEnd s p g q).2.2.1.length ≤ 61 := by
  unfold pwEnd
  by_cases h : p.2 = true ∧ (q.all (·.2)) = true ∧ okWalk p.1 g (q.map (·.1)) = true ∧ textL p.1 g (q.map (·.1)) = s
  · rw [if_pos h]
    exact (okWalk_b h.2.2.1).2.2.1
  · rw [if_neg h]
    simp [fl]
theorem pwOf_len (s : List UInt8) : (pwOf s).2.2.1.length ≤ 61 := by
  unfold pwOf
  split
  · split
    · exact pwEnd_len _ _ _ _
    · simp [fl]
  · simp [fl]
theorem parts_le (c : UInt8) : ∀ (l : List UInt8), ∀ x ∈ parts c l, x.length ≤ l.length
  | [], x, h => by simp [parts] at h; simp [h]
  | b :: t, x, h => by
    have ih := parts_le c t
    unfold parts at h
    by_cases e : b = c
    · rw [if_pos e] at h
      rcases List.mem_cons.mp h with rfl | h
      · simp
      · have := ih x h; simp; omega
    · rw [if_neg e] at h
      cases hp : parts c t with
      | nil => exact absurd hp (parts_ne c t)
      | cons y r =>
        rw [hp] at h ih
        simp only [glue] at h
        rcases List.mem_cons.mp h with rfl | h
        · have := ih y (by simp); simp; omega
        · have := ih x (by simp [h]); simp; omega
theorem toList_ba (l m : List UInt8) : (ba l).toList = m ↔ l = m := by rw [ByteArray.toList_eq, ba_toList]
theorem ba_inj {l m : List UInt8} : ba l = ba m ↔ l = m := ⟨fun e => by rw [← ba_toList l, e, ba_toList], fun e => by rw [e]⟩
theorem readNums_ev (P : List (List UInt8)) (hP : P.length ≤ 1048577) : ∀ (d i : Nat), i + d = P.length →
    Ev (fun k => impl_readNumbers.l0 k (((P.map readL).take i).map (·.1)) (P.map ba) ((P.map ba).length : Int) i) (if (((P.map readL).drop i).all (·.2)) = true then ((P.map readL).map (·.1), true) else ([], false)) := by
  intro d
  induction d with
  | zero =>
    intro i e
    refine Ev.step (fun k => by rw [impl_readNumbers.l0]) ?_
    refine ev_neg (by rw [List.length_map]; omega) (ev_some ?_)
    rw [List.take_of_length_le (by rw [List.length_map]; omega), List.drop_eq_nil_of_le (by rw [List.length_map]; omega)]
    rfl
  | succ d ih =>
    intro i e
    have hi : i < P.length := by omega
    refine Ev.step (fun k => by rw [impl_readNumbers.l0]) ?_
    refine ev_pos (by rw [List.length_map]; omega) ?_
    refine ev_pos (by omega) ?_
    refine ev_pos (by rw [List.length_map]; omega) ?_
    rw [rdOf_get rfl (show i < (P.map ba).length by rw [List.length_map]; exact hi), List.getElem_map]
    refine Ev.bind (ev_const (impl_ParseInt.at (ba P[i]))) ?_
    rw [ba_toList]
    have hd : (P.map readL).drop i = readL P[i] :: (P.map readL).drop (i + 1) := by rw [List.drop_eq_getElem_cons (by rw [List.length_map]; exact hi), List.getElem_map]
    rw [hd, List.all_cons]
    cases hb : (readL P[i]).2 with
    | false =>
      refine ev_neg (by simp) (ev_some ?_)
      rw [Bool.false_and, if_neg (by simp)]
    | true =>
      refine ev_pos rfl ?_
      refine ev_pos (by simp; omega) ?_
      rw [Bool.true_and, w64 (x := (i : Int) + 1) (by omega) (by omega)]
      have hh := ih (i + 1) (by omega)
      rw [List.take_succ_eq_append_getElem (by rw [List.length_map]; exact hi), List.map_append, List.map_cons, List.map_nil, List.getElem_map] at hh
      exact hh
theorem impl_readNumbers.ev (l : List UInt8) (hl : l.length ≤ 1048576) : Ev (fun k => impl_readNumbers.f k (ba l) ⟨#[44]⟩) (if (((parts 44 l).map readL).all (·.2)) = true then (((parts 44 l).map readL).map (·.1), true) else ([], false)) := by
  unfold impl_readNumbers.f
  have hz : (ba l).size = l.length := ba_len l
  refine Ev.bind (ev_const (strings_Split.at (ba l) 44 (by omega))) ?_
  rw [ba_toList]
  have := parts_length 44 l
  exact readNums_ev (parts 44 l) (by omega) (parts 44 l).length 0 (by omega)
theorem impl_ParseWalk.ev (s : ByteArray) (hs : s.size ≤ 1048576) : Ev (fun k => impl_ParseWalk.f k s) (pwOf s.data.toList) := by
  unfold impl_ParseWalk.f
  refine Ev.bind (ev_const (strings_Split.at s 32 (by omega))) ?_
  have hle := parts_le 32 s.data.toList
  rw [size_data] at hle
  unfold pwOf
  match hp : parts 32 s.data.toList with
  | [] => exact ev_some rfl
  | [_] => exact ev_some rfl
  | [_, _] => exact ev_some rfl
  | _ :: _ :: _ :: _ :: _ => exact ev_some rfl
  | [w0, w1, w2] =>
    have h2 : w2.length ≤ s.size := hle w2 (by rw [hp]; simp)
    show Ev (fun k => impl_ParseWalk.go k s (ba w0) (ba w1) (ba w2)) _
    unfold impl_ParseWalk.go
    have e1 : (ba w0 = ⟨#[108, 105, 110, 101]⟩ ∨ ba w0 = ⟨#[114, 105, 110, 103]⟩) ↔ (w0 = lineL ∨ w0 = ringL) := by
      rw [show (⟨#[108, 105, 110, 101]⟩ : ByteArray) = ba lineL from rfl, show (⟨#[114, 105, 110, 103]⟩ : ByteArray) = ba ringL from rfl, ba_inj, ba_inj]
    have e2 : decide (ba w0 = ⟨#[114, 105, 110, 103]⟩) = decide (w0 = ringL) := by
      rw [show (⟨#[114, 105, 110, 103]⟩ : ByteArray) = ba ringL from rfl]
      exact decide_eq_decide.mpr ba_inj
    simp only [e2]
    by_cases c : w0 = lineL ∨ w0 = ringL
    · rw [if_pos c]
      refine ev_pos (e1.mpr c) ?_
      refine Ev.bind (ev_const (impl_ParseInt.at (ba w1))) ?_
      refine Ev.bind (impl_readNumbers.ev w2 (by omega)) ?_
      rw [ba_toList]
      generalize hq : (parts 44 w2).map readL = q
      have hql : q.length ≤ 1048577 := by rw [← hq, List.length_map]; have := parts_length 44 w2; omega
      generalize readL w1 = p
      generalize decide (w0 = ringL) = g
      unfold pwEnd
      cases hall : q.all (·.2) with
      | false =>
        refine ev_neg (by simp) (ev_some ?_)
        rw [if_neg (fun e => by have := e.2.1; simp at this)]
        rfl
      | true =>
        simp only [if_true]
        cases hp2 : p.2 with
        | false =>
          refine ev_neg (by simp) (ev_some ?_)
          rw [if_neg (fun e => by have := e.1; simp at this)]
          rfl
        | true =>
          refine ev_pos (by simp) ?_
          refine Ev.bind (impl_areWalks.ev1 p.1 g (q.map (·.1)) (by rw [List.length_map]; omega)) ?_
          by_cases hw : okWalk p.1 g (q.map (·.1)) = true
          · rw [hw]
            obtain ⟨b1, b2, b3⟩ := walk_bounds hw
            refine ev_pos rfl ?_
            refine Ev.bind (impl_walkText.ev p.1 g (q.map (·.1)) b1 b2 b3) ?_
            by_cases ht : textL p.1 g (q.map (·.1)) = s.data.toList
            · exact ev_pos (by rw [ht, ba_data]) (ev_some (if_pos (by exact ⟨by simp, by simp, by simp, ht⟩)).symm)
            · exact ev_neg (fun e => ht (by rw [← e, ba_toList])) (ev_some (if_neg (by rintro ⟨-, -, -, e⟩; exact ht e)).symm)
          · exact ev_neg hw (ev_some (if_neg (by rintro ⟨-, -, e, -⟩; exact hw e)).symm)
    · rw [if_neg c]
      exact ev_neg (fun e => c (e1.mp e)) (ev_some rfl)
theorem spec_pw_end (s : ByteArray) (w : List Int) (hl : w.length ≤ 1048577) (n : Int) (g : Bool) : Ev (fun k => spec_ParseWalk.j2 k s w true n g) (if okWalk n g w = true ∧ textL n g w = s.data.toList then (n, g, w, true) else fl) := by
  refine Ev.step (fun k => by rw [spec_ParseWalk.j2]) ?_
  refine ev_pos rfl ?_
  refine Ev.bind (spec_l2Walk.ev n g w (by omega)) ?_
  by_cases hw : okWalk n g w = true
  · obtain ⟨b1, b2, b3⟩ := walk_bounds hw
    refine ev_pos hw ?_
    refine Ev.bind (spec_l2Text.ev n g w b1 b2 b3) ?_
    by_cases ht : textL n g w = s.data.toList
    · exact ev_pos (by rw [ht, ba_data]) (ev_some (if_pos (by exact ⟨hw, ht⟩)).symm)
    · exact ev_neg (fun e => ht (by rw [ByteArray.toList_eq, ByteArray.toList_eq, ba_toList] at e; exact e)) (ev_some (if_neg (by rintro ⟨-, e⟩; exact ht e)).symm)
  · exact ev_neg hw (ev_some (if_neg (by rintro ⟨e, -⟩; exact hw e)).symm)
theorem spec_pw_bad (s : ByteArray) (w : List Int) (n : Int) (g : Bool) : Ev (fun k => spec_ParseWalk.j2 k s w false n g) fl := by
  refine Ev.step (fun k => by rw [spec_ParseWalk.j2]) ?_
  exact ev_neg (by simp) (ev_some rfl)
theorem spec_pw_off (s : ByteArray) (w : List Int) (ws : List ByteArray) (i : Int) (n : Int) (g : Bool) : Ev (fun k => spec_ParseWalk.l0 k s w false ws i n g) fl := by
  refine Ev.step (fun k => by rw [spec_ParseWalk.l0]) ?_
  by_cases c : i < (ws.length : Int)
  · refine ev_pos c ?_
    by_cases c2 : i ≤ 61
    · exact ev_pos c2 (ev_neg (by simp) (spec_pw_bad s w n g))
    · exact ev_neg c2 (spec_pw_bad s w n g)
  · exact ev_neg c (spec_pw_bad s w n g)
theorem spec_pw_loop (s : ByteArray) (P : List (List UInt8)) (hP : P.length ≤ 1048577) (hz : ∀ x ∈ P, x.length ≤ 1048576) (n : Int) (g : Bool) : ∀ (d i : Nat), i + d = P.length → i ≤ 62 → (((P.map readL).take i).all (·.2)) = true →
    Ev (fun k => spec_ParseWalk.l0 k s (((P.map readL).take i).map (·.1)) true (P.map ba) i n g) (pwEnd s.data.toList (n, true) g (P.map readL)) := by
  intro d
  induction d with
  | zero =>
    intro i e h62 ha
    refine Ev.step (fun k => by rw [spec_ParseWalk.l0]) ?_
    refine ev_neg (by rw [List.length_map]; omega) ?_
    rw [List.take_of_length_le (by rw [List.length_map]; omega)] at ha ⊢
    have h := spec_pw_end s ((P.map readL).map (·.1)) (by simp; omega) n g
    unfold pwEnd
    rw [ha]
    simp only [true_and]
    exact h
  | succ d ih =>
    intro i e h62 ha
    have hi : i < P.length := by omega
    refine Ev.step (fun k => by rw [spec_ParseWalk.l0]) ?_
    refine ev_pos (by rw [List.length_map]; omega) ?_
    by_cases c : (i : Int) ≤ 61
    · refine ev_pos c ?_
      refine ev_pos rfl ?_
      refine ev_pos (by omega) ?_
      rw [rdOf_get rfl (show i < (P.map ba).length by rw [List.length_map]; exact hi), List.getElem_map]
      have hzi := hz P[i] (List.getElem_mem hi)
      refine Ev.bind (spec_l1Read.ev (ba P[i]) (by rw [ba_len]; omega)) ?_
      rw [ba_toList]
      refine ev_pos (by simp; omega) ?_
      rw [w64 (x := (i : Int) + 1) (by omega) (by omega)]
      cases hb : (readL P[i]).2 with
      | false =>
        have e1 : pwEnd s.data.toList (n, true) g (P.map readL) = fl := by
          unfold pwEnd
          rw [if_neg]
          rintro ⟨-, h2, -⟩
          rw [List.all_eq_true] at h2
          have := h2 (readL P[i]) (List.mem_map.mpr ⟨_, List.getElem_mem hi, rfl⟩)
          rw [hb] at this
          cases this
        rw [e1]
        exact spec_pw_off _ _ _ _ _ _
      | true =>
        have ht : (P.map readL).take (i + 1) = (P.map readL).take i ++ [readL P[i]] := by rw [List.take_succ_eq_append_getElem (by rw [List.length_map]; exact hi), List.getElem_map]
        have hh := ih (i + 1) (by omega) (by omega) (by rw [ht, List.all_append, ha]; simp [hb])
        rw [ht, List.map_append, List.map_cons, List.map_nil] at hh
        exact hh
    · refine ev_neg c ?_
      have h62' : i = 62 := by omega
      have h := spec_pw_end s (((P.map readL).take i).map (·.1)) (by simp; omega) n g
      have bad : ∀ w : List Int, 61 < w.length → ¬ okWalk n g w = true := fun w hw hk => by have := (okWalk_b hk).2.2.1; omega
      rw [if_neg (fun q => bad _ (by simp; omega) q.1)] at h
      have e1 : pwEnd s.data.toList (n, true) g (P.map readL) = fl := by
        unfold pwEnd
        exact if_neg (fun q => bad _ (by simp; omega) q.2.2.1)
      rw [e1]
      exact h
theorem spec_ParseWalk.ev (s : ByteArray) (hs : s.size ≤ 1048576) : Ev (fun k => spec_ParseWalk.f k s) (pwOf s.data.toList) := by
  unfold spec_ParseWalk.f
  refine Ev.bind (spec_l1Split.ev s 32 hs) ?_
  simp only [Option.bind_some]
  have hle := parts_le 32 s.data.toList
  rw [size_data] at hle
  have bad : ∀ (ws : List ByteArray), Ev (fun k => spec_ParseWalk.j0 k s ws [] true) fl := fun ws => by
    refine Ev.step (fun k => by rw [spec_ParseWalk.j0]) ?_
    exact ev_pos rfl (ev_some rfl)
  unfold pwOf
  match hp : parts 32 s.data.toList with
  | [] => exact ev_neg (by simp) (bad _)
  | [_] => exact ev_neg (by simp) (bad _)
  | [_, _] => exact ev_neg (by simp) (bad _)
  | _ :: _ :: _ :: _ :: _ => exact ev_neg (by simp; omega) (bad _)
  | [w0, w1, w2] =>
    have h1 : w1.length ≤ s.size := hle w1 (by rw [hp]; simp)
    have h2 : w2.length ≤ s.size := hle w2 (by rw [hp]; simp)
    show Ev _ (if w0 = lineL ∨ w0 = ringL then pwEnd s.data.toList (readL w1) (decide (w0 = ringL)) ((parts 44 w2).map readL) else fl)
    refine ev_pos (by simp) ?_
    refine ev_pos (by simp) ?_
    have r0 : rdOf ByteArray.empty ([w0, w1, w2].map ba) 0 = ba w0 := rfl
    have r1 : rdOf ByteArray.empty ([w0, w1, w2].map ba) 1 = ba w1 := rfl
    have r2 : rdOf ByteArray.empty ([w0, w1, w2].map ba) 2 = ba w2 := rfl
    rw [r0]
    have good : Ev (fun k => spec_ParseWalk.j0 k s ([w0, w1, w2].map ba) [] false) (pwEnd s.data.toList (readL w1) (decide (w0 = ringL)) ((parts 44 w2).map readL)) := by
      refine Ev.step (fun k => by rw [spec_ParseWalk.j0]) ?_
      refine ev_neg (by simp) ?_
      refine ev_pos (by simp) ?_
      rw [r1, r0, r2]
      refine Ev.bind (spec_l1Read.ev (ba w1) (by rw [ba_len]; omega)) ?_
      rw [ba_toList]
      refine ev_pos (by simp) ?_
      refine ev_pos (by simp) ?_
      refine Ev.bind (spec_l1Split.ev (ba w2) 44 (by rw [ba_len]; omega)) ?_
      rw [ba_toList]
      have hg : ((ba w0).toList == ([114, 105, 110, 103] : List UInt8)) = decide (w0 = ringL) := by
        rw [Bool.eq_iff_iff, beq_iff_eq, decide_eq_true_iff]
        exact toList_ba w0 ringL
      rw [hg]
      generalize hr : readL w1 = p
      obtain ⟨n, b⟩ := p
      cases b with
      | false =>
        have e1 : pwEnd s.data.toList (n, false) (decide (w0 = ringL)) ((parts 44 w2).map readL) = fl := by
          unfold pwEnd
          exact if_neg (fun q => by have := q.1; simp at this)
        rw [e1]
        exact spec_pw_off _ _ _ _ _ _
      | true =>
        have hpl := parts_length 44 w2
        have hpe := parts_le 44 w2
        exact spec_pw_loop s (parts 44 w2) (by omega) (fun x hx => by have := hpe x hx; omega) n (decide (w0 = ringL)) (parts 44 w2).length 0 (by omega) (by omega) rfl
    by_cases c : w0 = ringL
    · refine ev_pos ((toList_ba w0 _).mpr c) ?_
      rw [if_pos (Or.inr c)]
      exact good
    · refine ev_neg (fun e => c ((toList_ba w0 _).mp e)) ?_
      by_cases c2 : w0 = lineL
      · rw [if_pos (Or.inl c2), show ((ba w0).toList != ([108, 105, 110, 101] : List UInt8)) = false by rw [Bool.eq_false_iff]; intro e; exact (bne_iff_ne.mp e) ((toList_ba w0 _).mpr c2)]
        exact good
      · rw [if_neg (fun e => Or.elim e c2 c), show ((ba w0).toList != ([108, 105, 110, 101] : List UInt8)) = true from bne_iff_ne.mpr (fun e => c2 ((toList_ba w0 _).mp e))]
        exact bad _
theorem FnExactParseWalk (s : ByteArray) (hs : s.size ≤ 140737488351232) : ∃ k, laws_FnExactParseWalk.f k s = some true := by
  refine Ev.rounds (r := true) ?_
  unfold laws_FnExactParseWalk.f
  by_cases h : (s.size : Int) > 1048576
  · exact ev_pos h (ev_some rfl)
  refine ev_neg h ?_
  have hl := pwOf_len s.data.toList
  have hI := impl_ParseWalk.ev s (by omega)
  have hR : ∀ (n : Int) (g : Bool), laws_eqRoad.f n g n g = some true := fun n g => by unfold laws_eqRoad.f; simp
  have hE : ∀ l : List Int, l.length ≤ 61 → Ev (fun k => laws_eqIntS.f k l l) true := fun l h => by
    have := laws_eqIntS.ev l l (by omega)
    simpa using this
  refine Ev.bind (spec_ParseWalk.ev s (by omega)) ?_
  refine Ev.bind hI ?_
  refine Ev.bind (ev_const (hR _ _)) ?_
  refine ev_pos rfl ?_
  refine Ev.bind (hE _ hl) ?_
  refine ev_pos rfl ?_
  refine Ev.step (fun k => by rw [laws_FnExactParseWalk.j0]) ?_
  refine ev_neg (by simp) ?_
  refine Ev.bind (laws_markIntS.ev _ (by omega) 1 (by omega) (by omega)) ?_
  refine Ev.bind (laws_heldIntS.ev _ (by omega) 1 (by omega) (by omega)) ?_
  refine ev_neg (by omega) ?_
  refine ev_pos rfl ?_
  refine Ev.bind hI ?_
  refine Ev.bind (ev_const (hR _ _)) ?_
  refine ev_pos rfl ?_
  refine Ev.bind (hE _ hl) ?_
  refine ev_pos rfl ?_
  refine Ev.step (fun k => by rw [laws_FnExactParseWalk.j1]) ?_
  refine ev_neg (by simp) ?_
  refine Ev.bind (laws_heldIntS.ev _ (by omega) 1 (by omega) (by omega)) ?_
  refine ev_neg (by omega) ?_
  exact ev_pos rfl (ev_some rfl)

end Go.Proofs.YtjihgbfhgfmknaaDoor.Pure
