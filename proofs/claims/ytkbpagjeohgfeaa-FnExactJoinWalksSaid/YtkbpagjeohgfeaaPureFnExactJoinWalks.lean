/- The plain side of the law FnExactJoinWalks: the printed law, whatever its input (within the form's bounds), comes to true. No other condition. -/
import Derived.Test.YtkbpagjeohgfeaaPFnExactJoinWalksx8
import Derived.Test.YtkbpagjeohgfeaaBase
import Derived.Test.YtkbpagjeohgfeaaMath
namespace Go.Proofs.Ytkbpagjeohgfeaa.Pure
open Go.RowKit Go.Proofs.Ytkbpagjeohgfeaa.PFnExactJoinWalks Go.Proofs.YtkbpagjeohgfeaaW.PrintWords Go.Proofs.YtkbpagjeohgfeaaW.PrintLast Go.Proofs.YtkbpagjeohgfeaaW.PrintMore Go.Proofs.Ytkbpagjeohgfeaa.Base Go.Proofs.Ytkbpagjeohgfeaa.M
set_option linter.unusedVariables false
set_option linter.unusedSimpArgs false

theorem laws_toIntS.ev (l : List Int) (hl : l.length ≤ 35184372088832) : Ev (fun k => laws_toIntS.f k l) l := by
  have main : ∀ (d i : Nat) (x : List Int), i + d = l.length → x.length = l.length → (∀ j, j < i → x[j]? = l[j]?) →
      Ev (fun k => laws_toIntS.l0 k l x i) l := by
    intro d
    induction d with
    | zero =>
      intro i x e hx hj
      refine Ev.step (fun k => by rw [laws_toIntS.l0]) ?_
      refine ev_neg (by omega) ?_
      refine ev_some (List.ext_getElem? fun j => ?_)
      by_cases h : j < l.length
      · exact hj j (by omega)
      · rw [List.getElem?_eq_none (by omega), List.getElem?_eq_none (by omega)]
    | succ d ih =>
      intro i x e hx hj
      refine Ev.step (fun k => by rw [laws_toIntS.l0]) ?_
      refine ev_pos (by omega) ?_
      refine ev_pos (by omega) ?_
      refine ev_pos (by omega) ?_
      rw [w64 (x := (i : Int) + 1) (by omega) (by omega)]
      refine ih (i + 1) _ (by omega) (by simpa using hx) (fun j hj' => ?_)
      rw [Int.toNat_natCast, rd_get rfl (by omega)]
      by_cases h : j = i
      · subst h
        rw [List.getElem?_set_self (by omega), List.getElem?_eq_getElem (by omega)]
      · rw [List.getElem?_set_ne (by omega)]
        exact hj j (by omega)
  unfold laws_toIntS.f
  refine ev_pos (by omega) ?_
  refine ev_pos (by omega) ?_
  exact main l.length 0 _ (by omega) (by simp) (fun j hj => by omega)
theorem laws_eqIntS.ev (a b : List Int) (hl : a.length ≤ 35184372088832) : Ev (fun k => laws_eqIntS.f k a b) (decide (a = b)) := by
  have main : ∀ (d i : Nat), i + d = a.length → a.length = b.length → Ev (fun k => laws_eqIntS.l0 k a b i) (decide (a.drop i = b.drop i)) := by
    intro d
    induction d with
    | zero =>
      intro i e he
      refine Ev.step (fun k => by rw [laws_eqIntS.l0]) ?_
      refine ev_neg (by omega) ?_
      refine ev_some ?_
      rw [List.drop_eq_nil_of_le (by omega), List.drop_eq_nil_of_le (by omega)]
      rfl
    | succ d ih =>
      intro i e he
      refine Ev.step (fun k => by rw [laws_eqIntS.l0]) ?_
      refine ev_pos (by omega) ?_
      refine ev_pos (by omega) ?_
      refine ev_pos (by omega) ?_
      rw [w64 (x := (i : Int) + 1) (by omega) (by omega), rd_get rfl (by omega), rd_get rfl (by omega), List.drop_eq_getElem_cons (by omega), List.drop_eq_getElem_cons (l := b) (by omega)]
      by_cases h : a[i] = b[i]
      · refine ev_pos h ?_
        rw [show decide (a[i] :: a.drop (i + 1) = b[i] :: b.drop (i + 1)) = decide (a.drop (i + 1) = b.drop (i + 1)) from decide_eq_decide.2 ⟨fun e => (List.cons.inj e).2, fun e => by rw [h, e]⟩]
        exact ih (i + 1) (by omega) he
      · refine ev_neg h (ev_some ?_)
        exact (decide_eq_false fun e => h (List.cons.inj e).1).symm
  unfold laws_eqIntS.f
  by_cases h : a.length = b.length
  · refine ev_pos (by omega) ?_
    exact main a.length 0 (by omega) h
  · refine ev_neg (by omega) (ev_some ?_)
    symm
    rw [decide_eq_false_iff_not]
    exact fun e => h (by rw [e])
def marks (n : Nat) (a : Int) : List Int := (List.range n).map fun (j : Nat) => a + (j : Int)
theorem marks_length (n : Nat) (a : Int) : (marks n a).length = n := by simp [marks]
theorem laws_markIntS.ev (l : List Int) (hl : l.length ≤ 35184372088832) (a : Int) (h0 : 0 ≤ a) (h1 : a ≤ 4611686018427387904) :
    Ev (fun k => laws_markIntS.f k l a) (a + l.length, marks l.length a) := by
  have main : ∀ (d i : Nat) (x : List Int), i + d = l.length → x.length = l.length → (∀ j, j < i → x[j]? = (marks l.length a)[j]?) →
      Ev (fun k => laws_markIntS.l0 k x (a + i) i) (a + l.length, marks l.length a) := by
    intro d
    induction d with
    | zero =>
      intro i x e hx hj
      refine Ev.step (fun k => by rw [laws_markIntS.l0]) ?_
      refine ev_neg (by omega) ?_
      have : x = marks l.length a := List.ext_getElem? fun j => by
        by_cases h : j < l.length
        · exact hj j (by omega)
        · rw [List.getElem?_eq_none (by omega), List.getElem?_eq_none (by rw [marks_length]; omega)]
      refine ev_some ?_
      rw [this, show (i : Int) = (l.length : Int) from by omega]
    | succ d ih =>
      intro i x e hx hj
      refine Ev.step (fun k => by rw [laws_markIntS.l0]) ?_
      refine ev_pos (by omega) ?_
      refine ev_pos (by omega) ?_
      rw [w64 (x := (i : Int) + 1) (by omega) (by omega), w64 (x := a + (i : Int) + 1) (by omega) (by omega), Int.add_assoc]
      refine ih (i + 1) _ (by omega) (by simpa using hx) (fun j hj' => ?_)
      rw [Int.toNat_natCast]
      by_cases h : j = i
      · subst h
        rw [List.getElem?_set_self (by omega)]
        simp [marks, List.getElem?_range (show j < l.length by omega)]
      · rw [List.getElem?_set_ne (by omega)]
        exact hj j (by omega)
  unfold laws_markIntS.f
  have := main l.length 0 l (by omega) rfl (fun j hj => by omega)
  simpa using this
theorem laws_heldIntS.ev (n : Nat) (hn : n ≤ 35184372088832) (a : Int) (h0 : 0 ≤ a) (h1 : a ≤ 4611686018427387904) :
    Ev (fun k => laws_heldIntS.f k (marks n a) a) (a + n) := by
  have main : ∀ (d i : Nat), i + d = n → Ev (fun k => laws_heldIntS.l0 k (marks n a) (a + i) i) (a + n) := by
    intro d
    induction d with
    | zero =>
      intro i e
      refine Ev.step (fun k => by rw [laws_heldIntS.l0]) ?_
      refine ev_neg (by rw [marks_length]; omega) ?_
      exact ev_some (by rw [show (i : Int) = (n : Int) from by omega])
    | succ d ih =>
      intro i e
      refine Ev.step (fun k => by rw [laws_heldIntS.l0]) ?_
      refine ev_pos (by rw [marks_length]; omega) ?_
      refine ev_pos (by omega) ?_
      refine ev_pos ?_ ?_
      · rw [rd_get rfl (by rw [marks_length]; omega)]
        simp [marks]
      · rw [w64 (x := (i : Int) + 1) (by omega) (by omega), w64 (x := a + (i : Int) + 1) (by omega) (by omega), Int.add_assoc]
        exact ih (i + 1) (by omega)
  unfold laws_heldIntS.f
  have := main n 0 (by omega)
  simpa using this
theorem spec_l1In.at (a b c : Int) : spec_l1In.f a b c = some (decide (b ≤ a ∧ a ≤ c)) := by
  unfold spec_l1In.f
  by_cases h : a ≥ b
  · rw [if_pos h]
    simp [show b ≤ a from h]
  · rw [if_neg h]
    simp [show ¬ b ≤ a from h]
theorem impl_within.at (a b c : Int) : impl_within.f a b c = some (decide (b ≤ a ∧ a ≤ c)) := by
  unfold impl_within.f
  by_cases h : a ≥ b
  · rw [if_pos h]
    simp [show b ≤ a from h]
  · rw [if_neg h]
    simp [show ¬ b ≤ a from h]
theorem spec_l2Road.at (n : Int) (g : Bool) : spec_l2Road.f n g = some (okRoad n g) := by
  unfold spec_l2Road.f okRoad
  rw [spec_l1In.at]
  simp only [Option.bind_some]
  by_cases h : 2 ≤ n ∧ n ≤ 24
  · rw [if_pos (by simpa using h)]
    cases g with
    | false => simp [h]
    | true =>
      simp only [if_true, h, true_and, Option.some.injEq]
      exact decide_eq_decide.2 (by simp; omega)
  · rw [if_neg (by simpa using h)]
    simp only [Option.some.injEq]
    exact (decide_eq_false (fun h' => h ⟨h'.1, h'.2.1⟩)).symm
theorem impl_IsRoad.at (n : Int) (g : Bool) : impl_IsRoad.f n g = some (okRoad n g) := by
  unfold impl_IsRoad.f okRoad
  rw [impl_within.at]
  simp only [Option.bind_some]
  by_cases h : 2 ≤ n ∧ n ≤ 24
  · rw [if_pos (by simpa using h)]
    cases g with
    | false => simp [h]
    | true =>
      simp only [if_true, h, true_and, Option.some.injEq]
      exact decide_eq_decide.2 (by simp)
  · rw [if_neg (by simpa using h)]
    simp only [Option.some.injEq]
    exact (decide_eq_false (fun h' => h ⟨h'.1, h'.2.1⟩)).symm
theorem laws_toRoad.at (n : Int) (g : Bool) : laws_toRoad.f n g = some (n, g) := rfl
theorem spec_l2Place.at (n : Int) (g : Bool) (p : Int) : spec_l2Place.f n g p = some (okRoad n g && decide (0 ≤ p ∧ p ≤ n - 1)) := by
  unfold spec_l2Place.f
  rw [spec_l2Road.at]
  simp only [Option.bind_some]
  by_cases h : okRoad n g = true
  · have hb := okRoad_b h
    rw [if_pos h, w64 (x := n - 1) (by omega) (by omega), spec_l1In.at, h]
    rfl
  · rw [if_neg h]
    rw [Bool.not_eq_true] at h
    rw [h]
    rfl
theorem spec_l1Most.at (a b : Int) : spec_l1Most.f a b = some (max a b) := by
  unfold spec_l1Most.f
  by_cases h : a > b
  · rw [if_pos h, Int.max_eq_left (by omega)]
  · rw [if_neg h, Int.max_eq_right (by omega)]
theorem spec_l1Least.at (a b : Int) : spec_l1Least.f a b = some (min a b) := by
  unfold spec_l1Least.f
  by_cases h : a < b
  · rw [if_pos h, Int.min_eq_left (by omega)]
  · rw [if_neg h, Int.min_eq_right (by omega)]
theorem spec_l2Gap.at {n : Int} (g : Bool) {a b : Int} (hn : 2 ≤ n ∧ n ≤ 24) (ha : 0 ≤ a ∧ a ≤ n - 1) (hb : 0 ≤ b ∧ b ≤ n - 1) : spec_l2Gap.f n g a b = some (gap n g a b) := by
  unfold spec_l2Gap.f gap
  rw [w64 (x := a - b) (by omega) (by omega), w64 (x := b - a) (by omega) (by omega), spec_l1Most.at]
  simp only [Option.bind_some]
  cases g with
  | false => simp
  | true => rw [if_pos rfl, if_pos rfl, w64 (by omega) (by omega), spec_l1Least.at]; rfl
theorem impl_Road_gap.at {n : Int} (g : Bool) {a b : Int} (hn : 2 ≤ n ∧ n ≤ 24) (ha : 0 ≤ a ∧ a ≤ n - 1) (hb : 0 ≤ b ∧ b ≤ n - 1) : impl_Road_gap.f n g a b = some (gap n g a b) := by
  unfold impl_Road_gap.f gap
  rw [w64 (x := a - b) (by omega) (by omega), w64 (x := b - a) (by omega) (by omega)]
  simp only [mx_eq, mn_eq]
  cases g with
  | false => simp
  | true => rw [if_pos rfl, if_pos rfl, w64 (by omega) (by omega)]
theorem impl_allWithin.ev (l : List Int) (lo hi : Int) (hl : l.length ≤ 35184372088832) : Ev (fun k => impl_allWithin.f k l lo hi) (l.all fun x => decide (lo ≤ x ∧ x ≤ hi)) := by
  have main : ∀ (d i : Nat), i + d = l.length → Ev (fun k => impl_allWithin.l0 k lo hi l l.length i) ((l.drop i).all fun x => decide (lo ≤ x ∧ x ≤ hi)) := by
    intro d
    induction d with
    | zero =>
      intro i e
      refine Ev.step (fun k => by rw [impl_allWithin.l0]) ?_
      refine ev_neg (by omega) (ev_some ?_)
      rw [List.drop_eq_nil_of_le (by omega)]
      rfl
    | succ d ih =>
      intro i e
      refine Ev.step (fun k => by rw [impl_allWithin.l0]) ?_
      refine ev_pos (by omega) ?_
      refine ev_pos (by omega) ?_
      refine ev_pos (by omega) ?_
      rw [w64 (x := (i : Int) + 1) (by omega) (by omega), rd_get rfl (by omega), List.drop_eq_getElem_cons (by omega), List.all_cons, impl_within.at]
      simp only [Option.bind_some]
      by_cases h : lo ≤ l[i] ∧ l[i] ≤ hi
      · refine ev_pos (by simpa using h) ?_
        rw [decide_eq_true h, Bool.true_and]
        exact ih (i + 1) (by omega)
      · refine ev_neg (by simpa using h) (ev_some ?_)
        rw [decide_eq_false h, Bool.false_and]
  unfold impl_allWithin.f
  exact main l.length 0 (by omega)
theorem impl_Road_has.ev {n : Int} (g : Bool) (l : List Int) (hn : 2 ≤ n ∧ n ≤ 24) (hl : l.length ≤ 35184372088832) : Ev (fun k => impl_Road_has.f k n g l) (l.all fun x => decide (0 ≤ x ∧ x ≤ n - 1)) := by
  unfold impl_Road_has.f
  rw [w64 (x := n - 1) (by omega) (by omega)]
  exact Ev.bind (impl_allWithin.ev l 0 (n - 1) hl) (ev_some rfl)
theorem impl_Road_isWalk.ev {n : Int} (g : Bool) (w : List Int) (hr : okRoad n g = true) (hl : w.length ≤ 35184372088832) : Ev (fun k => impl_Road_isWalk.f k n g w) (okWalk n g w) := by
  have hb := okRoad_b hr
  unfold impl_Road_isWalk.f okWalk
  rw [impl_within.at, hr, Bool.true_and]
  simp only [Option.bind_some]
  by_cases h : 1 ≤ (w.length : Int) ∧ (w.length : Int) ≤ 61
  · refine ev_pos (by simpa using h) ?_
    rw [decide_eq_true h, Bool.true_and]
    refine Ev.bind (impl_Road_has.ev g w ⟨hb.1, hb.2.1⟩ hl) ?_
    refine Ev.step (fun k => by rw [impl_Road_isWalk.j0]) ?_
    by_cases ha : (w.all fun x => decide (0 ≤ x ∧ x ≤ n - 1)) = true
    · rw [ha, Bool.true_and]
      refine ev_neg (by simp) ?_
      have main : ∀ (d i : Nat), i + d + 1 = w.length → Ev (fun k => impl_Road_isWalk.l0 k w ((i : Int) + 1) n g) (steps n g (w.drop i)) := by
        intro d
        induction d with
        | zero =>
          intro i e
          refine Ev.step (fun k => by rw [impl_Road_isWalk.l0]) ?_
          refine ev_neg (by omega) (ev_some ?_)
          rw [List.drop_eq_getElem_cons (by omega), List.drop_eq_nil_of_le (by omega)]
          rfl
        | succ d ih =>
          intro i e
          refine Ev.step (fun k => by rw [impl_Road_isWalk.l0]) ?_
          rw [show wrap64 ((i : Int) + 1 - 1) = (i : Int) from by unfold wrap64; omega, show wrap64 ((i : Int) + 1 + 1) = ((i + 1 : Nat) : Int) + 1 from by unfold wrap64; omega]
          refine ev_pos (by omega) ?_
          refine ev_pos (by omega) ?_
          refine ev_pos (by omega) ?_
          refine ev_pos (by omega) ?_
          rw [rd_get (n := i) rfl (by omega), rd_get (n := i + 1) (by omega) (by omega), impl_Road_gap.at g ⟨hb.1, hb.2.1⟩ (in_of_all ha _) (in_of_all ha _)]
          have ih := ih (i + 1) (by omega)
          rw [List.drop_eq_getElem_cons (by omega)] at ih ⊢
          rw [List.drop_eq_getElem_cons (show i + 1 < w.length by omega)]
          unfold steps
          simp only [Option.bind_some]
          by_cases hg : gap n g w[i] w[i + 1] ≤ 1
          · refine ev_neg (by omega) ?_
            rw [decide_eq_true hg, Bool.true_and]
            exact ih
          · refine ev_pos (by omega) (ev_some ?_)
            rw [decide_eq_false hg, Bool.false_and]
      have := main (w.length - 1) 0 (by omega)
      simpa using this
    · rw [Bool.not_eq_true] at ha
      rw [ha, Bool.false_and]
      exact ev_pos (by simp) (ev_some rfl)
  · refine ev_neg (by simpa using h) ?_
    rw [decide_eq_false h]
    refine Ev.step (fun k => by rw [impl_Road_isWalk.j0]) ?_
    exact ev_pos rfl (ev_some rfl)
theorem spec_l2Walk.ev (n : Int) (g : Bool) (w : List Int) (hl : w.length ≤ 35184372088832) : Ev (fun k => spec_l2Walk.f k n g w) (okWalk n g w) := by
  unfold spec_l2Walk.f okWalk
  by_cases h0 : w.length = 0
  · obtain rfl := List.eq_nil_of_length_eq_zero h0
    refine Ev.step (fun k => by rw [spec_l2Walk.l0]) ?_
    refine ev_neg (by simp) ?_
    refine Ev.step (fun k => by rw [spec_l2Walk.j1]) ?_
    refine ev_neg (by simp) ?_
    rw [spec_l2Road.at]
    simp only [Option.bind_some]
    by_cases hr : okRoad n g = true
    · rw [hr]
      refine ev_pos rfl ?_
      rw [spec_l1In.at]
      exact ev_some rfl
    · refine ev_neg hr (ev_some ?_)
      rw [Bool.not_eq_true] at hr
      rw [hr]
      rfl
  by_cases hr : okRoad n g = true
  · have hb := okRoad_b hr
    rw [hr, Bool.true_and]
    have main : ∀ (d i : Nat) (hi : i < w.length), i + 1 + d = min w.length 61 → 0 ≤ w[i] ∧ w[i] ≤ n - 1 →
        Ev (fun k => spec_l2Walk.l0 k w ((i : Int) + 1) n g) (decide (1 ≤ (w.length : Int) ∧ (w.length : Int) ≤ 61) && ((w.drop (i + 1)).all fun x => decide (0 ≤ x ∧ x ≤ n - 1)) && steps n g (w.drop i)) := by
      intro d
      induction d with
      | zero =>
        intro i hi e hw
        refine Ev.step (fun k => by rw [spec_l2Walk.l0]) ?_
        have fin : ∀ b : Bool, b = (decide (1 ≤ (w.length : Int) ∧ (w.length : Int) ≤ 61) && ((w.drop (i + 1)).all fun x => decide (0 ≤ x ∧ x ≤ n - 1)) && steps n g (w.drop i)) → decide (1 ≤ (w.length : Int) ∧ (w.length : Int) ≤ 61) = b →
            Ev (fun k => spec_l2Walk.j1 k w ((i : Int) + 1) false n g) (decide (1 ≤ (w.length : Int) ∧ (w.length : Int) ≤ 61) && ((w.drop (i + 1)).all fun x => decide (0 ≤ x ∧ x ≤ n - 1)) && steps n g (w.drop i)) := by
          intro b hb1 hb2
          refine Ev.step (fun k => by rw [spec_l2Walk.j1]) ?_
          refine ev_neg (by simp) ?_
          rw [spec_l2Road.at, hr]
          simp only [Option.bind_some]
          refine ev_pos (by trivial) ?_
          rw [spec_l1In.at]
          exact ev_some (hb2.trans hb1)
        by_cases hc : (i : Int) + 1 < w.length
        · refine ev_pos hc ?_
          rw [decide_eq_false (show ¬ (i : Int) + 1 ≤ 60 by omega)]
          have : ¬ (1 ≤ (w.length : Int) ∧ (w.length : Int) ≤ 61) := by omega
          exact fin false (by rw [decide_eq_false this, Bool.false_and, Bool.false_and]) (by rw [decide_eq_false this])
        · refine ev_neg hc ?_
          have : 1 ≤ (w.length : Int) ∧ (w.length : Int) ≤ 61 := by omega
          refine fin true ?_ (by rw [decide_eq_true this])
          rw [decide_eq_true this, List.drop_eq_getElem_cons hi, List.drop_eq_nil_of_le (by omega)]
          rfl
      | succ d ih =>
        intro i hi e hw
        refine Ev.step (fun k => by rw [spec_l2Walk.l0]) ?_
        refine ev_pos (by omega) ?_
        rw [decide_eq_true (show (i : Int) + 1 ≤ 60 by omega)]
        refine Ev.step (fun k => by rw [spec_l2Walk.j1]) ?_
        refine ev_pos rfl ?_
        rw [show wrap64 ((i : Int) + 1 - 1) = (i : Int) from by unfold wrap64; omega, show wrap64 ((i : Int) + 1 + 1) = ((i + 1 : Nat) : Int) + 1 from by unfold wrap64; omega]
        refine ev_pos (by omega) ?_
        refine ev_pos (by omega) ?_
        rw [rd_get (n := i) rfl (by omega), rd_get (n := i + 1) (by omega) (by omega), spec_l2Place.at, hr, Bool.true_and]
        simp only [Option.bind_some]
        rw [List.drop_eq_getElem_cons (show i + 1 < w.length by omega), List.all_cons]
        by_cases hp : 0 ≤ w[i + 1] ∧ w[i + 1] ≤ n - 1
        · have ih := ih (i + 1) (by omega) (by omega) hp
          refine ev_pos (by simpa using hp) ?_
          refine ev_pos (by omega) ?_
          refine ev_pos (by omega) ?_
          refine ev_pos (by omega) ?_
          rw [spec_l2Gap.at g ⟨hb.1, hb.2.1⟩ hw hp, decide_eq_true hp, Bool.true_and]
          simp only [Option.bind_some]
          rw [List.drop_eq_getElem_cons (show i + 1 < w.length by omega)] at ih
          rw [List.drop_eq_getElem_cons hi, List.drop_eq_getElem_cons (show i + 1 < w.length by omega)]
          rw [show steps n g (w[i] :: w[i + 1] :: w.drop (i + 1 + 1)) = (decide (gap n g w[i] w[i + 1] ≤ 1) && steps n g (w[i + 1] :: w.drop (i + 1 + 1))) from rfl]
          by_cases hg : gap n g w[i] w[i + 1] ≤ 1
          · refine ev_neg (by omega) ?_
            rw [decide_eq_true hg, Bool.true_and]
            exact ih
          · refine ev_pos (by omega) (ev_some ?_)
            rw [decide_eq_false hg, Bool.false_and, Bool.and_false]
        · refine ev_neg (by simpa using hp) (ev_some ?_)
          rw [decide_eq_false hp, Bool.false_and, Bool.and_false, Bool.false_and]
    refine Ev.step (fun k => by rw [spec_l2Walk.l0]) ?_
    refine ev_pos (by omega) ?_
    refine Ev.step (fun k => by rw [spec_l2Walk.j1]) ?_
    refine ev_pos (by simp) ?_
    refine ev_pos (by omega) ?_
    refine ev_pos (by omega) ?_
    rw [rd_get (i := 0) (n := 0) rfl (by omega), spec_l2Place.at, hr, Bool.true_and]
    simp only [Option.bind_some]
    have hall : (w.all fun x => decide (0 ≤ x ∧ x ≤ n - 1)) = (decide (0 ≤ w[0] ∧ w[0] ≤ n - 1) && (w.drop 1).all fun x => decide (0 ≤ x ∧ x ≤ n - 1)) := by
      cases w with
      | nil => simp at h0
      | cons a t => rfl
    rw [hall]
    by_cases hp : 0 ≤ w[0] ∧ w[0] ≤ n - 1
    · refine ev_pos (by simpa using hp) ?_
      refine ev_neg (by omega) ?_
      rw [decide_eq_true hp, Bool.true_and]
      have := main (min w.length 61 - 1) 0 (by omega) (by omega) hp
      rw [show wrap64 (0 + 1) = ((0 : Nat) : Int) + 1 from by unfold wrap64; omega]
      simpa using this
    · refine ev_neg (by simpa using hp) (ev_some ?_)
      rw [decide_eq_false hp, Bool.false_and, Bool.and_false, Bool.false_and]
  · rw [Bool.not_eq_true] at hr
    rw [hr]
    refine Ev.step (fun k => by rw [spec_l2Walk.l0]) ?_
    refine ev_pos (by omega) ?_
    refine Ev.step (fun k => by rw [spec_l2Walk.j1]) ?_
    refine ev_pos (by simp) ?_
    refine ev_pos (by omega) ?_
    refine ev_pos (by omega) ?_
    rw [spec_l2Place.at, hr]
    simp only [Bool.false_and, Option.bind_some]
    exact ev_neg (by simp) (ev_some rfl)
theorem impl_areWalks.ev_all {n : Int} {g : Bool} (hr : okRoad n g = true) : ∀ (l : List (List Int)), (∀ x ∈ l, x.length ≤ 35184372088832) → Ev (fun k => impl_areWalks.all k n g l) (l.all (okWalk n g))
  | [], _ => ev_some rfl
  | x :: t, h => by
    refine Ev.bind (impl_Road_isWalk.ev g x hr (h x (by simp))) ?_
    rw [List.all_cons]
    by_cases hx : okWalk n g x = true
    · refine ev_pos hx ?_
      rw [hx, Bool.true_and]
      exact impl_areWalks.ev_all hr t (fun y hy => h y (by simp [hy]))
    · refine ev_neg hx (ev_some ?_)
      rw [Bool.not_eq_true] at hx
      rw [hx, Bool.false_and]
theorem impl_areWalks.ev (n : Int) (g : Bool) (l : List (List Int)) (h : ∀ x ∈ l, x.length ≤ 35184372088832) : Ev (fun k => impl_areWalks.f k n g l) (okRoad n g && l.all (okWalk n g)) := by
  unfold impl_areWalks.f
  rw [impl_IsRoad.at]
  simp only [Option.bind_some]
  by_cases hr : okRoad n g = true
  · refine ev_pos hr ?_
    rw [hr, Bool.true_and]
    exact impl_areWalks.ev_all hr l h
  · refine ev_neg hr (ev_some ?_)
    rw [Bool.not_eq_true] at hr
    rw [hr, Bool.false_and]
theorem impl_areWalks.ev1 (n : Int) (g : Bool) (w : List Int) (h : w.length ≤ 35184372088832) : Ev (fun k => impl_areWalks.f k n g [w]) (okWalk n g w) := by
  have := impl_areWalks.ev n g [w] (fun x hx => by simp at hx; subst hx; exact h)
  rw [List.all_cons, List.all_nil, Bool.and_true] at this
  by_cases hw : okWalk n g w = true
  · rw [hw, (okWalk_b hw).1, Bool.true_and] at this
    rw [hw]
    exact this
  · rw [Bool.not_eq_true] at hw
    rw [hw, Bool.and_false] at this
    rw [hw]
    exact this
theorem impl_areWalks.ev2 (n : Int) (g : Bool) (a b : List Int) (h : a.length ≤ 35184372088832) (h' : b.length ≤ 35184372088832) : Ev (fun k => impl_areWalks.f k n g [a, b]) (okWalk n g a && okWalk n g b) := by
  have := impl_areWalks.ev n g [a, b] (fun x hx => by simp at hx; rcases hx with rfl | rfl <;> assumption)
  rw [List.all_cons, List.all_cons, List.all_nil, Bool.and_true] at this
  by_cases hw : okWalk n g a = true
  · rw [hw, (okWalk_b hw).1, Bool.true_and] at this
    rw [hw]
    exact this
  · rw [Bool.not_eq_true] at hw
    rw [hw, Bool.false_and, Bool.and_false] at this
    rw [hw, Bool.false_and]
    exact this
theorem steps_app (n : Int) (g : Bool) : ∀ (p : List Int) (x : Int) (t : List Int), steps n g (p ++ [x]) = true → steps n g (x :: t) = true → steps n g (p ++ x :: t) = true
  | [], _, _, _, h => h
  | [a], x, t, h1, h2 => by
    simp only [List.singleton_append, steps, Bool.and_eq_true, Bool.and_true] at h1 ⊢
    exact ⟨h1, h2⟩
  | a :: b :: p, x, t, h1, h2 => by
    have ih := steps_app n g (b :: p) x t
    simp only [List.cons_append, steps, Bool.and_eq_true] at h1 ih ⊢
    exact ⟨h1.1, ih h1.2 h2⟩
theorem okWalk_join {n : Int} {g : Bool} {a b : List Int} (ha : okWalk n g a = true) (hb : okWalk n g b = true) (h : rd a ((a.length - 1 : Nat) : Int) = rd b 0) :
    okWalk n g (a ++ b.drop 1) = decide ((a.length : Int) + b.length - 1 ≤ 61) := by
  have ha' := okWalk_b ha
  have hb' := okWalk_b hb
  rcases List.eq_nil_or_concat a with rfl | ⟨p, x, rfl⟩
  · simp at ha'
  rw [List.concat_eq_append] at *
  cases b with
  | nil => simp at hb'
  | cons y t =>
    have e1 : rd (p ++ [x]) (((p ++ [x]).length - 1 : Nat) : Int) = x := by
      rw [rd_get rfl (by simp)]
      simp
    have e2 : rd (y :: t) 0 = y := rfl
    rw [e1, e2] at h
    subst h
    have hs := steps_app n g p x t ha'.2.2.2.2 hb'.2.2.2.2
    have e3 : (p ++ [x]) ++ (x :: t).drop 1 = p ++ x :: t := by simp
    rw [e3]
    have hall : ((p ++ x :: t).all fun z => decide (0 ≤ z ∧ z ≤ n - 1)) = true := by
      rw [List.all_eq_true]
      intro z hz
      rw [List.mem_append] at hz
      rcases hz with hz | hz
      · exact decide_eq_true (ha'.2.2.2.1 z (by simp [hz]))
      · exact decide_eq_true (hb'.2.2.2.1 z hz)
    unfold okWalk
    rw [ha'.1, hall, hs, Bool.and_true, Bool.and_true, Bool.true_and]
    refine decide_eq_decide.2 ?_
    simp only [List.length_append, List.length_cons, List.length_nil]
    omega
theorem spec_l1Own.at (l : List Int) (hl : l.length ≤ 1048576) : spec_l1Own.f l = some l := by
  unfold spec_l1Own.f
  simp only [Option.bind_some, List.length_nil, List.nil_append]
  exact if_pos (by omega)
theorem spec_l2Kept.ev (n : Int) (g : Bool) (w : List Int) (hl : w.length ≤ 35184372088832) : Ev (fun k => spec_l2Kept.f k n g w) (if okWalk n g w = true then (w, true) else ([], false)) := by
  unfold spec_l2Kept.f
  refine Ev.bind (spec_l2Walk.ev n g w hl) ?_
  by_cases h : okWalk n g w = true
  · exact ev_pos h (ev_some (if_pos h).symm)
  · exact ev_neg h (ev_some (if_neg h).symm)
theorem concat_two (a b : List Int) (ha : a.length ≤ 1000) (hb : b.length ≤ 1000) : Ev (fun k => slices_Concat_int_int.f k [a, b]) (a ++ b) := by
  unfold slices_Concat_int_int.f
  have e0 : rd_L3 [a, b] 0 = a := rfl
  have e1 : rd_L3 [a, b] 1 = b := rfl
  have i1 : wrap64 (0 + 1) = 1 := by unfold wrap64; omega
  have i2 : wrap64 (1 + 1) = 2 := by unfold wrap64; omega
  refine Ev.step (fun k => by rw [slices_Concat_int_int.l0]) (ev_pos (by simp) (ev_pos (by omega) (ev_pos (by simp) ?_)))
  rw [e0, w64 (x := 0 + (a.length : Int)) (by omega) (by omega), i1]
  refine ev_neg (by omega) ?_
  refine Ev.step (fun k => by rw [slices_Concat_int_int.l0]) (ev_pos (by simp) (ev_pos (by omega) (ev_pos (by simp) ?_)))
  rw [e1, w64 (x := 0 + (a.length : Int) + (b.length : Int)) (by omega) (by omega), i2]
  refine ev_neg (by omega) ?_
  refine Ev.step (fun k => by rw [slices_Concat_int_int.l0]) (ev_neg (by simp) ?_)
  rw [show slices_Grow_int_int.f ([] : List Int) (0 + (a.length : Int) + (b.length : Int)) = some [] from if_pos ⟨rfl, by omega, by omega⟩]
  simp only [Option.bind_some]
  refine Ev.step (fun k => by rw [slices_Concat_int_int.l1]) (ev_pos (by simp) (ev_pos (by omega) (ev_pos (by simp) ?_)))
  rw [e0, i1]
  refine ev_pos (by simp; omega) ?_
  refine Ev.step (fun k => by rw [slices_Concat_int_int.l1]) (ev_pos (by simp) (ev_pos (by omega) (ev_pos (by simp) ?_)))
  rw [e1, i2]
  refine ev_pos (by simp; omega) ?_
  exact Ev.step (fun k => by rw [slices_Concat_int_int.l1]) (ev_neg (by simp) (ev_some (by simp)))
theorem both (n : Int) (g : Bool) (a b : List Int) (hl : a.length ≤ 1048576) (hl' : b.length ≤ 1048576) : ∃ r, Ev (fun k => spec_JoinWalks.f k n g a b) r ∧ Ev (fun k => impl_JoinWalks.f k n g a b) r ∧ r.1.length ≤ 1048576 := by
  unfold spec_JoinWalks.f impl_JoinWalks.f
  have hsa := spec_l2Walk.ev n g a (by omega)
  have hsb := spec_l2Walk.ev n g b (by omega)
  have hi := impl_areWalks.ev2 n g a b (by omega) (by omega)
  have bad : Ev (fun k => spec_JoinWalks.j0 k a b true n g) ([], false) := Ev.step (fun k => by rw [spec_JoinWalks.j0]) (ev_pos rfl (ev_some rfl))
  by_cases h : okWalk n g a = true
  · by_cases h' : okWalk n g b = true
    · have ha := okWalk_b h
      have hb := okWalk_b h'
      have e1 : wrap64 ((a.length : Int) - 1) = ((a.length - 1 : Nat) : Int) := by unfold wrap64; omega
      rw [e1, w64 (x := (a.length : Int) + b.length) (by omega) (by omega), w64 (x := (a.length : Int) + b.length - 1) (by omega) (by omega)]
      by_cases c : rd a ((a.length - 1 : Nat) : Int) = rd b 0
      · have hk := spec_l2Kept.ev n g (a ++ b.drop 1) (by simp; omega)
        rw [okWalk_join h h' c] at hk
        have hs : ∀ r : List Int × Bool, (if decide ((a.length : Int) + b.length - 1 ≤ 61) = true then (a ++ b.drop 1, true) else ([], false)) = r → Ev (fun k => spec_JoinWalks.j0 k a b false n g) r := by
          intro r hr
          refine Ev.step (fun k => by rw [spec_JoinWalks.j0]) (ev_neg (by simp) ?_)
          rw [spec_l1Own.at a hl]
          simp only [Option.bind_some]
          refine ev_pos (by omega) (ev_pos (by simp; omega) ?_)
          refine Ev.bind hk (ev_some ?_)
          exact hr
        have ec : (rd a ((a.length - 1 : Nat) : Int) != rd b 0) = false := bne_eq_false_iff_eq.mpr c
        rw [ec]
        by_cases c2 : (a.length : Int) + b.length - 1 > 61
        · refine ⟨([], false), Ev.bind hsa (ev_pos h (Ev.bind hsb (ev_pos h' (ev_pos (by omega) (ev_pos (by omega) (ev_pos (by omega) (hs _ ?_))))))), Ev.bind hi (ev_pos (by simp [h, h']) (ev_pos (by omega) (ev_pos (by omega) (ev_pos (by omega) (ev_pos c (ev_pos c2 (ev_some rfl))))))), by simp⟩
          exact if_neg (by simp only [decide_eq_true_eq]; omega)
        · refine ⟨(a ++ b.drop 1, true), Ev.bind hsa (ev_pos h (Ev.bind hsb (ev_pos h' (ev_pos (by omega) (ev_pos (by omega) (ev_pos (by omega) (hs _ ?_))))))), Ev.bind hi (ev_pos (by simp [h, h']) (ev_pos (by omega) (ev_pos (by omega) (ev_pos (by omega) (ev_pos c (ev_neg c2 (ev_pos (by omega) (Ev.bind (concat_two a (b.drop 1) (by omega) (by simp; omega)) (ev_some rfl))))))))), by simp; omega⟩
          exact if_pos (by simp only [decide_eq_true_eq]; omega)
      · have ec : (rd a ((a.length - 1 : Nat) : Int) != rd b 0) = true := bne_iff_ne.mpr c
        rw [ec]
        exact ⟨([], false), Ev.bind hsa (ev_pos h (Ev.bind hsb (ev_pos h' (ev_pos (by omega) (ev_pos (by omega) (ev_pos (by omega) bad)))))), Ev.bind hi (ev_pos (by simp [h, h']) (ev_pos (by omega) (ev_pos (by omega) (ev_pos (by omega) (ev_neg c (ev_some rfl)))))), by simp⟩
    · exact ⟨([], false), Ev.bind hsa (ev_pos h (Ev.bind hsb (ev_neg h' bad))), Ev.bind hi (ev_neg (by simp [h']) (ev_some rfl)), by simp⟩
  · exact ⟨([], false), Ev.bind hsa (ev_neg h bad), Ev.bind hi (ev_neg (by simp [h]) (ev_some rfl)), by simp⟩
theorem FnExactJoinWalks (n : Int) (g : Bool) (a : List Int) (b : List Int) (_ : -9223372036854775808 ≤ n) (_ : n ≤ 9223372036854775807) (_ : a.length * 8 ≤ 140737488351232) (_ : ∀ x ∈ a, (Lit.int .i64 x).wf = true) (_ : b.length * 8 ≤ 140737488351232) (_ : ∀ x ∈ b, (Lit.int .i64 x).wf = true) : ∃ k, laws_FnExactJoinWalks.f k n g a b = some true := by
  refine Ev.rounds (r := true) ?_
  unfold laws_FnExactJoinWalks.f
  by_cases hl0 : (a.length : Int) > 1048576
  · exact ev_pos hl0 (ev_some rfl)
  refine ev_neg hl0 ?_
  by_cases hl1 : (b.length : Int) > 1048576
  · exact ev_pos hl1 (ev_some rfl)
  refine ev_neg hl1 ?_
  obtain ⟨r, hs, hi, hd⟩ := both n g a b (by omega) (by omega)
  obtain ⟨r, b⟩ := r
  simp only at hd
  simp only [laws_toRoad.at, Option.bind_some]
  repeat' (first
    | with_reducible exact ev_some rfl
    | with_reducible refine Ev.bind hs ?_
    | with_reducible refine Ev.bind hi ?_
    | with_reducible refine Ev.bind (ev_const (laws_toRoad.at _ _)) ?_
    | ((with_reducible refine Ev.bind (laws_toIntS.ev _ ?h1_) ?_); (case h1_ => (first | omega | (simp only []; omega) | (simp only [marks_length]; omega))))
    | ((with_reducible refine Ev.bind (laws_eqIntS.ev _ _ ?h1_) ?_); (case h1_ => (first | omega | (simp only []; omega) | (simp only [marks_length]; omega))))
    | ((with_reducible refine Ev.bind (laws_markIntS.ev _ ?h1_ _ (by first | omega | (simp only []; omega)) (by first | omega | (simp only []; omega))) ?_); (case h1_ => (first | omega | (simp only []; omega) | (simp only [marks_length]; omega))))
    | ((with_reducible refine Ev.bind (laws_heldIntS.ev _ ?h1_ 1 (by omega) (by omega)) ?_); (case h1_ => (first | omega | (simp only []; omega) | (simp only [marks_length]; omega))))
    | ((with_reducible refine ev_pos ?h1_ ?_); (case h1_ => (first | rfl | assumption | (simp; done))))
    | ((with_reducible refine ev_neg ?h1_ ?_); (case h1_ => (first | assumption | (simp; done) | (first | omega | (simp only []; omega) | (simp only [marks_length]; omega)) | (simp; omega))))
    | (with_reducible refine Ev.step (g := fun k => laws_FnExactJoinWalks.j0 k _ _ _ _ _ _ _ _ _ _ _) (fun k => by rw [laws_FnExactJoinWalks.j0]) ?_)
    | (with_reducible refine Ev.step (g := fun k => laws_FnExactJoinWalks.j1 k _ _ _ _ _ _ _ _) (fun k => by rw [laws_FnExactJoinWalks.j1]) ?_)
    | (with_reducible refine Ev.step (g := fun k => laws_FnExactJoinWalks.j2 k _ _ _) (fun k => by rw [laws_FnExactJoinWalks.j2]) ?_)
    )

end Go.Proofs.Ytkbpagjeohgfeaa.Pure
