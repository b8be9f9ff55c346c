/- The plain side of the law FnExactWalkText: the printed law, whatever its input (within the form's bounds), comes to true. No other condition. -/
import Derived.Test.YtjihgbfhgfmknaaDoorPFnExactWalkTextx5
import Derived.Test.YtjihgbfhgfmknaaDoorBase
import Derived.Test.YtjihgbfhgfmknaaDoorMath
namespace Go.Proofs.YtjihgbfhgfmknaaDoor.Pure
open Go.RowKit Go.Proofs.YtjihgbfhgfmknaaDoor.PFnExactWalkText Go.Proofs.YtjihgbfhgfmknaaDoorW.PrintWords Go.Proofs.YtjihgbfhgfmknaaDoorW.PrintLast Go.Proofs.YtjihgbfhgfmknaaDoorW.PrintMore Go.Proofs.YtjihgbfhgfmknaaDoor.Base Go.Proofs.YtjihgbfhgfmknaaDoor.M
set_option linter.unusedVariables false
set_option linter.unusedSimpArgs false

theorem laws_toIntS.ev (l : List Int) (hl : l.length ≤ 35184372088832) : Ev (fun k => laws_toIntS.f k l) l := by
  have main : ∀ (d i : Nat) (x : List Int), i + d = l.length → x.length = l.length → (∀ j, j < i → x[j]? = l[j]?) →
      Ev (fun k => laws_toIntS.l0 k l x i) l := by
    intro d
    induction d with
    | zero =>
      intro i x e hx hj
      refine Ev.step (fun k => by rw [laws_toIntS.l0]) ?_
      refine ev_neg (by omega) ?_
      refine ev_some (List.ext_getElem? fun j => ?_)
      by_cases h : j < l.length
      · exact hj j (by omega)
      · rw [List.getElem?_eq_none (by omega), List.getElem?_eq_none (by omega)]
    | succ d ih =>
      intro i x e hx hj
      refine Ev.step (fun k => by rw [laws_toIntS.l0]) ?_
      refine ev_pos (by omega) ?_
      refine ev_pos (by omega) ?_
      refine ev_pos (by omega) ?_
      rw [w64 (x := (i : Int) + 1) (by omega) (by omega)]
      refine ih (i + 1) _ (by omega) (by simpa using hx) (fun j hj' => ?_)
      rw [Int.toNat_natCast, rd_get rfl (by omega)]
      by_cases h : j = i
      · subst h
        rw [List.getElem?_set_self (by omega), List.getElem?_eq_getElem (by omega)]
      · rw [List.getElem?_set_ne (by omega)]
        exact hj j (by omega)
  unfold laws_toIntS.f
  refine ev_pos (by omega) ?_
  refine ev_pos (by omega) ?_
  exact main l.length 0 _ (by omega) (by simp) (fun j hj => by omega)
theorem laws_eqIntS.ev (a b : List Int) (hl : a.length ≤ 35184372088832) : Ev (fun k => laws_eqIntS.f k a b) (decide (a = b)) := by
  have main : ∀ (d i : Nat), i + d = a.length → a.length = b.length → Ev (fun k => laws_eqIntS.l0 k a b i) (decide (a.drop i = b.drop i)) := by
    intro d
    induction d with
    | zero =>
      intro i e he
      refine Ev.step (fun k => by rw [laws_eqIntS.l0]) ?_
      refine ev_neg (by omega) ?_
      refine ev_some ?_
      rw [List.drop_eq_nil_of_le (by omega), List.drop_eq_nil_of_le (by omega)]
      rfl
    | succ d ih =>
      intro i e he
      refine Ev.step (fun k => by rw [laws_eqIntS.l0]) ?_
      refine ev_pos (by omega) ?_
      refine ev_pos (by omega) ?_
      refine ev_pos (by omega) ?_
      rw [w64 (x := (i : Int) + 1) (by omega) (by omega), rd_get rfl (by omega), rd_get rfl (by omega), List.drop_eq_getElem_cons (by omega), List.drop_eq_getElem_cons (l := b) (by omega)]
      by_cases h : a[i] = b[i]
      · refine ev_pos h ?_
        rw [show decide (a[i] :: a.drop (i + 1) = b[i] :: b.drop (i + 1)) = decide (a.drop (i + 1) = b.drop (i + 1)) from decide_eq_decide.2 ⟨fun e => (List.cons.inj e).2, fun e => by rw [h, e]⟩]
        exact ih (i + 1) (by omega) he
      · refine ev_neg h (ev_some ?_)
        exact (decide_eq_false fun e => h (List.cons.inj e).1).symm
  unfold laws_eqIntS.f
  by_cases h : a.length = b.length
  · refine ev_pos (by omega) ?_
    exact main a.length 0 (by omega) h
  · refine ev_neg (by omega) (ev_some ?_)
    symm
    rw [decide_eq_false_iff_not]
    exact fun e => h (by rw [e])
theorem spec_l1In.at (a b c : Int) : spec_l1In.f a b c = some (decide (b ≤ a ∧ a ≤ c)) := by
  unfold spec_l1In.f
  by_cases h : a ≥ b
  · rw [if_pos h]
    simp [show b ≤ a from h]
  · rw [if_neg h]
    simp [show ¬ b ≤ a from h]
theorem impl_within.at (a b c : Int) : impl_within.f a b c = some (decide (b ≤ a ∧ a ≤ c)) := by
  unfold impl_within.f
  by_cases h : a ≥ b
  · rw [if_pos h]
    simp [show b ≤ a from h]
  · rw [if_neg h]
    simp [show ¬ b ≤ a from h]
theorem spec_l2Road.at (n : Int) (g : Bool) : spec_l2Road.f n g = some (okRoad n g) := by
  unfold spec_l2Road.f okRoad
  rw [spec_l1In.at]
  simp only [Option.bind_some]
  by_cases h : 2 ≤ n ∧ n ≤ 24
  · rw [if_pos (by simpa using h)]
    cases g with
    | false => simp [h]
    | true =>
      simp only [if_true, h, true_and, Option.some.injEq]
      exact decide_eq_decide.2 (by simp; omega)
  · rw [if_neg (by simpa using h)]
    simp only [Option.some.injEq]
    exact (decide_eq_false (fun h' => h ⟨h'.1, h'.2.1⟩)).symm
theorem impl_IsRoad.at (n : Int) (g : Bool) : impl_IsRoad.f n g = some (okRoad n g) := by
  unfold impl_IsRoad.f okRoad
  rw [impl_within.at]
  simp only [Option.bind_some]
  by_cases h : 2 ≤ n ∧ n ≤ 24
  · rw [if_pos (by simpa using h)]
    cases g with
    | false => simp [h]
    | true =>
      simp only [if_true, h, true_and, Option.some.injEq]
      exact decide_eq_decide.2 (by simp)
  · rw [if_neg (by simpa using h)]
    simp only [Option.some.injEq]
    exact (decide_eq_false (fun h' => h ⟨h'.1, h'.2.1⟩)).symm
theorem laws_toRoad.at (n : Int) (g : Bool) : laws_toRoad.f n g = some (n, g) := rfl
theorem spec_l2Place.at (n : Int) (g : Bool) (p : Int) : spec_l2Place.f n g p = some (okRoad n g && decide (0 ≤ p ∧ p ≤ n - 1)) := by
  unfold spec_l2Place.f
  rw [spec_l2Road.at]
  simp only [Option.bind_some]
  by_cases h : okRoad n g = true
  · have hb := okRoad_b h
    rw [if_pos h, w64 (x := n - 1) (by omega) (by omega), spec_l1In.at, h]
    rfl
  · rw [if_neg h]
    rw [Bool.not_eq_true] at h
    rw [h]
    rfl
theorem spec_l1Most.at (a b : Int) : spec_l1Most.f a b = some (max a b) := by
  unfold spec_l1Most.f
  by_cases h : a > b
  · rw [if_pos h, Int.max_eq_left (by omega)]
  · rw [if_neg h, Int.max_eq_right (by omega)]
theorem spec_l1Least.at (a b : Int) : spec_l1Least.f a b = some (min a b) := by
  unfold spec_l1Least.f
  by_cases h : a < b
  · rw [if_pos h, Int.min_eq_left (by omega)]
  · rw [if_neg h, Int.min_eq_right (by omega)]
theorem spec_l2Gap.at {n : Int} (g : Bool) {a b : Int} (hn : 2 ≤ n ∧ n ≤ 24) (ha : 0 ≤ a ∧ a ≤ n - 1) (hb : 0 ≤ b ∧ b ≤ n - 1) : spec_l2Gap.f n g a b = some (gap n g a b) := by
  unfold spec_l2Gap.f gap
  rw [w64 (x := a - b) (by omega) (by omega), w64 (x := b - a) (by omega) (by omega), spec_l1Most.at]
  simp only [Option.bind_some]
  cases g with
  | false => simp
  | true => rw [if_pos rfl, if_pos rfl, w64 (by omega) (by omega), spec_l1Least.at]; rfl
theorem impl_Road_gap.at {n : Int} (g : Bool) {a b : Int} (hn : 2 ≤ n ∧ n ≤ 24) (ha : 0 ≤ a ∧ a ≤ n - 1) (hb : 0 ≤ b ∧ b ≤ n - 1) : impl_Road_gap.f n g a b = some (gap n g a b) := by
  unfold impl_Road_gap.f gap
  rw [w64 (x := a - b) (by omega) (by omega), w64 (x := b - a) (by omega) (by omega)]
  simp only [mx_eq, mn_eq]
  cases g with
  | false => simp
  | true => rw [if_pos rfl, if_pos rfl, w64 (by omega) (by omega)]
theorem impl_allWithin.ev (l : List Int) (lo hi : Int) (hl : l.length ≤ 35184372088832) : Ev (fun k => impl_allWithin.f k l lo hi) (l.all fun x => decide (lo ≤ x ∧ x ≤ hi)) := by
  have main : ∀ (d i : Nat), i + d = l.length → Ev (fun k => impl_allWithin.l0 k lo hi l l.length i) ((l.drop i).all fun x => decide (lo ≤ x ∧ x ≤ hi)) := by
    intro d
    induction d with
    | zero =>
      intro i e
      refine Ev.step (fun k => by rw [impl_allWithin.l0]) ?_
      refine ev_neg (by omega) (ev_some ?_)
      rw [List.drop_eq_nil_of_le (by omega)]
      rfl
    | succ d ih =>
      intro i e
      refine Ev.step (fun k => by rw [impl_allWithin.l0]) ?_
      refine ev_pos (by omega) ?_
      refine ev_pos (by omega) ?_
      refine ev_pos (by omega) ?_
      rw [w64 (x := (i : Int) + 1) (by omega) (by omega), rd_get rfl (by omega), List.drop_eq_getElem_cons (by omega), List.all_cons, impl_within.at]
      simp only [Option.bind_some]
      by_cases h : lo ≤ l[i] ∧ l[i] ≤ hi
      · refine ev_pos (by simpa using h) ?_
        rw [decide_eq_true h, Bool.true_and]
        exact ih (i + 1) (by omega)
      · refine ev_neg (by simpa using h) (ev_some ?_)
        rw [decide_eq_false h, Bool.false_and]
  unfold impl_allWithin.f
  exact main l.length 0 (by omega)
theorem impl_Road_has.ev {n : Int} (g : Bool) (l : List Int) (hn : 2 ≤ n ∧ n ≤ 24) (hl : l.length ≤ 35184372088832) : Ev (fun k => impl_Road_has.f k n g l) (l.all fun x => decide (0 ≤ x ∧ x ≤ n - 1)) := by
  unfold impl_Road_has.f
  rw [w64 (x := n - 1) (by omega) (by omega)]
  exact Ev.bind (impl_allWithin.ev l 0 (n - 1) hl) (ev_some rfl)
theorem impl_Road_isWalk.ev {n : Int} (g : Bool) (w : List Int) (hr : okRoad n g = true) (hl : w.length ≤ 35184372088832) : Ev (fun k => impl_Road_isWalk.f k n g w) (okWalk n g w) := by
  have hb := okRoad_b hr
  unfold impl_Road_isWalk.f okWalk
  rw [impl_within.at, hr, Bool.true_and]
  simp only [Option.bind_some]
  by_cases h : 1 ≤ (w.length : Int) ∧ (w.length : Int) ≤ 61
  · refine ev_pos (by simpa using h) ?_
    rw [decide_eq_true h, Bool.true_and]
    refine Ev.bind (impl_Road_has.ev g w ⟨hb.1, hb.2.1⟩ hl) ?_
    refine Ev.step (fun k => by rw [impl_Road_isWalk.j0]) ?_
    by_cases ha : (w.all fun x => decide (0 ≤ x ∧ x ≤ n - 1)) = true
    · rw [ha, Bool.true_and]
      refine ev_neg (by simp) ?_
      have main : ∀ (d i : Nat), i + d + 1 = w.length → Ev (fun k => impl_Road_isWalk.l0 k w ((i : Int) + 1) n g) (steps n g (w.drop i)) := by
        intro d
        induction d with
        | zero =>
          intro i e
          refine Ev.step (fun k => by rw [impl_Road_isWalk.l0]) ?_
          refine ev_neg (by omega) (ev_some ?_)
          rw [List.drop_eq_getElem_cons (by omega), List.drop_eq_nil_of_le (by omega)]
          rfl
        | succ d ih =>
          intro i e
          refine Ev.step (fun k => by rw [impl_Road_isWalk.l0]) ?_
          rw [show wrap64 ((i : Int) + 1 - 1) = (i : Int) from by unfold wrap64; omega, show wrap64 ((i : Int) + 1 + 1) = ((i + 1 : Nat) : Int) + 1 from by unfold wrap64; omega]
          refine ev_pos (by omega) ?_
          refine ev_pos (by omega) ?_
          refine ev_pos (by omega) ?_
          refine ev_pos (by omega) ?_
          rw [rd_get (n := i) rfl (by omega), rd_get (n := i + 1) (by omega) (by omega), impl_Road_gap.at g ⟨hb.1, hb.2.1⟩ (in_of_all ha _) (in_of_all ha _)]
          have ih := ih (i + 1) (by omega)
          rw [List.drop_eq_getElem_cons (by omega)] at ih ⊢
          rw [List.drop_eq_getElem_cons (show i + 1 < w.length by omega)]
          unfold steps
          simp only [Option.bind_some]
          by_cases hg : gap n g w[i] w[i + 1] ≤ 1
          · refine ev_neg (by omega) ?_
            rw [decide_eq_true hg, Bool.true_and]
            exact ih
          · refine ev_pos (by omega) (ev_some ?_)
            rw [decide_eq_false hg, Bool.false_and]
      have := main (w.length - 1) 0 (by omega)
      simpa using this
    · rw [Bool.not_eq_true] at ha
      rw [ha, Bool.false_and]
      exact ev_pos (by simp) (ev_some rfl)
  · refine ev_neg (by simpa using h) ?_
    rw [decide_eq_false h]
    refine Ev.step (fun k => by rw [impl_Road_isWalk.j0]) ?_
    exact ev_pos rfl (ev_some rfl)
theorem spec_l2Walk.ev (n : Int) (g : Bool) (w : List Int) (hl : w.length ≤ 35184372088832) : Ev (fun k => spec_l2Walk.f k n g w) (okWalk n g w) := by
  unfold spec_l2Walk.f okWalk
  by_cases h0 : w.length = 0
  · obtain rfl := List.eq_nil_of_length_eq_zero h0
    refine Ev.step (fun k => by rw [spec_l2Walk.l0]) ?_
    refine ev_neg (by simp) ?_
    refine Ev.step (fun k => by rw [spec_l2Walk.j1]) ?_
    refine ev_neg (by simp) ?_
    rw [spec_l2Road.at]
    simp only [Option.bind_some]
    by_cases hr : okRoad n g = true
    · rw [hr]
      refine ev_pos rfl ?_
      rw [spec_l1In.at]
      exact ev_some rfl
    · refine ev_neg hr (ev_some ?_)
      rw [Bool.not_eq_true] at hr
      rw [hr]
      rfl
  by_cases hr : okRoad n g = true
  · have hb := okRoad_b hr
    rw [hr, Bool.true_and]
    have main : ∀ (d i : Nat) (hi : i < w.length), i + 1 + d = min w.length 61 → 0 ≤ w[i] ∧ w[i] ≤ n - 1 →
        Ev (fun k => spec_l2Walk.l0 k w ((i : Int) + 1) n g) (decide (1 ≤ (w.length : Int) ∧ (w.length : Int) ≤ 61) && ((w.drop (i + 1)).all fun x => decide (0 ≤ x ∧ x ≤ n - 1)) && steps n g (w.drop i)) := by
      intro d
      induction d with
      | zero =>
        intro i hi e hw
        refine Ev.step (fun k => by rw [spec_l2Walk.l0]) ?_
        have fin : ∀ b : Bool, b = (decide (1 ≤ (w.length : Int) ∧ (w.length : Int) ≤ 61) && ((w.drop (i + 1)).all fun x => decide (0 ≤ x ∧ x ≤ n - 1)) && steps n g (w.drop i)) → decide (1 ≤ (w.length : Int) ∧ (w.length : Int) ≤ 61) = b →
            Ev (fun k => spec_l2Walk.j1 k w ((i : Int) + 1) false n g) (decide (1 ≤ (w.length : Int) ∧ (w.length : Int) ≤ 61) && ((w.drop (i + 1)).all fun x => decide (0 ≤ x ∧ x ≤ n - 1)) && steps n g (w.drop i)) := by
          intro b hb1 hb2
          refine Ev.step (fun k => by rw [spec_l2Walk.j1]) ?_
          refine ev_neg (by simp) ?_
          rw [spec_l2Road.at, hr]
          simp only [Option.bind_some]
          refine ev_pos (by trivial) ?_
          rw [spec_l1In.at]
          exact ev_some (hb2.trans hb1)
        by_cases hc : (i : Int) + 1 < w.length
        · refine ev_pos hc ?_
          rw [decide_eq_false (show ¬ (i : Int) + 1 ≤ 60 by omega)]
          have : ¬ (1 ≤ (w.length : Int) ∧ (w.length : Int) ≤ 61) := by omega
          exact fin false (by rw [decide_eq_false this, Bool.false_and, Bool.false_and]) (by rw [decide_eq_false this])
        · refine ev_neg hc ?_
          have : 1 ≤ (w.length : Int) ∧ (w.length : Int) ≤ 61 := by omega
          refine fin true ?_ (by rw [decide_eq_true this])
          rw [decide_eq_true this, List.drop_eq_getElem_cons hi, List.drop_eq_nil_of_le (by omega)]
          rfl
      | succ d ih =>
        intro i hi e hw
        refine Ev.step (fun k => by rw [spec_l2Walk.l0]) ?_
        refine ev_pos (by omega) ?_
        rw [decide_eq_true (show (i : Int) + 1 ≤ 60 by omega)]
        refine Ev.step (fun k => by rw [spec_l2Walk.j1]) ?_
        refine ev_pos rfl ?_
        rw [show wrap64 ((i : Int) + 1 - 1) = (i : Int) from by unfold wrap64; omega, show wrap64 ((i : Int) + 1 + 1) = ((i + 1 : Nat) : Int) + 1 from by unfold wrap64; omega]
        refine ev_pos (by omega) ?_
        refine ev_pos (by omega) ?_
        rw [rd_get (n := i) rfl (by omega), rd_get (n := i + 1) (by omega) (by omega), spec_l2Place.at, hr, Bool.true_and]
        simp only [Option.bind_some]
        rw [List.drop_eq_getElem_cons (show i + 1 < w.length by omega), List.all_cons]
        by_cases hp : 0 ≤ w[i + 1] ∧ w[i + 1] ≤ n - 1
        · have ih := ih (i + 1) (by omega) (by omega) hp
          refine ev_pos (by simpa using hp) ?_
          refine ev_pos (by omega) ?_
          refine ev_pos (by omega) ?_
          refine ev_pos (by omega) ?_
          rw [spec_l2Gap.at g ⟨hb.1, hb.2.1⟩ hw hp, decide_eq_true hp, Bool.true_and]
          simp only [Option.bind_some]
          rw [List.drop_eq_getElem_cons (show i + 1 < w.length by omega)] at ih
          rw [List.drop_eq_getElem_cons hi, List.drop_eq_getElem_cons (show i + 1 < w.length by omega)]
          rw [show steps n g (w[i] :: w[i + 1] :: w.drop (i + 1 + 1)) = (decide (gap n g w[i] w[i + 1] ≤ 1) && steps n g (w[i + 1] :: w.drop (i + 1 + 1))) from rfl]
          by_cases hg : gap n g w[i] w[i + 1] ≤ 1
          · refine ev_neg (by omega) ?_
            rw [decide_eq_true hg, Bool.true_and]
            exact ih
          · refine ev_pos (by omega) (ev_some ?_)
            rw [decide_eq_false hg, Bool.false_and, Bool.and_false]
        · refine ev_neg (by simpa using hp) (ev_some ?_)
          rw [decide_eq_false hp, Bool.false_and, Bool.and_false, Bool.false_and]
    refine Ev.step (fun k => by rw [spec_l2Walk.l0]) ?_
    refine ev_pos (by omega) ?_
    refine Ev.step (fun k => by rw [spec_l2Walk.j1]) ?_
    refine ev_pos (by simp) ?_
    refine ev_pos (by omega) ?_
    refine ev_pos (by omega) ?_
    rw [rd_get (i := 0) (n := 0) rfl (by omega), spec_l2Place.at, hr, Bool.true_and]
    simp only [Option.bind_some]
    have hall : (w.all fun x => decide (0 ≤ x ∧ x ≤ n - 1)) = (decide (0 ≤ w[0] ∧ w[0] ≤ n - 1) && (w.drop 1).all fun x => decide (0 ≤ x ∧ x ≤ n - 1)) := by
      cases w with
      | nil => simp at h0
      | cons a t => rfl
    rw [hall]
    by_cases hp : 0 ≤ w[0] ∧ w[0] ≤ n - 1
    · refine ev_pos (by simpa using hp) ?_
      refine ev_neg (by omega) ?_
      rw [decide_eq_true hp, Bool.true_and]
      have := main (min w.length 61 - 1) 0 (by omega) (by omega) hp
      rw [show wrap64 (0 + 1) = ((0 : Nat) : Int) + 1 from by unfold wrap64; omega]
      simpa using this
    · refine ev_neg (by simpa using hp) (ev_some ?_)
      rw [decide_eq_false hp, Bool.false_and, Bool.and_false, Bool.false_and]
  · rw [Bool.not_eq_true] at hr
    rw [hr]
    refine Ev.step (fun k => by rw [spec_l2Walk.l0]) ?_
    refine ev_pos (by omega) ?_
    refine Ev.step (fun k => by rw [spec_l2Walk.j1]) ?_
    refine ev_pos (by simp) ?_
    refine ev_pos (by omega) ?_
    refine ev_pos (by omega) ?_
    rw [spec_l2Place.at, hr]
    simp only [Bool.false_and, Option.bind_some]
    exact ev_neg (by simp) (ev_some rfl)
theorem impl_areWalks.ev_all {n : Int} {g : Bool} (hr : okRoad n g = true) : ∀ (l : List (List Int)), (∀ x ∈ l, x.length ≤ 35184372088832) → Ev (fun k => impl_areWalks.all k n g l) (l.all (okWalk n g))
  | [], _ => ev_some rfl
  | x :: t, h => by
    refine Ev.bind (impl_Road_isWalk.ev g x hr (h x (by simp))) ?_
    rw [List.all_cons]
    by_cases hx : okWalk n g x = true
    · refine ev_pos hx ?_
      rw [hx, Bool.true_and]
      exact impl_areWalks.ev_all hr t (fun y hy => h y (by simp [hy]))
    · refine ev_neg hx (ev_some ?_)
      rw [Bool.not_eq_true] at hx
      rw [hx, Bool.false_and]
theorem impl_areWalks.ev (n : Int) (g : Bool) (l : List (List Int)) (h : ∀ x ∈ l, x.length ≤ 35184372088832) : Ev (fun k => impl_areWalks.f k n g l) (okRoad n g && l.all (okWalk n g)) := by
  unfold impl_areWalks.f
  rw [impl_IsRoad.at]
  simp only [Option.bind_some]
  by_cases hr : okRoad n g = true
  · refine ev_pos hr ?_
    rw [hr, Bool.true_and]
    exact impl_areWalks.ev_all hr l h
  · refine ev_neg hr (ev_some ?_)
    rw [Bool.not_eq_true] at hr
    rw [hr, Bool.false_and]
theorem impl_areWalks.ev1 (n : Int) (g : Bool) (w : List Int) (h : w.length ≤ 35184372088832) : Ev (fun k => impl_areWalks.f k n g [w]) (okWalk n g w) := by
  have := impl_areWalks.ev n g [w] (fun x hx => by simp at hx; subst hx; exact h)
  rw [List.all_cons, List.all_nil, Bool.and_true] at this
  by_cases hw : okWalk n g w = true
  · rw [hw, (okWalk_b hw).1, Bool.true_and] at this
    rw [hw]
    exact this
  · rw [Bool.not_eq_true] at hw
    rw [hw, Bool.and_false] at this
    rw [hw]
    exact this
theorem impl_areWalks.ev2 (n : Int) (g : Bool) (a b : List Int) (h : a.length ≤ 35184372088832) (h' : b.length ≤ 35184372088832) : Ev (fun k => impl_areWalks.f k n g [a, b]) (okWalk n g a && okWalk n g b) := by
  have := impl_areWalks.ev n g [a, b] (fun x hx => by simp at hx; rcases hx with rfl | rfl <;> assumption)
  rw [List.all_cons, List.all_cons, List.all_nil, Bool.and_true] at this
  by_cases hw : okWalk n g a = true
  · rw [hw, (okWalk_b hw).1, Bool.true_and] at this
    rw [hw]
    exact this
  · rw [Bool.not_eq_true] at hw
    rw [hw, Bool.false_and, Bool.and_false] at this
    rw [hw, Bool.false_and]
    exact this
theorem dig_at (d : Nat) (h : d < 10) : (⟨#[48, 49, 50, 51, 52, 53, 54, 55, 56, 57]⟩ : ByteArray).extract d (d + 1) = ⟨#[UInt8.ofNat (48 + d)]⟩ := by
  have : ∀ q : Fin 10, (⟨#[48, 49, 50, 51, 52, 53, 54, 55, 56, 57]⟩ : ByteArray).extract q.1 (q.1 + 1) = ⟨#[UInt8.ofNat (48 + q.1)]⟩ := by decide +kernel
  exact this ⟨d, h⟩
theorem dec_len (m : Nat) : (Go.Lib.decDigits m).length ≤ m + 1 := by
  induction m using Nat.strongRecOn with
  | _ m ih =>
    unfold Go.Lib.decDigits
    by_cases h : m < 10
    · rw [dif_pos h]
      simp
    · rw [dif_neg h]
      have := ih (m / 10) (by omega)
      simp
      omega
theorem ba_app (a b : List UInt8) : (⟨a.toArray⟩ : ByteArray) ++ (⟨b.toArray⟩ : ByteArray) = ⟨(a ++ b).toArray⟩ := by
  apply ByteArray.ext
  rw [ByteArray.data_append]
  simp
theorem ba_size (a : List UInt8) : (⟨a.toArray⟩ : ByteArray).size = a.length := by simp [ByteArray.size]
theorem num_nat (m : Nat) : m ≤ 1000000000 → Ev (fun k => spec_l1Num.f k (m : Int)) ⟨(Go.Lib.decDigits m).toArray⟩ := by
  induction m using Nat.strongRecOn with
  | _ m ih =>
    intro hm
    refine Ev.step (fun k => by rw [spec_l1Num.f]) ?_
    refine ev_neg (by omega) ?_
    by_cases h : m < 10
    · refine ev_pos (by omega) ?_
      refine ev_pos (by omega) ?_
      have hw : wrap64 ((m : Int) + 1) = ((m + 1 : Nat) : Int) := by rw [w64 (by omega) (by omega)]; omega
      simp only [hw]
      refine ev_pos (by omega) ?_
      refine ev_pos (by omega) ?_
      refine ev_some ?_
      rw [Int.toNat_natCast, Int.toNat_natCast, dig_at m h, Go.Lib.decDigits, dif_pos h]
    · refine ev_neg (by omega) ?_
      have h1 : Int.tdiv (m : Int) 10 = ((m / 10 : Nat) : Int) := by rw [Int.tdiv_eq_ediv_of_nonneg (by omega)]; omega
      have h2 : Int.tmod (m : Int) 10 = ((m % 10 : Nat) : Int) := by rw [Int.tmod_eq_emod_of_nonneg (by omega)]; omega
      have hw : wrap64 ((m / 10 : Nat) : Int) = ((m / 10 : Nat) : Int) := w64 (by omega) (by omega)
      have hw2 : wrap64 (((m % 10 : Nat) : Int) + 1) = ((m % 10 + 1 : Nat) : Int) := by rw [w64 (by omega) (by omega)]; omega
      simp only [h1, h2, hw, hw2]
      refine Ev.bind (ih (m / 10) (by omega) (by omega)) ?_
      refine ev_pos (by omega) ?_
      refine ev_pos (by omega) ?_
      refine ev_pos (by omega) ?_
      rw [Int.toNat_natCast, Int.toNat_natCast, dig_at (m % 10) (by omega)]
      have hl := dec_len (m / 10)
      refine ev_pos ?_ ?_
      · rw [ba_size]
        simp [ByteArray.size]
        omega
      · refine ev_some ?_
        have e := Go.Lib.decDigits
        rw [show (⟨#[UInt8.ofNat (48 + m % 10)]⟩ : ByteArray) = ⟨([UInt8.ofNat (48 + m % 10)] : List UInt8).toArray⟩ from rfl, ba_app]
        conv => rhs; rw [Go.Lib.decDigits, dif_neg h]
theorem spec_l1Num.ev (n : Int) (h0 : -1000000000 ≤ n) (h1 : n ≤ 1000000000) : Ev (fun k => spec_l1Num.f k n) ⟨(Go.Lib.itoa n).toArray⟩ := by
  by_cases h : n < 0
  · refine Ev.step (fun k => by rw [spec_l1Num.f]) ?_
    refine ev_pos h ?_
    have hw : wrap64 (-n) = ((n.natAbs : Nat) : Int) := by rw [w64 (by omega) (by omega)]; omega
    simp only [hw]
    refine Ev.bind (num_nat n.natAbs (by omega)) ?_
    have hl := dec_len n.natAbs
    refine ev_pos ?_ ?_
    · rw [ba_size]
      omega
    · refine ev_some ?_
      rw [show (⟨#[45]⟩ : ByteArray) = ⟨([45] : List UInt8).toArray⟩ from rfl, ba_app, Go.Lib.itoa, if_pos h]
      rfl
  · obtain ⟨m, rfl⟩ : ∃ m : Nat, n = m := ⟨n.toNat, by omega⟩
    rw [Go.Lib.itoa, if_neg h]
    exact num_nat m (by omega)
theorem strconv_Itoa.at (n : Int) (h0 : -1000000000 ≤ n) (h1 : n ≤ 1000000000) : strconv_Itoa.f n = some ⟨(Go.Lib.itoa n).toArray⟩ := by
  unfold strconv_Itoa.f
  rw [if_pos ⟨by omega, by omega⟩]
/-- Does the byte stand in the text, from place i on? -/
def standsAt (s : ByteArray) (c : UInt8) (i : Nat) : Bool := (s.data.toList.drop i).contains c
theorem bt_eq (s : ByteArray) (i : Nat) (h : i < s.size) : bt s i = (s.data.toList[i]'(by simpa using h)).toNat := by
  unfold bt
  rw [dif_pos (by rw [Int.toNat_natCast]; exact h)]
  simp only [Int.toNat_natCast, Array.getElem_toList]
  rfl
theorem index_has (l : List UInt8) (c : UInt8) : decide (0 ≤ Go.Lib.indexByte l c) = l.contains c := by
  induction l with
  | nil => rfl
  | cons b t ih =>
    unfold Go.Lib.indexByte
    rw [List.contains_cons]
    by_cases h : b = c
    · subst h
      simp
    · rw [if_neg (by simpa using h), show (c == b) = false from by simpa using fun e => h e.symm, Bool.false_or, ← ih]
      by_cases h2 : Go.Lib.indexByte t c == -1
      · rw [if_pos h2]
        have := beq_iff_eq.mp h2
        rw [this]
      · rw [if_neg h2]
        have h3 : Go.Lib.indexByte t c ≠ -1 := by simpa using h2
        have h4 := Go.Lib.indexByte_ge t c
        exact decide_eq_decide.mpr ⟨fun _ => by omega, fun _ => by omega⟩
/-- A piece that is under way, laid ahead of what follows. -/
def glue (p : List UInt8) : List (List UInt8) → List (List UInt8)
  | [] => [p]
  | x :: r => (p ++ x) :: r
/-- The parts of a text between bytes. -/
def parts (c : UInt8) : List UInt8 → List (List UInt8)
  | [] => [[]]
  | b :: t => if b = c then [] :: parts c t else glue [b] (parts c t)
theorem glue_ne (p : List UInt8) (L : List (List UInt8)) : glue p L ≠ [] := by cases L <;> simp [glue]
theorem parts_ne (c : UInt8) (l : List UInt8) : parts c l ≠ [] := by
  cases l with
  | nil => simp [parts]
  | cons b t =>
    unfold parts
    by_cases h : b = c
    · rw [if_pos h]; simp
    · rw [if_neg h]; exact glue_ne _ _
theorem glue_nil {L : List (List UInt8)} (h : L ≠ []) : glue [] L = L := by
  cases L with
  | nil => exact absurd rfl h
  | cons x r => rfl
theorem glue_glue (p : List UInt8) (b : UInt8) {L : List (List UInt8)} (h : L ≠ []) : glue p (glue [b] L) = glue (p ++ [b]) L := by
  cases L with
  | nil => exact absurd rfl h
  | cons x r => simp [glue]
theorem parts_head (c : UInt8) : ∀ l : List UInt8, ∃ r, parts c l = l.takeWhile (· != c) :: r
  | [] => ⟨[], rfl⟩
  | b :: t => by
    obtain ⟨r, hr⟩ := parts_head c t
    unfold parts
    by_cases h : b = c
    · rw [if_pos h]
      exact ⟨parts c t, by rw [List.takeWhile_cons]; simp [h]⟩
    · rw [if_neg h, hr]
      exact ⟨r, by simp [glue, h]⟩
def ba (l : List UInt8) : ByteArray := ⟨l.toArray⟩
theorem ba_data (s : ByteArray) : ba s.data.toList = s := by
  unfold ba
  apply ByteArray.ext
  simp
theorem ba_toList (l : List UInt8) : (ba l).data.toList = l := by simp [ba]
theorem ba_len (l : List UInt8) : (ba l).size = l.length := by simp [ba, ByteArray.size]
theorem extract_ba (s : ByteArray) (a b : Nat) : s.extract a b = ba ((s.data.toList.drop a).take (b - a)) := by
  rw [← Go.Lib.extract_data]
  exact (ba_data _).symm
theorem size_data (s : ByteArray) : s.data.toList.length = s.size := by
  rw [Array.length_toList]
  rfl
theorem index_take (l : List UInt8) (c : UInt8) : (Go.Lib.indexByte l c = -1 ∧ l.takeWhile (· != c) = l ∧ c ∉ l) ∨ ∃ i : Nat, Go.Lib.indexByte l c = i ∧ l.takeWhile (· != c) = l.take i ∧ i < l.length := by
  induction l with
  | nil => exact .inl ⟨rfl, rfl, by simp⟩
  | cons b t ih =>
    unfold Go.Lib.indexByte
    by_cases h : b = c
    · subst h
      exact .inr ⟨0, by simp, by simp, by simp⟩
    · rw [if_neg (by simpa using h)]
      have hb : (b != c) = true := by simpa using h
      rcases ih with ⟨h1, h2, h3⟩ | ⟨i, h1, h2, h3⟩
      · exact .inl ⟨by rw [h1]; rfl, by rw [List.takeWhile_cons, hb, if_pos rfl, h2], by simp [h3]; exact fun e => h e.symm⟩
      · refine .inr ⟨i + 1, ?_, ?_, by simp; omega⟩
        · rw [h1, if_neg (by intro e; have := beq_iff_eq.mp e; omega)]
          rfl
        · rw [List.takeWhile_cons, hb, if_pos rfl, h2, List.take_succ_cons]
theorem cut_fst (l : List UInt8) (c : UInt8) : (Go.Lib.cut l [c]).1 = l.takeWhile (· != c) := by
  unfold Go.Lib.cut
  rw [Go.Lib.index_one]
  rcases index_take l c with ⟨h1, h2, h3⟩ | ⟨i, h1, h2, h3⟩
  · rw [h1, if_neg (by decide), h2]
  · rw [h1, if_pos (by omega), h2]
    simp
theorem rdOf_get {xs : List ByteArray} {i : Int} {n : Nat} (h : i = n) (hn : n < xs.length) : rdOf ByteArray.empty xs i = xs[n] := by
  subst h
  simp [rdOf, List.getD_eq_getElem?_getD, List.getElem?_eq_getElem hn]
def dl (l : List ByteArray) : List (List UInt8) := l.map (·.data.toList)
/-- The parts joined, if no one holds the sign and the whole is not too long. -/
def joinOf (l : List ByteArray) (c : UInt8) : ByteArray × Bool :=
  if (l.all fun x => !x.data.toList.contains c) = true ∧ (Go.Lib.join (dl l) [c]).length ≤ 4000 then (ba (Go.Lib.join (dl l) [c]), true) else (⟨#[]⟩, false)
/-- What is behind a beginning. -/
def joinMore (out : ByteArray) (t : List ByteArray) (c : UInt8) : ByteArray × Bool :=
  if (t.all fun x => !x.data.toList.contains c) = true ∧ out.size + (Go.Lib.joinTail [c] (dl t)).length ≤ 4000 then (ba (out.data.toList ++ Go.Lib.joinTail [c] (dl t)), true) else (⟨#[]⟩, false)
theorem jt_cons (c : UInt8) (x : ByteArray) (t : List ByteArray) : Go.Lib.joinTail [c] (dl (x :: t)) = (c :: x.data.toList) ++ Go.Lib.joinTail [c] (dl t) := by simp [Go.Lib.joinTail, dl]
theorem bt_sign (c : UInt8) : bt ⟨#[c]⟩ 0 = c.toNat := rfl
/-- How long the parts are together. -/
def lenOf (l : List ByteArray) : Nat := (l.map (·.size)).sum
theorem lens_dl (l : List ByteArray) : Go.Lib.lens (dl l) = lenOf l := by
  unfold Go.Lib.lens dl lenOf
  rw [List.map_map]
  rfl
theorem join_len (x : ByteArray) (t : List ByteArray) (c : UInt8) : (Go.Lib.join (dl (x :: t)) [c]).length = t.length + lenOf (x :: t) := by
  rw [show dl (x :: t) = x.data.toList :: dl t from rfl, Go.Lib.join_cons, List.length_append, size_data, Go.Lib.joinTail_length, lens_dl]
  simp [dl, lenOf]
  try omega
theorem strings_Join.at' (l : List ByteArray) (c : UInt8) (h1 : l.length ≤ 1048576) (h : (Go.Lib.join (dl l) [c]).length ≤ 4000) : strings_Join.f l ⟨#[c]⟩ = some (ba (Go.Lib.join (dl l) [c])) := by
  unfold strings_Join.f
  have e : (⟨#[c]⟩ : ByteArray).data.toList = [c] := rfl
  rw [e]
  exact if_pos ⟨by omega, Nat.le_trans h (by decide)⟩
open Go.Lib in
theorem decFrom_snoc (b : UInt8) : ∀ (l : List UInt8) (acc : Nat), decFrom acc (l ++ [b]) = (decFrom acc l).bind fun n => (digitVal b).map fun d => n * 10 + d
  | [], acc => by
    simp only [List.nil_append, decFrom, Option.bind_some]
    cases digitVal b <;> rfl
  | a :: t, acc => by
    simp only [List.cons_append, decFrom]
    cases digitVal a with
    | none => rfl
    | some d => exact decFrom_snoc b t _
theorem digit_of (d : Nat) (h : d < 10) : Go.Lib.digitVal (UInt8.ofNat (48 + d)) = some d := by
  have : ∀ q : Fin 10, Go.Lib.digitVal (UInt8.ofNat (48 + q.1)) = some q.1 := by decide +kernel
  exact this ⟨d, h⟩
theorem dec_val (m : Nat) : Go.Lib.decFrom 0 (Go.Lib.decDigits m) = some m := by
  induction m using Nat.strongRecOn with
  | _ m ih =>
    unfold Go.Lib.decDigits
    by_cases h : m < 10
    · rw [dif_pos h]
      simp only [Go.Lib.decFrom, digit_of m h]
      simp
    · rw [dif_neg h, decFrom_snoc, ih (m / 10) (by omega), digit_of (m % 10) (by omega)]
      simp
      omega
theorem dec_ne (m : Nat) : Go.Lib.decDigits m ≠ [] := by
  unfold Go.Lib.decDigits
  by_cases h : m < 10
  · rw [dif_pos h]; simp
  · rw [dif_neg h]; simp
theorem dec_len6 : ∀ (k m : Nat), m < 10 ^ (k + 1) → (Go.Lib.decDigits m).length ≤ k + 1
  | 0, m, h => by
    unfold Go.Lib.decDigits
    rw [dif_pos (by omega)]
    simp
  | k + 1, m, h => by
    unfold Go.Lib.decDigits
    by_cases h2 : m < 10
    · rw [dif_pos h2]; simp
    · rw [dif_neg h2, List.length_append]
      have := dec_len6 k (m / 10) (by rw [Nat.pow_succ] at h; omega)
      simp
      omega
theorem dec_head (m : Nat) : ∃ b r, Go.Lib.decDigits m = b :: r ∧ b ≠ 45 ∧ b ≠ 43 := by
  cases h : Go.Lib.decDigits m with
  | nil => exact absurd h (dec_ne m)
  | cons b r =>
    refine ⟨b, r, rfl, ?_⟩
    have hv := dec_val m
    rw [h] at hv
    obtain ⟨d, hd⟩ := Go.Lib.digit_of_decFrom _ _ _ hv 0 b rfl
    have := Go.Lib.digitVal_eq hd
    exact ⟨by rintro rfl; have := this.1; revert this; decide, by rintro rfl; have := this.1; revert this; decide⟩
theorem decNat_dec (m : Nat) : Go.Lib.decNat (Go.Lib.decDigits m) = some m := by
  unfold Go.Lib.decNat
  rw [if_neg (by simpa using dec_ne m), dec_val]
theorem atoi_itoa (n : Int) : Go.Lib.atoi (Go.Lib.itoa n) = some n := by
  unfold Go.Lib.itoa
  by_cases h : n < 0
  · rw [if_pos h]
    simp only [Go.Lib.atoi]
    rw [if_pos (by rfl), decNat_dec]
    simp only [Option.map_some]
    congr 1
    omega
  · rw [if_neg h]
    obtain ⟨b, r, e, h1, h2⟩ := dec_head n.toNat
    rw [e]
    simp only [Go.Lib.atoi]
    rw [if_neg (by simpa using h1), if_neg (by simpa using h2), ← e, decNat_dec]
    simp only [Option.map_some]
    congr 1
    omega
/-- The number that this text spells, as both sides take it. -/
def Spells (n : Int) (l : List UInt8) : Prop := (-999999 ≤ n ∧ n ≤ 999999) ∧ Go.Lib.itoa n = l
def readOn (l t : List UInt8) : Int × Bool :=
  if 1 ≤ t.length ∧ t.length ≤ 6 then
    match Go.Lib.decFrom 0 t with
    | none => (0, false)
    | some v => if Go.Lib.itoa (if t.length < l.length then -(v : Int) else v) = l then ((if t.length < l.length then -(v : Int) else v), true) else (0, false)
  else (0, false)
def readL (l : List UInt8) : Int × Bool := readOn l (if 1 < l.length ∧ l.head? = some 45 then l.tail else l)
theorem readL_spells {n : Int} {l : List UInt8} (h : Spells n l) : readL l = (n, true) := by
  obtain ⟨⟨h0, h1⟩, rfl⟩ := h
  have hd := dec_ne n.natAbs
  have hd2 := dec_ne n.toNat
  unfold readL readOn
  by_cases hn : n < 0
  · have e : Go.Lib.itoa n = 45 :: Go.Lib.decDigits n.natAbs := by unfold Go.Lib.itoa; rw [if_pos hn]
    have hl := dec_len6 5 n.natAbs (by omega)
    have hp : 0 < (Go.Lib.decDigits n.natAbs).length := List.length_pos_iff.mpr hd
    have c : 1 < (Go.Lib.itoa n).length ∧ (Go.Lib.itoa n).head? = some 45 := by rw [e]; simp; omega
    rw [if_pos c, show (Go.Lib.itoa n).tail = Go.Lib.decDigits n.natAbs from by rw [e]; rfl, if_pos ⟨by omega, by omega⟩, dec_val]
    have hlt : (Go.Lib.decDigits n.natAbs).length < (Go.Lib.itoa n).length := by rw [e]; simp
    simp only [if_pos hlt]
    rw [show -((n.natAbs : Nat) : Int) = n by omega, if_pos rfl]
  · have e : Go.Lib.itoa n = Go.Lib.decDigits n.toNat := by unfold Go.Lib.itoa; rw [if_neg hn]
    have hl := dec_len6 5 n.toNat (by omega)
    have hp : 0 < (Go.Lib.decDigits n.toNat).length := List.length_pos_iff.mpr hd2
    obtain ⟨b, r, eb, hb, _⟩ := dec_head n.toNat
    have c : ¬ (1 < (Go.Lib.itoa n).length ∧ (Go.Lib.itoa n).head? = some 45) := by
      rw [e, eb]
      simp [hb]
    rw [if_neg c, if_pos ⟨by rw [e]; omega, by rw [e]; omega⟩]
    rw [show Go.Lib.decFrom 0 (Go.Lib.itoa n) = some n.toNat by rw [e, dec_val]]
    simp only [Nat.lt_irrefl, if_false]
    rw [show ((n.toNat : Nat) : Int) = n by omega, if_pos rfl]
theorem readOn_cases (l t : List UInt8) : readOn l t = (0, false) ∨ ∃ n, readOn l t = (n, true) ∧ Spells n l := by
  unfold readOn
  by_cases c : 1 ≤ t.length ∧ t.length ≤ 6
  · rw [if_pos c]
    cases hv : Go.Lib.decFrom 0 t with
    | none => exact .inl rfl
    | some v =>
      have hlt := Go.Lib.decFrom_lt _ _ _ hv
      have h6 : 10 ^ t.length ≤ 10 ^ 6 := Nat.pow_le_pow_right (by decide) c.2
      have hv6 : v < 1000000 := by omega
      simp only
      by_cases e : Go.Lib.itoa (if t.length < l.length then -(v : Int) else v) = l
      · rw [if_pos e]
        refine .inr ⟨_, rfl, ⟨?_, e⟩⟩
        by_cases q : t.length < l.length
        · rw [if_pos q]; omega
        · rw [if_neg q]; omega
      · rw [if_neg e]
        exact .inl rfl
  · rw [if_neg c]
    exact .inl rfl
theorem readL_cases (l : List UInt8) : readL l = (0, false) ∨ ∃ n, readL l = (n, true) ∧ Spells n l := readOn_cases l _
def kindOf (g : Bool) : List UInt8 := if g = true then [114, 105, 110, 103, 32] else [108, 105, 110, 101, 32]
def wordOf (x : Int) : ByteArray := ba (Go.Lib.itoa x)
/-- The text of a walk, as a list of bytes. -/
def textL (n : Int) (g : Bool) (w : List Int) : List UInt8 := ((kindOf g ++ Go.Lib.itoa n) ++ [32]) ++ Go.Lib.join (dl (w.map wordOf)) [44]
theorem kind_len (g : Bool) : (kindOf g).length = 5 := by cases g <;> rfl
theorem itoa_short {x : Int} (h0 : 0 ≤ x) (h1 : x ≤ 24) : (Go.Lib.itoa x).length ≤ 25 := by
  unfold Go.Lib.itoa
  rw [if_neg (by omega)]
  have := dec_len x.toNat
  omega
theorem ba_append (a b : List UInt8) : ba a ++ ba b = ba (a ++ b) := ba_app a b
theorem num_word (x : Int) (h0 : 0 ≤ x) (h1 : x ≤ 24) : Ev (fun k => spec_l1Num.f k x) (wordOf x) := spec_l1Num.ev x (by omega) (by omega)
theorem itoa_word (x : Int) (h0 : 0 ≤ x) (h1 : x ≤ 24) : strconv_Itoa.f x = some (wordOf x) := strconv_Itoa.at x (by omega) (by omega)
theorem word_size {x : Int} (h0 : 0 ≤ x) (h1 : x ≤ 24) : (wordOf x).size ≤ 25 := by
  unfold wordOf
  rw [ba_len]
  exact itoa_short h0 h1
theorem textLoop_ev (w : List Int) (hw : w.length ≤ 61) (hb : ∀ x ∈ w, 0 ≤ x ∧ x ≤ 24) : ∀ (d i : Nat) (s : List UInt8), i + d = w.length → 0 < i → s.length ≤ 1000 + 100 * i →
    Ev (fun k => spec_l2Text.l0 k w (ba s) i) (ba (s ++ Go.Lib.joinTail [44] (dl ((w.drop i).map wordOf)))) := by
  intro d
  induction d with
  | zero =>
    intro i s e hp hs
    refine Ev.step (fun k => by rw [spec_l2Text.l0]) ?_
    refine ev_neg (by omega) (ev_some ?_)
    rw [List.drop_eq_nil_of_le (by omega)]
    simp [Go.Lib.joinTail, dl]
  | succ d ih =>
    intro i s e hp hs
    have hi : i < w.length := by omega
    obtain ⟨b0, b1⟩ := hb w[i] (List.getElem_mem hi)
    have hz := word_size b0 b1
    refine Ev.step (fun k => by rw [spec_l2Text.l0]) ?_
    refine ev_pos (by omega) ?_
    refine ev_pos (by omega) ?_
    have hsz : (ba s).size = s.length := ba_len s
    refine ev_pos (by omega) ?_
    refine ev_pos (by omega) ?_
    rw [rd_get rfl hi]
    refine Ev.bind (num_word w[i] b0 b1) ?_
    have e1 : ba s ++ (⟨#[44]⟩ : ByteArray) = ba (s ++ [44]) := ba_append s [44]
    rw [e1]
    refine ev_pos (by rw [ba_len]; simp; omega) ?_
    have e2 : ba (s ++ [44]) ++ wordOf w[i] = ba ((s ++ [44]) ++ Go.Lib.itoa w[i]) := ba_append _ _
    rw [e2, w64 (x := (i : Int) + 1) (by omega) (by omega)]
    have hh := ih (i + 1) ((s ++ [44]) ++ Go.Lib.itoa w[i]) (by omega) (by omega) (by have := itoa_short b0 b1; simp; omega)
    rw [List.drop_eq_getElem_cons hi, List.map_cons, jt_cons]
    have e3 : (s ++ [44] ++ Go.Lib.itoa w[i]) ++ Go.Lib.joinTail [44] (dl ((w.drop (i + 1)).map wordOf)) = s ++ (44 :: (wordOf w[i]).data.toList ++ Go.Lib.joinTail [44] (dl ((w.drop (i + 1)).map wordOf))) := by
      rw [wordOf, ba_toList]
      simp
    rw [← e3]
    exact hh
theorem text_more (n : Int) (g : Bool) (w : List Int) (hn : 0 ≤ n ∧ n ≤ 24) (hw : 1 ≤ w.length ∧ w.length ≤ 61) (hb : ∀ x ∈ w, 0 ≤ x ∧ x ≤ 24) : Ev (fun k => spec_l2Text.j0 k w (ba (kindOf g)) n g) (ba (textL n g w)) := by
  refine Ev.step (fun k => by rw [spec_l2Text.j0]) ?_
  refine Ev.bind (num_word n hn.1 hn.2) ?_
  have hk := kind_len g
  have hz := itoa_short hn.1 hn.2
  have e1 : ba (kindOf g) ++ wordOf n = ba (kindOf g ++ Go.Lib.itoa n) := ba_append _ _
  have e2 : ba (kindOf g ++ Go.Lib.itoa n) ++ (⟨#[32]⟩ : ByteArray) = ba ((kindOf g ++ Go.Lib.itoa n) ++ [32]) := ba_append _ [32]
  have hzw := word_size hn.1 hn.2
  refine ev_pos (by rw [ba_len]; omega) ?_
  rw [e1]
  refine ev_pos (by rw [ba_len]; simp; omega) ?_
  rw [e2]
  unfold textL
  cases w with
  | nil => simp at hw
  | cons x t =>
    obtain ⟨b0, b1⟩ := hb x (by simp)
    have hx := itoa_short b0 b1
    have hxw := word_size b0 b1
    refine Ev.step (fun k => by rw [spec_l2Text.l0]) ?_
    refine ev_pos (by rw [List.length_cons]; omega) ?_
    refine ev_neg (by omega) ?_
    refine ev_pos (by omega) ?_
    rw [show rd (x :: t) 0 = x from rfl]
    refine Ev.bind (num_word x b0 b1) ?_
    refine ev_pos (by rw [ba_len]; simp; omega) ?_
    have e3 : ba ((kindOf g ++ Go.Lib.itoa n) ++ [32]) ++ wordOf x = ba (((kindOf g ++ Go.Lib.itoa n) ++ [32]) ++ Go.Lib.itoa x) := ba_append _ _
    rw [e3, show wrap64 ((0 : Int) + 1) = ((1 : Nat) : Int) from by rw [w64 (by omega) (by omega)]; rfl]
    have hh := textLoop_ev (x :: t) hw.2 hb t.length 1 (((kindOf g ++ Go.Lib.itoa n) ++ [32]) ++ Go.Lib.itoa x) (by simp; omega) (by omega) (by simp; omega)
    have e4 : Go.Lib.join (dl ((x :: t).map wordOf)) [44] = Go.Lib.itoa x ++ Go.Lib.joinTail [44] (dl (t.map wordOf)) := by
      rw [List.map_cons, show dl (wordOf x :: t.map wordOf) = (wordOf x).data.toList :: dl (t.map wordOf) from rfl, Go.Lib.join_cons, wordOf, ba_toList]
    rw [e4, ← List.append_assoc]
    exact hh
theorem spec_l2Text.ev (n : Int) (g : Bool) (w : List Int) (hn : 0 ≤ n ∧ n ≤ 24) (hw : 1 ≤ w.length ∧ w.length ≤ 61) (hb : ∀ x ∈ w, 0 ≤ x ∧ x ≤ 24) : Ev (fun k => spec_l2Text.f k n g w) (ba (textL n g w)) := by
  unfold spec_l2Text.f
  cases g with
  | true => exact ev_pos rfl (text_more n true w hn hw hb)
  | false => exact ev_neg (by simp) (text_more n false w hn hw hb)
theorem words_len (w : List Int) (hb : ∀ x ∈ w, 0 ≤ x ∧ x ≤ 24) : lenOf (w.map wordOf) ≤ 25 * w.length := by
  induction w with
  | nil => simp [lenOf]
  | cons x t ih =>
    obtain ⟨b0, b1⟩ := hb x (by simp)
    have hz := word_size b0 b1
    have := ih (fun y hy => hb y (by simp [hy]))
    simp [lenOf] at this ⊢
    omega
theorem join_words (w : List Int) (hw : 1 ≤ w.length ∧ w.length ≤ 61) (hb : ∀ x ∈ w, 0 ≤ x ∧ x ≤ 24) : strings_Join.f (w.map wordOf) ⟨#[44]⟩ = some (ba (Go.Lib.join (dl (w.map wordOf)) [44])) ∧ (Go.Lib.join (dl (w.map wordOf)) [44]).length ≤ 2000 := by
  have hl := words_len w hb
  cases w with
  | nil => simp at hw
  | cons x t =>
    have hj := join_len (wordOf x) (t.map wordOf) 44
    rw [← List.map_cons] at hj
    rw [List.length_map] at hj
    simp only [List.length_cons] at hw hl
    exact ⟨strings_Join.at' _ 44 (by rw [List.length_map, List.length_cons]; omega) (by omega), by omega⟩
theorem decLoop_ev (w : List Int) (hw : 1 ≤ w.length ∧ w.length ≤ 61) (hb : ∀ x ∈ w, 0 ≤ x ∧ x ≤ 24) : ∀ (d i : Nat), i + d = w.length →
    Ev (fun k => impl_decimals.l0 k ⟨#[44]⟩ ((w.take i).map wordOf) w (w.length : Int) i) (ba (Go.Lib.join (dl (w.map wordOf)) [44])) := by
  intro d
  induction d with
  | zero =>
    intro i e
    refine Ev.step (fun k => by rw [impl_decimals.l0]) ?_
    refine ev_neg (by omega) ?_
    rw [List.take_of_length_le (by omega)]
    refine Ev.bind (ev_const (join_words w hw hb).1) ?_
    exact ev_some rfl
  | succ d ih =>
    intro i e
    have hi : i < w.length := by omega
    obtain ⟨b0, b1⟩ := hb w[i] (List.getElem_mem hi)
    refine Ev.step (fun k => by rw [impl_decimals.l0]) ?_
    refine ev_pos (by omega) ?_
    refine ev_pos (by omega) ?_
    refine ev_pos (by omega) ?_
    rw [rd_get rfl hi]
    refine Ev.bind (ev_const (itoa_word w[i] b0 b1)) ?_
    refine ev_pos (by simp; omega) ?_
    rw [w64 (x := (i : Int) + 1) (by omega) (by omega)]
    have hh := ih (i + 1) (by omega)
    rw [List.take_succ_eq_append_getElem hi, List.map_append, List.map_cons, List.map_nil] at hh
    exact hh
theorem impl_decimals.ev (w : List Int) (hw : 1 ≤ w.length ∧ w.length ≤ 61) (hb : ∀ x ∈ w, 0 ≤ x ∧ x ≤ 24) : Ev (fun k => impl_decimals.f k w ⟨#[44]⟩) (ba (Go.Lib.join (dl (w.map wordOf)) [44])) := by
  unfold impl_decimals.f
  exact decLoop_ev w hw hb w.length 0 (by omega)
theorem impl_walkText.ev (n : Int) (g : Bool) (w : List Int) (hn : 0 ≤ n ∧ n ≤ 24) (hw : 1 ≤ w.length ∧ w.length ≤ 61) (hb : ∀ x ∈ w, 0 ≤ x ∧ x ≤ 24) : Ev (fun k => impl_walkText.f k n g w) (ba (textL n g w)) := by
  have hz := word_size hn.1 hn.2
  have hi := itoa_short hn.1 hn.2
  have hj := (join_words w hw hb).2
  unfold impl_walkText.f textL
  cases g with
  | true =>
    have e0 : (⟨#[114, 105, 110, 103]⟩ : ByteArray) ++ (⟨#[32]⟩ : ByteArray) = ba (kindOf true) := ba_append [114, 105, 110, 103] [32]
    have e1 : ba (kindOf true) ++ wordOf n = ba (kindOf true ++ Go.Lib.itoa n) := ba_append _ _
    have e2 : ba (kindOf true ++ Go.Lib.itoa n) ++ (⟨#[32]⟩ : ByteArray) = ba ((kindOf true ++ Go.Lib.itoa n) ++ [32]) := ba_append _ [32]
    have hk := kind_len true
    refine ev_pos rfl ?_
    refine ev_pos (by decide) ?_
    refine Ev.bind (ev_const (itoa_word n hn.1 hn.2)) ?_
    rw [e0, e1, e2]
    refine ev_pos (by omega) ?_
    refine ev_pos (by rw [ba_len]; simp; omega) ?_
    refine Ev.bind (impl_decimals.ev w hw hb) ?_
    refine ev_pos (by rw [ba_len, ba_len]; simp; omega) ?_
    exact ev_some (ba_append _ _)
  | false =>
    have e0 : (⟨#[108, 105, 110, 101]⟩ : ByteArray) ++ (⟨#[32]⟩ : ByteArray) = ba (kindOf false) := ba_append [108, 105, 110, 101] [32]
    have e1 : ba (kindOf false) ++ wordOf n = ba (kindOf false ++ Go.Lib.itoa n) := ba_append _ _
    have e2 : ba (kindOf false ++ Go.Lib.itoa n) ++ (⟨#[32]⟩ : ByteArray) = ba ((kindOf false ++ Go.Lib.itoa n) ++ [32]) := ba_append _ [32]
    have hk := kind_len false
    refine ev_neg (by simp) ?_
    refine ev_pos (by decide) ?_
    refine Ev.bind (ev_const (itoa_word n hn.1 hn.2)) ?_
    rw [e0, e1, e2]
    refine ev_pos (by omega) ?_
    refine ev_pos (by rw [ba_len]; simp; omega) ?_
    refine Ev.bind (impl_decimals.ev w hw hb) ?_
    refine ev_pos (by rw [ba_len, ba_len]; simp; omega) ?_
    exact ev_some (ba_append _ _)
theorem walk_bounds {n : Int} {g : Bool} {w : List Int} (h : okWalk n g w = true) : (0 ≤ n ∧ n ≤ 24) ∧ (1 ≤ w.length ∧ w.length ≤ 61) ∧ ∀ x ∈ w, 0 ≤ x ∧ x ≤ 24 := by
  obtain ⟨h1, h2, h3, h4, _⟩ := okWalk_b h
  obtain ⟨r1, r2, _⟩ := okRoad_b h1
  exact ⟨⟨by omega, r2⟩, ⟨h2, h3⟩, fun x hx => by have := h4 x hx; omega⟩
theorem both (n : Int) (g : Bool) (w : List Int) (hl : w.length ≤ 1048576) : ∃ r, Ev (fun k => spec_WalkText.f k n g w) r ∧ Ev (fun k => impl_WalkText.f k n g w) r := by
  unfold spec_WalkText.f impl_WalkText.f
  by_cases h : okWalk n g w = true
  · obtain ⟨hn, hw, hb⟩ := walk_bounds h
    exact ⟨_, Ev.bind (spec_l2Walk.ev n g w (by omega)) (ev_pos h (Ev.bind (spec_l2Text.ev n g w hn hw hb) (ev_some rfl))), Ev.bind (impl_areWalks.ev1 n g w (by omega)) (ev_pos h (Ev.bind (impl_walkText.ev n g w hn hw hb) (ev_some rfl)))⟩
  · exact ⟨_, Ev.bind (spec_l2Walk.ev n g w (by omega)) (ev_neg h (ev_some rfl)), Ev.bind (impl_areWalks.ev1 n g w (by omega)) (ev_neg h (ev_some rfl))⟩
theorem FnExactWalkText (n : Int) (g : Bool) (w : List Int) (_ : -9223372036854775808 ≤ n) (_ : n ≤ 9223372036854775807) (_ : w.length * 8 ≤ 140737488351232) (_ : ∀ x ∈ w, (Lit.int .i64 x).wf = true) : ∃ k, laws_FnExactWalkText.f k n g w = some true := by
  refine Ev.rounds (r := true) ?_
  unfold laws_FnExactWalkText.f
  by_cases hl0 : (w.length : Int) > 1048576
  · exact ev_pos hl0 (ev_some rfl)
  refine ev_neg hl0 ?_
  obtain ⟨r, hs, hi⟩ := both n g w (by omega)
  simp only [laws_toRoad.at, Option.bind_some]
  repeat' (first
    | with_reducible exact ev_some rfl
    | with_reducible refine Ev.bind hs ?_
    | with_reducible refine Ev.bind hi ?_
    | with_reducible refine Ev.bind (ev_const (laws_toRoad.at _ _)) ?_
    | ((with_reducible refine Ev.bind (laws_toIntS.ev _ ?h1_) ?_); (case h1_ => (first | omega | (simp only []; omega))))
    | ((with_reducible refine Ev.bind (laws_eqIntS.ev _ _ ?h1_) ?_); (case h1_ => (first | omega | (simp only []; omega))))
    | ((with_reducible refine ev_pos ?h1_ ?_); (case h1_ => (first | rfl | assumption | (simp; done))))
    | ((with_reducible refine ev_neg ?h1_ ?_); (case h1_ => (first | assumption | (simp; done) | (first | omega | (simp only []; omega)) | (simp; omega))))
    | (with_reducible refine Ev.step (g := fun k => laws_FnExactWalkText.j0 k _ _ _) (fun k => by rw [laws_FnExactWalkText.j0]) ?_)
    )

end Go.Proofs.YtjihgbfhgfmknaaDoor.Pure
