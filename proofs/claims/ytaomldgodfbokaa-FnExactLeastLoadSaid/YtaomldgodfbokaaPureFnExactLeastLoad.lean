/- The plain side of the law FnExactLeastLoad: the printed law, whatever its input (within the form's bounds), comes to true. No other condition. -/
import Derived.Test.YtaomldgodfbokaaPFnExactLeastLoadx5
import Derived.Test.YtaomldgodfbokaaBase
import Derived.Test.YtaomldgodfbokaaMath
namespace Go.Proofs.Ytaomldgodfbokaa.Pure
open Go.RowKit Go.Proofs.Ytaomldgodfbokaa.PFnExactLeastLoad Go.Proofs.YtaomldgodfbokaaW.PrintWords Go.Proofs.YtaomldgodfbokaaW.PrintLast Go.Proofs.YtaomldgodfbokaaW.PrintMore Go.Proofs.Ytaomldgodfbokaa.Base Go.Proofs.Ytaomldgodfbokaa.M
set_option linter.unusedVariables false
set_option linter.unusedSimpArgs false

theorem laws_toIntS.ev (l : List Int) (hl : l.length ≤ 35184372088832) : Ev (fun k => laws_toIntS.f k l) l := by
  have main : ∀ (d i : Nat) (x : List Int), i + d = l.length → x.length = l.length → (∀ j, j < i → x[j]? = l[j]?) →
      Ev (fun k => laws_toIntS.l0 k l x i) l := by
    intro d
    induction d with
    | zero =>
      intro i x e hx hj
      refine Ev.step (fun k => by rw [laws_toIntS.l0]) ?_
      refine ev_neg (by omega) ?_
      refine ev_some (List.ext_getElem? fun j => ?_)
      by_cases h : j < l.length
      · exact hj j (by omega)
      · rw [List.getElem?_eq_none (by omega), List.getElem?_eq_none (by omega)]
    | succ d ih =>
      intro i x e hx hj
      refine Ev.step (fun k => by rw [laws_toIntS.l0]) ?_
      refine ev_pos (by omega) ?_
      refine ev_pos (by omega) ?_
      refine ev_pos (by omega) ?_
      rw [w64 (x := (i : Int) + 1) (by omega) (by omega)]
      refine ih (i + 1) _ (by omega) (by simpa using hx) (fun j hj' => ?_)
      rw [Int.toNat_natCast, rd_get rfl (by omega)]
      by_cases h : j = i
      · subst h
        rw [List.getElem?_set_self (by omega), List.getElem?_eq_getElem (by omega)]
      · rw [List.getElem?_set_ne (by omega)]
        exact hj j (by omega)
  unfold laws_toIntS.f
  refine ev_pos (by omega) ?_
  refine ev_pos (by omega) ?_
  exact main l.length 0 _ (by omega) (by simp) (fun j hj => by omega)
theorem laws_eqIntS.ev (a b : List Int) (hl : a.length ≤ 35184372088832) : Ev (fun k => laws_eqIntS.f k a b) (decide (a = b)) := by
  have main : ∀ (d i : Nat), i + d = a.length → a.length = b.length → Ev (fun k => laws_eqIntS.l0 k a b i) (decide (a.drop i = b.drop i)) := by
    intro d
    induction d with
    | zero =>
      intro i e he
      refine Ev.step (fun k => by rw [laws_eqIntS.l0]) ?_
      refine ev_neg (by omega) ?_
      refine ev_some ?_
      rw [List.drop_eq_nil_of_le (by omega), List.drop_eq_nil_of_le (by omega)]
      rfl
    | succ d ih =>
      intro i e he
      refine Ev.step (fun k => by rw [laws_eqIntS.l0]) ?_
      refine ev_pos (by omega) ?_
      refine ev_pos (by omega) ?_
      refine ev_pos (by omega) ?_
      rw [w64 (x := (i : Int) + 1) (by omega) (by omega), rd_get rfl (by omega), rd_get rfl (by omega), List.drop_eq_getElem_cons (by omega), List.drop_eq_getElem_cons (l := b) (by omega)]
      by_cases h : a[i] = b[i]
      · refine ev_pos h ?_
        rw [show decide (a[i] :: a.drop (i + 1) = b[i] :: b.drop (i + 1)) = decide (a.drop (i + 1) = b.drop (i + 1)) from decide_eq_decide.2 ⟨fun e => (List.cons.inj e).2, fun e => by rw [h, e]⟩]
        exact ih (i + 1) (by omega) he
      · refine ev_neg h (ev_some ?_)
        exact (decide_eq_false fun e => h (List.cons.inj e).1).symm
  unfold laws_eqIntS.f
  by_cases h : a.length = b.length
  · refine ev_pos (by omega) ?_
    exact main a.length 0 (by omega) h
  · refine ev_neg (by omega) (ev_some ?_)
    symm
    rw [decide_eq_false_iff_not]
    exact fun e => h (by rw [e])
theorem spec_l1In.at (a b c : Int) : spec_l1In.f a b c = some (decide (b ≤ a ∧ a ≤ c)) := by
  unfold spec_l1In.f
  by_cases h : a ≥ b
  · rw [if_pos h]
    simp [show b ≤ a from h]
  · rw [if_neg h]
    simp [show ¬ b ≤ a from h]
theorem impl_within.at (a b c : Int) : impl_within.f a b c = some (decide (b ≤ a ∧ a ≤ c)) := by
  unfold impl_within.f
  by_cases h : a ≥ b
  · rw [if_pos h]
    simp [show b ≤ a from h]
  · rw [if_neg h]
    simp [show ¬ b ≤ a from h]
theorem spec_l2Road.at (n : Int) (g : Bool) : spec_l2Road.f n g = some (okRoad n g) := by
  unfold spec_l2Road.f okRoad
  rw [spec_l1In.at]
  simp only [Option.bind_some]
  by_cases h : 2 ≤ n ∧ n ≤ 24
  · rw [if_pos (by simpa using h)]
    cases g with
    | false => simp [h]
    | true =>
      simp only [if_true, h, true_and, Option.some.injEq]
      exact decide_eq_decide.2 (by simp; omega)
  · rw [if_neg (by simpa using h)]
    simp only [Option.some.injEq]
    exact (decide_eq_false (fun h' => h ⟨h'.1, h'.2.1⟩)).symm
theorem impl_IsRoad.at (n : Int) (g : Bool) : impl_IsRoad.f n g = some (okRoad n g) := by
  unfold impl_IsRoad.f okRoad
  rw [impl_within.at]
  simp only [Option.bind_some]
  by_cases h : 2 ≤ n ∧ n ≤ 24
  · rw [if_pos (by simpa using h)]
    cases g with
    | false => simp [h]
    | true =>
      simp only [if_true, h, true_and, Option.some.injEq]
      exact decide_eq_decide.2 (by simp)
  · rw [if_neg (by simpa using h)]
    simp only [Option.some.injEq]
    exact (decide_eq_false (fun h' => h ⟨h'.1, h'.2.1⟩)).symm
theorem laws_toRoad.at (n : Int) (g : Bool) : laws_toRoad.f n g = some (n, g) := rfl
theorem spec_l1Most.at (a b : Int) : spec_l1Most.f a b = some (max a b) := by
  unfold spec_l1Most.f
  by_cases h : a > b
  · rw [if_pos h, Int.max_eq_left (by omega)]
  · rw [if_neg h, Int.max_eq_right (by omega)]
theorem impl_allWithin.ev (l : List Int) (lo hi : Int) (hl : l.length ≤ 35184372088832) : Ev (fun k => impl_allWithin.f k l lo hi) (l.all fun x => decide (lo ≤ x ∧ x ≤ hi)) := by
  have main : ∀ (d i : Nat), i + d = l.length → Ev (fun k => impl_allWithin.l0 k lo hi l l.length i) ((l.drop i).all fun x => decide (lo ≤ x ∧ x ≤ hi)) := by
    intro d
    induction d with
    | zero =>
      intro i e
      refine Ev.step (fun k => by rw [impl_allWithin.l0]) ?_
      refine ev_neg (by omega) (ev_some ?_)
      rw [List.drop_eq_nil_of_le (by omega)]
      rfl
    | succ d ih =>
      intro i e
      refine Ev.step (fun k => by rw [impl_allWithin.l0]) ?_
      refine ev_pos (by omega) ?_
      refine ev_pos (by omega) ?_
      refine ev_pos (by omega) ?_
      rw [w64 (x := (i : Int) + 1) (by omega) (by omega), rd_get rfl (by omega), List.drop_eq_getElem_cons (by omega), List.all_cons, impl_within.at]
      simp only [Option.bind_some]
      by_cases h : lo ≤ l[i] ∧ l[i] ≤ hi
      · refine ev_pos (by simpa using h) ?_
        rw [decide_eq_true h, Bool.true_and]
        exact ih (i + 1) (by omega)
      · refine ev_neg (by simpa using h) (ev_some ?_)
        rw [decide_eq_false h, Bool.false_and]
  unfold impl_allWithin.f
  exact main l.length 0 (by omega)
theorem impl_Road_has.ev {n : Int} (g : Bool) (l : List Int) (hn : 2 ≤ n ∧ n ≤ 24) (hl : l.length ≤ 35184372088832) : Ev (fun k => impl_Road_has.f k n g l) (l.all fun x => decide (0 ≤ x ∧ x ≤ n - 1)) := by
  unfold impl_Road_has.f
  rw [w64 (x := n - 1) (by omega) (by omega)]
  exact Ev.bind (impl_allWithin.ev l 0 (n - 1) hl) (ev_some rfl)
theorem spec_l3Line.at (n : Int) (g : Bool) (a : Int) : spec_l3Line.f n g a = some (okStart n g a) := by
  unfold spec_l3Line.f okStart
  rw [spec_l2Road.at]
  simp only [Option.bind_some]
  by_cases h : okRoad n g = true
  · have hb := okRoad_b h
    rw [if_pos h, h]
    cases g with
    | false => rw [if_neg (by simp), w64 (by omega) (by omega), spec_l1In.at]; rfl
    | true => rfl
  · rw [if_neg h]
    rw [Bool.not_eq_true] at h
    rw [h]
    rfl
theorem impl_isStart.ev (n : Int) (g : Bool) (a : Int) : Ev (fun k => impl_isStart.f k n g a) (okStart n g a) := by
  unfold impl_isStart.f okStart
  rw [impl_IsRoad.at]
  simp only [Option.bind_some]
  by_cases h : okRoad n g = true
  · have hb := okRoad_b h
    refine ev_pos h ?_
    rw [h]
    cases g with
    | false =>
      refine ev_neg (by simp) ?_
      refine Ev.bind (impl_Road_has.ev false [a] ⟨hb.1, hb.2.1⟩ (by simp)) (ev_some ?_)
      simp
    | true => exact ev_pos rfl (ev_some rfl)
  · refine ev_neg h (ev_some ?_)
    rw [Bool.not_eq_true] at h
    rw [h]
    rfl
theorem spec_l3Hefts.ev (n : Int) (g : Bool) (l : List Int) (hl : l.length ≤ 35184372088832) : Ev (fun k => spec_l3Hefts.f k n g l) (decide ((l.length : Int) = n) && l.all fun x => decide (0 ≤ x ∧ x ≤ 99)) := by
  have main : ∀ (d i : Nat), i + d = l.length → Ev (fun k => spec_l3Hefts.l0 k l i n g) (decide ((l.length : Int) = n) && (l.drop i).all fun x => decide (0 ≤ x ∧ x ≤ 99)) := by
    intro d
    induction d with
    | zero =>
      intro i e
      refine Ev.step (fun k => by rw [spec_l3Hefts.l0]) (ev_neg (by omega) (ev_some ?_))
      rw [List.drop_eq_nil_of_le (by omega), List.all_nil, Bool.and_true]
      rfl
    | succ d ih =>
      intro i e
      refine Ev.step (fun k => by rw [spec_l3Hefts.l0]) (ev_pos (by omega) (ev_pos (by omega) ?_))
      rw [w64 (x := (i : Int) + 1) (by omega) (by omega), rd_get rfl (by omega), List.drop_eq_getElem_cons (by omega), List.all_cons, spec_l1In.at]
      simp only [Option.bind_some]
      by_cases h : 0 ≤ l[i] ∧ l[i] ≤ 99
      · refine ev_pos (by simpa using h) ?_
        rw [decide_eq_true h, Bool.true_and]
        exact ih (i + 1) (by omega)
      · refine ev_neg (by simpa using h) (ev_some ?_)
        rw [decide_eq_false h, Bool.false_and, Bool.and_false]
  unfold spec_l3Hefts.f
  exact main l.length 0 (by omega)
theorem impl_Road_areHefts.ev (n : Int) (g : Bool) (l : List Int) (hl : l.length ≤ 35184372088832) : Ev (fun k => impl_Road_areHefts.f k n g l) (decide ((l.length : Int) = n) && l.all fun x => decide (0 ≤ x ∧ x ≤ 99)) := by
  unfold impl_Road_areHefts.f
  by_cases h : (l.length : Int) = n
  · refine ev_pos h ?_
    rw [decide_eq_true h, Bool.true_and]
    exact Ev.bind (impl_allWithin.ev l 0 99 hl) (ev_some rfl)
  · refine ev_neg h (ev_some ?_)
    rw [decide_eq_false h, Bool.false_and]
theorem both (n : Int) (g : Bool) (a : Int) (l : List Int) (hl : l.length ≤ 1048576) (_ : -9223372036854775808 ≤ a) (_ : a ≤ 9223372036854775807) : ∃ r, Ev (fun k => spec_LeastLoad.f k n g a l) r ∧ Ev (fun k => impl_LeastLoad.f k n g a l) r := by
  unfold spec_LeastLoad.f impl_LeastLoad.f
  have hs := ev_const (spec_l3Line.at n g a)
  have hi := impl_isStart.ev n g a
  have hs2 := spec_l3Hefts.ev n g l (by omega)
  have hi2 := impl_Road_areHefts.ev n g l (by omega)
  by_cases h : okStart n g a = true
  · have hb := okStart_b h
    by_cases hx : (decide ((l.length : Int) = n) && l.all fun x => decide (0 ≤ x ∧ x ≤ 99)) = true
    · rw [hx] at hs2 hi2
      rw [Bool.and_eq_true, decide_eq_true_eq] at hx
      have hc : (2 ≤ n ∧ n ≤ 24) ∧ (0 ≤ a ∧ a ≤ n - 1) ∧ (l.length : Int) = n ∧ ∀ x, x ∈ l → 0 ≤ x ∧ x ≤ 99 := by
        refine ⟨by omega, by omega, hx.1, fun x hm => ?_⟩
        have := List.all_eq_true.1 hx.2 x hm
        simpa using this
      exact ⟨(impl_LeastLoad.L n l a a a, true), Ev.bind hs (ev_pos h (Ev.bind hs2 (ev_pos rfl (ev_pos hc (ev_some rfl))))), Ev.bind hi (ev_pos h (Ev.bind hi2 (ev_pos rfl (ev_pos hc (ev_some rfl)))))⟩
    · rw [Bool.not_eq_true] at hx
      rw [hx] at hs2 hi2
      exact ⟨_, Ev.bind hs (ev_pos h (Ev.bind hs2 (ev_neg (by decide) (ev_some rfl)))), Ev.bind hi (ev_pos h (Ev.bind hi2 (ev_neg (by decide) (ev_some rfl))))⟩
  · exact ⟨_, Ev.bind hs (ev_neg h (ev_some rfl)), Ev.bind hi (ev_neg h (ev_some rfl))⟩
theorem FnExactLeastLoad (n : Int) (g : Bool) (a : Int) (l : List Int) (_ : -9223372036854775808 ≤ n) (_ : n ≤ 9223372036854775807) (h0a : -9223372036854775808 ≤ a) (h1a : a ≤ 9223372036854775807) (_ : l.length * 8 ≤ 140737488351232) (_ : ∀ x ∈ l, (Lit.int .i64 x).wf = true) : ∃ k, laws_FnExactLeastLoad.f k n g a l = some true := by
  refine Ev.rounds (r := true) ?_
  unfold laws_FnExactLeastLoad.f
  by_cases hl0 : (l.length : Int) > 1048576
  · exact ev_pos hl0 (ev_some rfl)
  refine ev_neg hl0 ?_
  obtain ⟨r, hs, hi⟩ := both n g a l (by omega) h0a h1a
  simp only [laws_toRoad.at, Option.bind_some]
  repeat' (first
    | with_reducible exact ev_some rfl
    | with_reducible refine Ev.bind hs ?_
    | with_reducible refine Ev.bind hi ?_
    | with_reducible refine Ev.bind (ev_const (laws_toRoad.at _ _)) ?_
    | ((with_reducible refine Ev.bind (laws_toIntS.ev _ ?h1_) ?_); (case h1_ => (first | omega | (simp only []; omega))))
    | ((with_reducible refine Ev.bind (laws_eqIntS.ev _ _ ?h1_) ?_); (case h1_ => (first | omega | (simp only []; omega))))
    | ((with_reducible refine ev_pos ?h1_ ?_); (case h1_ => (first | rfl | assumption | (simp; done))))
    | ((with_reducible refine ev_neg ?h1_ ?_); (case h1_ => (first | assumption | (simp; done) | (first | omega | (simp only []; omega)) | (simp; omega))))
    | (with_reducible refine Ev.step (g := fun k => laws_FnExactLeastLoad.j0 k _ _ _) (fun k => by rw [laws_FnExactLeastLoad.j0]) ?_)
    )

end Go.Proofs.Ytaomldgodfbokaa.Pure
