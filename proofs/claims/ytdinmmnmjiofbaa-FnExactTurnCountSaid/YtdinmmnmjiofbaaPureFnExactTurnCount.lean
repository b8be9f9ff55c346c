/- The plain side of the law FnExactTurnCount: the printed law, whatever its input (within the form's bounds), comes to true. No other condition. -/
import Derived.Test.YtdinmmnmjiofbaaPFnExactTurnCountx4
import Derived.Test.YtdinmmnmjiofbaaBase
import Derived.Test.YtdinmmnmjiofbaaMath
namespace Go.Proofs.Ytdinmmnmjiofbaa.Pure
open Go.RowKit Go.Proofs.Ytdinmmnmjiofbaa.PFnExactTurnCount Go.Proofs.YtdinmmnmjiofbaaW.PrintWords Go.Proofs.YtdinmmnmjiofbaaW.PrintLast Go.Proofs.YtdinmmnmjiofbaaW.PrintMore Go.Proofs.Ytdinmmnmjiofbaa.Base Go.Proofs.Ytdinmmnmjiofbaa.M
set_option linter.unusedVariables false
set_option linter.unusedSimpArgs false

theorem laws_toIntS.ev (l : List Int) (hl : l.length ≤ 35184372088832) : Ev (fun k => laws_toIntS.f k l) l := by
  have main : ∀ (d i : Nat) (x : List Int), i + d = l.length → x.length = l.length → (∀ j, j < i → x[j]? = l[j]?) →
      Ev (fun k => laws_toIntS.l0 k l x i) l := by
    intro d
    induction d with
    | zero =>
      intro i x e hx hj
      refine Ev.step (fun k => by rw [laws_toIntS.l0]) ?_
      refine ev_neg (by omega) ?_
      refine ev_some (List.ext_getElem? fun j => ?_)
      by_cases h : j < l.length
      · exact hj j (by omega)
      · rw [List.getElem?_eq_none (by omega), List.getElem?_eq_none (by omega)]
    | succ d ih =>
      intro i x e hx hj
      refine Ev.step (fun k => by rw [laws_toIntS.l0]) ?_
      refine ev_pos (by omega) ?_
      refine ev_pos (by omega) ?_
      refine ev_pos (by omega) ?_
      rw [w64 (x := (i : Int) + 1) (by omega) (by omega)]
      refine ih (i + 1) _ (by omega) (by simpa using hx) (fun j hj' => ?_)
      rw [Int.toNat_natCast, rd_get rfl (by omega)]
      by_cases h : j = i
      · subst h
        rw [List.getElem?_set_self (by omega), List.getElem?_eq_getElem (by omega)]
      · rw [List.getElem?_set_ne (by omega)]
        exact hj j (by omega)
  unfold laws_toIntS.f
  refine ev_pos (by omega) ?_
  refine ev_pos (by omega) ?_
  exact main l.length 0 _ (by omega) (by simp) (fun j hj => by omega)
theorem laws_eqIntS.ev (a b : List Int) (hl : a.length ≤ 35184372088832) : Ev (fun k => laws_eqIntS.f k a b) (decide (a = b)) := by
  have main : ∀ (d i : Nat), i + d = a.length → a.length = b.length → Ev (fun k => laws_eqIntS.l0 k a b i) (decide (a.drop i = b.drop i)) := by
    intro d
    induction d with
    | zero =>
      intro i e he
      refine Ev.step (fun k => by rw [laws_eqIntS.l0]) ?_
      refine ev_neg (by omega) ?_
      refine ev_some ?_
      rw [List.drop_eq_nil_of_le (by omega), List.drop_eq_nil_of_le (by omega)]
      rfl
    | succ d ih =>
      intro i e he
      refine Ev.step (fun k => by rw [laws_eqIntS.l0]) ?_
      refine ev_pos (by omega) ?_
      refine ev_pos (by omega) ?_
      refine ev_pos (by omega) ?_
      rw [w64 (x := (i : Int) + 1) (by omega) (by omega), rd_get rfl (by omega), rd_get rfl (by omega), List.drop_eq_getElem_cons (by omega), List.drop_eq_getElem_cons (l := b) (by omega)]
      by_cases h : a[i] = b[i]
      · refine ev_pos h ?_
        rw [show decide (a[i] :: a.drop (i + 1) = b[i] :: b.drop (i + 1)) = decide (a.drop (i + 1) = b.drop (i + 1)) from decide_eq_decide.2 ⟨fun e => (List.cons.inj e).2, fun e => by rw [h, e]⟩]
        exact ih (i + 1) (by omega) he
      · refine ev_neg h (ev_some ?_)
        exact (decide_eq_false fun e => h (List.cons.inj e).1).symm
  unfold laws_eqIntS.f
  by_cases h : a.length = b.length
  · refine ev_pos (by omega) ?_
    exact main a.length 0 (by omega) h
  · refine ev_neg (by omega) (ev_some ?_)
    symm
    rw [decide_eq_false_iff_not]
    exact fun e => h (by rw [e])
theorem spec_l1In.at (a b c : Int) : spec_l1In.f a b c = some (decide (b ≤ a ∧ a ≤ c)) := by
  unfold spec_l1In.f
  by_cases h : a ≥ b
  · rw [if_pos h]
    simp [show b ≤ a from h]
  · rw [if_neg h]
    simp [show ¬ b ≤ a from h]
theorem impl_within.at (a b c : Int) : impl_within.f a b c = some (decide (b ≤ a ∧ a ≤ c)) := by
  unfold impl_within.f
  by_cases h : a ≥ b
  · rw [if_pos h]
    simp [show b ≤ a from h]
  · rw [if_neg h]
    simp [show ¬ b ≤ a from h]
theorem spec_l2Road.at (n : Int) (g : Bool) : spec_l2Road.f n g = some (okRoad n g) := by
  unfold spec_l2Road.f okRoad
  rw [spec_l1In.at]
  simp only [Option.bind_some]
  by_cases h : 2 ≤ n ∧ n ≤ 24
  · rw [if_pos (by simpa using h)]
    cases g with
    | false => simp [h]
    | true =>
      simp only [if_true, h, true_and, Option.some.injEq]
      exact decide_eq_decide.2 (by simp; omega)
  · rw [if_neg (by simpa using h)]
    simp only [Option.some.injEq]
    exact (decide_eq_false (fun h' => h ⟨h'.1, h'.2.1⟩)).symm
theorem impl_IsRoad.at (n : Int) (g : Bool) : impl_IsRoad.f n g = some (okRoad n g) := by
  unfold impl_IsRoad.f okRoad
  rw [impl_within.at]
  simp only [Option.bind_some]
  by_cases h : 2 ≤ n ∧ n ≤ 24
  · rw [if_pos (by simpa using h)]
    cases g with
    | false => simp [h]
    | true =>
      simp only [if_true, h, true_and, Option.some.injEq]
      exact decide_eq_decide.2 (by simp)
  · rw [if_neg (by simpa using h)]
    simp only [Option.some.injEq]
    exact (decide_eq_false (fun h' => h ⟨h'.1, h'.2.1⟩)).symm
theorem laws_toRoad.at (n : Int) (g : Bool) : laws_toRoad.f n g = some (n, g) := rfl
theorem impl_allWithin.ev (l : List Int) (lo hi : Int) (hl : l.length ≤ 35184372088832) : Ev (fun k => impl_allWithin.f k l lo hi) (l.all fun x => decide (lo ≤ x ∧ x ≤ hi)) := by
  have main : ∀ (d i : Nat), i + d = l.length → Ev (fun k => impl_allWithin.l0 k lo hi l l.length i) ((l.drop i).all fun x => decide (lo ≤ x ∧ x ≤ hi)) := by
    intro d
    induction d with
    | zero =>
      intro i e
      refine Ev.step (fun k => by rw [impl_allWithin.l0]) ?_
      refine ev_neg (by omega) (ev_some ?_)
      rw [List.drop_eq_nil_of_le (by omega)]
      rfl
    | succ d ih =>
      intro i e
      refine Ev.step (fun k => by rw [impl_allWithin.l0]) ?_
      refine ev_pos (by omega) ?_
      refine ev_pos (by omega) ?_
      refine ev_pos (by omega) ?_
      rw [w64 (x := (i : Int) + 1) (by omega) (by omega), rd_get rfl (by omega), List.drop_eq_getElem_cons (by omega), List.all_cons, impl_within.at]
      simp only [Option.bind_some]
      by_cases h : lo ≤ l[i] ∧ l[i] ≤ hi
      · refine ev_pos (by simpa using h) ?_
        rw [decide_eq_true h, Bool.true_and]
        exact ih (i + 1) (by omega)
      · refine ev_neg (by simpa using h) (ev_some ?_)
        rw [decide_eq_false h, Bool.false_and]
  unfold impl_allWithin.f
  exact main l.length 0 (by omega)
theorem impl_Road_has.ev {n : Int} (g : Bool) (l : List Int) (hn : 2 ≤ n ∧ n ≤ 24) (hl : l.length ≤ 35184372088832) : Ev (fun k => impl_Road_has.f k n g l) (l.all fun x => decide (0 ≤ x ∧ x ≤ n - 1)) := by
  unfold impl_Road_has.f
  rw [w64 (x := n - 1) (by omega) (by omega)]
  exact Ev.bind (impl_allWithin.ev l 0 (n - 1) hl) (ev_some rfl)
theorem spec_l3Line.at (n : Int) (g : Bool) (a : Int) : spec_l3Line.f n g a = some (okStart n g a) := by
  unfold spec_l3Line.f okStart
  rw [spec_l2Road.at]
  simp only [Option.bind_some]
  by_cases h : okRoad n g = true
  · have hb := okRoad_b h
    rw [if_pos h, h]
    cases g with
    | false => rw [if_neg (by simp), w64 (by omega) (by omega), spec_l1In.at]; rfl
    | true => rfl
  · rw [if_neg h]
    rw [Bool.not_eq_true] at h
    rw [h]
    rfl
theorem impl_isStart.ev (n : Int) (g : Bool) (a : Int) : Ev (fun k => impl_isStart.f k n g a) (okStart n g a) := by
  unfold impl_isStart.f okStart
  rw [impl_IsRoad.at]
  simp only [Option.bind_some]
  by_cases h : okRoad n g = true
  · have hb := okRoad_b h
    refine ev_pos h ?_
    rw [h]
    cases g with
    | false =>
      refine ev_neg (by simp) ?_
      refine Ev.bind (impl_Road_has.ev false [a] ⟨hb.1, hb.2.1⟩ (by simp)) (ev_some ?_)
      simp
    | true => exact ev_pos rfl (ev_some rfl)
  · refine ev_neg h (ev_some ?_)
    rw [Bool.not_eq_true] at h
    rw [h]
    rfl
theorem spec_l3Search.ev {n : Int} (g : Bool) {a : Int} (l : List Int) (hn : 2 ≤ n ∧ n ≤ 24) (ha : 0 ≤ a ∧ a ≤ n - 1) (hl : l.length ≤ 35184372088832) : Ev (fun k => spec_l3Search.f k n g a l) (srch n a none a a l) := by
  have main : ∀ (d i : Nat) (pr : Option Bool) (low high : Int), i + d = l.length → (i = 0 ∧ pr = none ∨ ∃ j, ∃ h : j < l.length, i = j + 1 ∧ pr = some (decide (l[j] > a))) →
      Ev (fun k => spec_l3Search.l0 k a l low high i n g) (srch n a pr low high (l.drop i)) := by
    intro d
    induction d with
    | zero =>
      intro i pr low high e _
      refine Ev.step (fun k => by rw [spec_l3Search.l0]) ?_
      refine ev_neg (by omega) ?_
      rw [List.drop_eq_nil_of_le (by omega), w64 (x := n - 1) (by omega) (by omega)]
      unfold srch
      by_cases h : low = 0
      · refine ev_pos h (ev_some ?_)
        rw [decide_eq_true h, Bool.true_and]
        rfl
      · refine ev_neg h (ev_some ?_)
        rw [decide_eq_false h, Bool.false_and]
    | succ d ih =>
      intro i pr low high e hp
      refine Ev.step (fun k => by rw [spec_l3Search.l0]) ?_
      refine ev_pos (by omega) ?_
      refine ev_pos (by omega) ?_
      have hi : i < l.length := by omega
      have hrd : rd l i = l[i] := rd_get rfl hi
      rw [w64 (x := n - 1) (by omega) (by omega), spec_l1In.at, hrd, List.drop_eq_getElem_cons (by omega)]
      simp only [Option.bind_some]
      by_cases hr : l[i] > a
      · refine ev_pos hr ?_
        have hbad : Ev (fun k => spec_l3Search.j1 k a l low high i true true n g) false :=
          Ev.step (fun k => by rw [spec_l3Search.j1]) (ev_pos rfl (ev_some rfl))
        have hgood : 0 ≤ l[i] ∧ l[i] ≤ n - 1 → l[i] ≠ a → pr ≠ some (decide (l[i] > a)) → Ev (fun k => spec_l3Search.j1 k a l low high i true false n g) (srch n a pr low high (l[i] :: l.drop (i + 1))) := by
          intro h1 h2 h3
          refine Ev.step (fun k => by rw [spec_l3Search.j1]) ?_
          refine ev_neg (by simp) ?_
          rw [hrd]
          unfold srch
          refine ev_pos rfl ?_
          refine ev_pos (by omega) ?_
          refine ev_pos (by omega) ?_
          by_cases hh : l[i] ≤ high
          · refine ev_pos hh ?_
            rw [if_neg (fun c => by have := c.2.2.2.2.1 hr; omega)]
            exact Ev.step (fun k => by rw [spec_l3Search.j2]) (ev_pos rfl (ev_some rfl))
          · refine ev_neg hh ?_
            refine Ev.step (fun k => by rw [spec_l3Search.j2]) ?_
            refine ev_neg (by simp) ?_
            refine ev_pos rfl ?_
            refine ev_pos (by omega) ?_
            refine ev_pos (by omega) ?_
            rw [hrd, w64 (x := (i : Int) + 1) (by omega) (by omega), if_pos ⟨h1.1, h1.2, h2, h3, fun _ => by omega, fun h => absurd hr h⟩, if_pos hr, if_pos hr]
            exact ih (i + 1) _ low l[i] (by omega) (.inr ⟨i, hi, rfl, rfl⟩)
        by_cases h1 : 0 ≤ l[i] ∧ l[i] ≤ n - 1
        · refine ev_pos (by simpa using h1) ?_
          by_cases h2 : l[i] = a
          · refine ev_pos h2 ?_
            rw [show srch n a pr low high (l[i] :: l.drop (i + 1)) = false from if_neg (fun c => c.2.2.1 h2)]
            exact hbad
          · refine ev_neg h2 ?_
            rcases hp with ⟨rfl, rfl⟩ | ⟨j, hj, rfl, rfl⟩
            · refine ev_neg (by omega) ?_
              exact hgood h1 h2 (by simp)
            · refine ev_pos (by omega) ?_
              rw [show wrap64 (((j + 1 : Nat) : Int) - 1) = (j : Int) from by unfold wrap64; omega, rd_get (n := j) rfl hj]
              refine ev_pos (by omega) ?_
              refine ev_pos (by omega) ?_
              have e0 : decide (l[j + 1] > a) = true := by simp [hr]
              by_cases h3 : true = decide (l[j] > a)
              · rw [show (true == decide (l[j] > a)) = true from by rw [← h3]; rfl]
                rw [show srch n a (some (decide (l[j] > a))) low high (l[j + 1] :: l.drop (j + 1 + 1)) = false from if_neg (fun c => c.2.2.2.1 (by rw [e0, h3]))]
                exact hbad
              · rw [show (true == decide (l[j] > a)) = false from beq_eq_false_iff_ne.2 h3]
                exact hgood h1 h2 (fun c => h3 (by rw [← e0]; exact (Option.some.inj c).symm))
        · refine ev_neg (by simpa using h1) ?_
          rw [show srch n a pr low high (l[i] :: l.drop (i + 1)) = false from if_neg (fun c => h1 ⟨c.1, c.2.1⟩)]
          exact hbad
      · refine ev_neg hr ?_
        have hbad : Ev (fun k => spec_l3Search.j3 k a l low high i false true n g) false :=
          Ev.step (fun k => by rw [spec_l3Search.j3]) (ev_pos rfl (ev_some rfl))
        have hgood : 0 ≤ l[i] ∧ l[i] ≤ n - 1 → l[i] ≠ a → pr ≠ some (decide (l[i] > a)) → Ev (fun k => spec_l3Search.j3 k a l low high i false false n g) (srch n a pr low high (l[i] :: l.drop (i + 1))) := by
          intro h1 h2 h3
          refine Ev.step (fun k => by rw [spec_l3Search.j3]) ?_
          refine ev_neg (by simp) ?_
          rw [hrd]
          unfold srch
          refine ev_neg (by simp) ?_
          refine ev_pos (by omega) ?_
          refine ev_pos (by omega) ?_
          by_cases hh : l[i] ≥ low
          · rw [decide_eq_true hh]
            rw [if_neg (fun c => by have := c.2.2.2.2.2 hr; omega)]
            exact Ev.step (fun k => by rw [spec_l3Search.j4]) (ev_pos rfl (ev_some rfl))
          · rw [decide_eq_false hh]
            refine Ev.step (fun k => by rw [spec_l3Search.j4]) ?_
            refine ev_neg (by simp) ?_
            refine ev_neg (by simp) ?_
            refine ev_pos (by omega) ?_
            refine ev_pos (by omega) ?_
            rw [hrd, w64 (x := (i : Int) + 1) (by omega) (by omega), if_pos ⟨h1.1, h1.2, h2, h3, fun h => absurd h hr, fun _ => by omega⟩, if_neg hr, if_neg hr]
            exact ih (i + 1) _ l[i] high (by omega) (.inr ⟨i, hi, rfl, rfl⟩)
        by_cases h1 : 0 ≤ l[i] ∧ l[i] ≤ n - 1
        · refine ev_pos (by simpa using h1) ?_
          by_cases h2 : l[i] = a
          · refine ev_pos h2 ?_
            rw [show srch n a pr low high (l[i] :: l.drop (i + 1)) = false from if_neg (fun c => c.2.2.1 h2)]
            exact hbad
          · refine ev_neg h2 ?_
            rcases hp with ⟨rfl, rfl⟩ | ⟨j, hj, rfl, rfl⟩
            · refine ev_neg (by omega) ?_
              exact hgood h1 h2 (by simp)
            · refine ev_pos (by omega) ?_
              rw [show wrap64 (((j + 1 : Nat) : Int) - 1) = (j : Int) from by unfold wrap64; omega, rd_get (n := j) rfl hj]
              refine ev_pos (by omega) ?_
              refine ev_pos (by omega) ?_
              have e0 : decide (l[j + 1] > a) = false := by simp [hr]
              by_cases h3 : false = decide (l[j] > a)
              · rw [show (false == decide (l[j] > a)) = true from by rw [← h3]; rfl]
                rw [show srch n a (some (decide (l[j] > a))) low high (l[j + 1] :: l.drop (j + 1 + 1)) = false from if_neg (fun c => c.2.2.2.1 (by rw [e0, h3]))]
                exact hbad
              · rw [show (false == decide (l[j] > a)) = false from beq_eq_false_iff_ne.2 h3]
                exact hgood h1 h2 (fun c => h3 (by rw [← e0]; exact (Option.some.inj c).symm))
        · refine ev_neg (by simpa using h1) ?_
          rw [show srch n a pr low high (l[i] :: l.drop (i + 1)) = false from if_neg (fun c => h1 ⟨c.1, c.2.1⟩)]
          exact hbad
  unfold spec_l3Search.f
  exact main l.length 0 none a a (by omega) (.inl ⟨rfl, rfl⟩)
theorem impl_Road_isSearch.ev {n : Int} (g : Bool) {a : Int} (l : List Int) (hn : 2 ≤ n ∧ n ≤ 24) (ha : 0 ≤ a ∧ a ≤ n - 1) (hl : l.length ≤ 35184372088832) : Ev (fun k => impl_Road_isSearch.f k n g a l) (srch n a none a a l) := by
  have main : ∀ (d i : Nat) (pr : Option Bool) (low high : Int), (l.all fun x => decide (0 ≤ x ∧ x ≤ n - 1)) = true → i + d = l.length → low ≤ a → a ≤ high → (i = 0 ∧ pr = none ∨ ∃ j, ∃ h : j < l.length, i = j + 1 ∧ pr = some (decide (l[j] > a)) ∧ l[j] ≠ a) →
      Ev (fun k => impl_Road_isSearch.l0 k a l low high l l.length i n g) (srch n a pr low high (l.drop i)) := by
    intro d
    induction d with
    | zero =>
      intro i pr low high _ e _ _ _
      refine Ev.step (fun k => by rw [impl_Road_isSearch.l0]) ?_
      refine ev_neg (by omega) ?_
      rw [List.drop_eq_nil_of_le (by omega), w64 (x := n - 1) (by omega) (by omega)]
      unfold srch
      by_cases h : low = 0
      · refine ev_pos h (ev_some ?_)
        rw [decide_eq_true h, Bool.true_and]
        rfl
      · refine ev_neg h (ev_some ?_)
        rw [decide_eq_false h, Bool.false_and]
    | succ d ih =>
      intro i pr low high hall e hlo hhi hp
      have hi : i < l.length := by omega
      have hrd : rd l i = l[i] := rd_get rfl hi
      have h1 := in_of_all hall hi
      refine Ev.step (fun k => by rw [impl_Road_isSearch.l0]) ?_
      refine ev_pos (by omega) ?_
      refine ev_pos (by omega) ?_
      refine ev_pos (by omega) ?_
      have hbad : Ev (fun k => impl_Road_isSearch.j2 k a l low high l[i] l l.length i true n g) false :=
        Ev.step (fun k => by rw [impl_Road_isSearch.j2]) (ev_pos rfl (ev_some rfl))
      have hgood : l[i] ≠ a → pr ≠ some (decide (l[i] > a)) → Ev (fun k => impl_Road_isSearch.j2 k a l low high l[i] l l.length i false n g) (srch n a pr low high (l[i] :: l.drop (i + 1))) := by
        intro h2 h3
        refine Ev.step (fun k => by rw [impl_Road_isSearch.j2]) ?_
        refine ev_neg (by simp) ?_
        rw [w64 (x := (i : Int) + 1) (by omega) (by omega), mn_eq, mx_eq]
        unfold srch
        by_cases hr : l[i] > a
        · refine ev_pos (by omega) ?_
          by_cases hh : l[i] ≤ high
          · refine ev_pos hh ?_
            rw [if_neg (fun c => by have := c.2.2.2.2.1 hr; omega)]
            exact ev_some rfl
          · refine ev_neg hh ?_
            rw [if_pos ⟨h1.1, h1.2, h2, h3, fun _ => by omega, fun h => absurd hr h⟩, if_pos hr, if_pos hr, Int.min_eq_left (by omega), Int.max_eq_right (by omega)]
            exact ih (i + 1) _ low l[i] hall (by omega) (by omega) (by omega) (.inr ⟨i, hi, rfl, rfl, h2⟩)
        · by_cases hh : l[i] ≥ low
          · refine ev_pos hh ?_
            refine ev_pos (by omega) ?_
            rw [if_neg (fun c => by have := c.2.2.2.2.2 hr; omega)]
            exact ev_some rfl
          · refine ev_neg hh ?_
            rw [if_pos ⟨h1.1, h1.2, h2, h3, fun h => absurd h hr, fun _ => by omega⟩, if_neg hr, if_neg hr, Int.min_eq_right (by omega), Int.max_eq_left (by omega)]
            exact ih (i + 1) _ l[i] high hall (by omega) (by omega) (by omega) (.inr ⟨i, hi, rfl, rfl, h2⟩)
      rw [hrd, List.drop_eq_getElem_cons hi]
      by_cases h2 : l[i] = a
      · refine ev_pos h2 ?_
        rw [show srch n a pr low high (l[i] :: l.drop (i + 1)) = false from if_neg (fun c => c.2.2.1 h2)]
        exact hbad
      · refine ev_neg h2 ?_
        rcases hp with ⟨rfl, rfl⟩ | ⟨j, hj, rfl, rfl, hja⟩
        · refine ev_neg (by omega) ?_
          exact hgood h2 (by simp)
        · refine ev_pos (by omega) ?_
          rw [show wrap64 (((j + 1 : Nat) : Int) - 1) = (j : Int) from by unfold wrap64; omega, rd_get (n := j) rfl hj]
          refine ev_pos (by omega) ?_
          refine ev_pos (by omega) ?_
          have e1 : decide (l[j + 1] < a) = !decide (l[j + 1] > a) := by by_cases h : l[j + 1] > a <;> simp [h] <;> omega
          have e2 : decide (l[j] < a) = !decide (l[j] > a) := by by_cases h : l[j] > a <;> simp [h] <;> omega
          rw [e1, e2]
          by_cases h3 : decide (l[j + 1] > a) = decide (l[j] > a)
          · rw [show ((!decide (l[j + 1] > a)) == !decide (l[j] > a)) = true from by rw [h3]; simp]
            rw [show srch n a (some (decide (l[j] > a))) low high (l[j + 1] :: l.drop (j + 1 + 1)) = false from if_neg (fun c => c.2.2.2.1 (by rw [h3]))]
            exact hbad
          · rw [show ((!decide (l[j + 1] > a)) == !decide (l[j] > a)) = false from by revert h3; cases decide (l[j + 1] > a) <;> cases decide (l[j] > a) <;> simp]
            exact hgood h2 (fun c => h3 (Option.some.inj c).symm)
  unfold impl_Road_isSearch.f
  by_cases h0 : l.length = 0
  · obtain rfl := List.eq_nil_of_length_eq_zero h0
    refine ev_pos (by simp) ?_
    refine Ev.step (fun k => by rw [impl_Road_isSearch.j0]) ?_
    refine ev_pos rfl (ev_some ?_)
    unfold srch
    simp
    omega
  · refine ev_neg (by omega) ?_
    refine Ev.bind (impl_Road_has.ev g l hn hl) ?_
    refine Ev.step (fun k => by rw [impl_Road_isSearch.j0]) ?_
    by_cases hall : (l.all fun x => decide (0 ≤ x ∧ x ≤ n - 1)) = true
    · rw [hall]
      refine ev_neg (by simp) ?_
      exact main l.length 0 none a a hall (by omega) (by omega) (by omega) (.inl ⟨rfl, rfl⟩)
    · have : srch n a none a a l = false := by
        rw [← Bool.not_eq_true]
        exact fun h => hall (srch_all h)
      rw [this]
      rw [Bool.not_eq_true] at hall
      rw [hall]
      exact ev_pos rfl (ev_some rfl)
theorem spec_l3Good.ev (n : Int) (g : Bool) (a : Int) (l : List Int) (hl : l.length ≤ 35184372088832) : Ev (fun k => spec_l3Good.f k n g a l) (okSearch n g a l) := by
  unfold spec_l3Good.f okSearch
  rw [spec_l3Line.at]
  simp only [Option.bind_some]
  by_cases h : okStart n g a = true
  · have hb := okStart_b h
    refine ev_pos h ?_
    rw [h, Bool.true_and]
    exact Ev.bind (spec_l3Search.ev g l ⟨hb.2.2.1, hb.2.2.2.1⟩ ⟨hb.2.2.2.2.1, hb.2.2.2.2.2⟩ hl) (ev_some rfl)
  · refine ev_neg h (ev_some ?_)
    rw [Bool.not_eq_true] at h
    rw [h, Bool.false_and]
theorem impl_isSought.ev (n : Int) (g : Bool) (a : Int) (l : List Int) (hl : l.length ≤ 35184372088832) : Ev (fun k => impl_isSought.f k n g a l) (okSearch n g a l) := by
  unfold impl_isSought.f okSearch
  refine Ev.bind (impl_isStart.ev n g a) ?_
  by_cases h : okStart n g a = true
  · have hb := okStart_b h
    refine ev_pos h ?_
    rw [h, Bool.true_and]
    exact Ev.bind (impl_Road_isSearch.ev g l ⟨hb.2.2.1, hb.2.2.2.1⟩ ⟨hb.2.2.2.2.1, hb.2.2.2.2.2⟩ hl) (ev_some rfl)
  · refine ev_neg h (ev_some ?_)
    rw [Bool.not_eq_true] at h
    rw [h, Bool.false_and]
theorem spec_TurnCount.ev (n : Int) (g : Bool) (a : Int) (l : List Int) (hl : l.length ≤ 35184372088832) : Ev (fun k => spec_TurnCount.f k n g a l) (if okSearch n g a l = true then ((l.length : Int) - 1, true) else (0, false)) := by
  unfold spec_TurnCount.f
  refine Ev.bind (spec_l3Good.ev n g a l hl) ?_
  by_cases h : okSearch n g a l = true
  · refine ev_pos h ?_
    rw [if_pos h, w64 (by omega) (by omega)]
    exact ev_some rfl
  · refine ev_neg h ?_
    rw [if_neg h]
    exact ev_some rfl
theorem impl_TurnCount.ev (n : Int) (g : Bool) (a : Int) (l : List Int) (hl : l.length ≤ 35184372088832) : Ev (fun k => impl_TurnCount.f k n g a l) (if okSearch n g a l = true then ((l.length : Int) - 1, true) else (0, false)) := by
  unfold impl_TurnCount.f
  refine Ev.bind (impl_isSought.ev n g a l hl) ?_
  by_cases h : okSearch n g a l = true
  · refine ev_pos h ?_
    rw [if_pos h, w64 (by omega) (by omega)]
    exact ev_some rfl
  · refine ev_neg h ?_
    rw [if_neg h]
    exact ev_some rfl
theorem FnExactTurnCount (n : Int) (g : Bool) (a : Int) (l : List Int) (_ : -9223372036854775808 ≤ n) (_ : n ≤ 9223372036854775807) (_ : -9223372036854775808 ≤ a) (_ : a ≤ 9223372036854775807) (_ : l.length * 8 ≤ 140737488351232) (_ : ∀ x ∈ l, (Lit.int .i64 x).wf = true) : ∃ k, laws_FnExactTurnCount.f k n g a l = some true := by
  refine Ev.rounds (r := true) ?_
  unfold laws_FnExactTurnCount.f
  by_cases hl : (l.length : Int) > 1048576
  · exact ev_pos hl (ev_some rfl)
  refine ev_neg hl ?_
  simp only [laws_toRoad.at, Option.bind_some]
  refine Ev.bind (laws_toIntS.ev l (by omega)) ?_
  refine Ev.bind (spec_TurnCount.ev n g a l (by omega)) ?_
  refine Ev.bind (laws_toIntS.ev l (by omega)) ?_
  refine Ev.bind (impl_TurnCount.ev n g a l (by omega)) ?_
  refine ev_pos rfl ?_
  refine Ev.step (fun k => by rw [laws_FnExactTurnCount.j0]) ?_
  refine ev_neg (by simp) ?_
  refine Ev.bind (laws_toIntS.ev l (by omega)) ?_
  refine Ev.bind (laws_eqIntS.ev l l (by omega)) ?_
  exact ev_pos (by simp) (ev_some rfl)

end Go.Proofs.Ytdinmmnmjiofbaa.Pure
