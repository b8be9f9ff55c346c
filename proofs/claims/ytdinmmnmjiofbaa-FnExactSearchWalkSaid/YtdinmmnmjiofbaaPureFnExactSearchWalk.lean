/- The plain side of the law FnExactSearchWalk: the printed law, whatever its input (within the form's bounds), comes to true. No other condition. -/
import Derived.Test.YtdinmmnmjiofbaaPFnExactSearchWalkx5
import Derived.Test.YtdinmmnmjiofbaaBase
import Derived.Test.YtdinmmnmjiofbaaMath
namespace Go.Proofs.Ytdinmmnmjiofbaa.Pure
open Go.RowKit Go.Proofs.Ytdinmmnmjiofbaa.PFnExactSearchWalk Go.Proofs.YtdinmmnmjiofbaaW.PrintWords Go.Proofs.YtdinmmnmjiofbaaW.PrintLast Go.Proofs.YtdinmmnmjiofbaaW.PrintMore Go.Proofs.Ytdinmmnmjiofbaa.Base Go.Proofs.Ytdinmmnmjiofbaa.M
set_option linter.unusedVariables false
set_option linter.unusedSimpArgs false

theorem laws_toIntS.ev (l : List Int) (hl : l.length ≤ 35184372088832) : Ev (fun k => laws_toIntS.f k l) l := by
  have main : ∀ (d i : Nat) (x : List Int), i + d = l.length → x.length = l.length → (∀ j, j < i → x[j]? = l[j]?) →
      Ev (fun k => laws_toIntS.l0 k l x i) l := by
    intro d
    induction d with
    | zero =>
      intro i x e hx hj
      refine Ev.step (fun k => by rw [laws_toIntS.l0]) ?_
      refine ev_neg (by omega) ?_
      refine ev_some (List.ext_getElem? fun j => ?_)
      by_cases h : j < l.length
      · exact hj j (by omega)
      · rw [List.getElem?_eq_none (by omega), List.getElem?_eq_none (by omega)]
    | succ d ih =>
      intro i x e hx hj
      refine Ev.step (fun k => by rw [laws_toIntS.l0]) ?_
      refine ev_pos (by omega) ?_
      refine ev_pos (by omega) ?_
      refine ev_pos (by omega) ?_
      rw [w64 (x := (i : Int) + 1) (by omega) (by omega)]
      refine ih (i + 1) _ (by omega) (by simpa using hx) (fun j hj' => ?_)
      rw [Int.toNat_natCast, rd_get rfl (by omega)]
      by_cases h : j = i
      · subst h
        rw [List.getElem?_set_self (by omega), List.getElem?_eq_getElem (by omega)]
      · rw [List.getElem?_set_ne (by omega)]
        exact hj j (by omega)
  unfold laws_toIntS.f
  refine ev_pos (by omega) ?_
  refine ev_pos (by omega) ?_
  exact main l.length 0 _ (by omega) (by simp) (fun j hj => by omega)
theorem laws_eqIntS.ev (a b : List Int) (hl : a.length ≤ 35184372088832) : Ev (fun k => laws_eqIntS.f k a b) (decide (a = b)) := by
  have main : ∀ (d i : Nat), i + d = a.length → a.length = b.length → Ev (fun k => laws_eqIntS.l0 k a b i) (decide (a.drop i = b.drop i)) := by
    intro d
    induction d with
    | zero =>
      intro i e he
      refine Ev.step (fun k => by rw [laws_eqIntS.l0]) ?_
      refine ev_neg (by omega) ?_
      refine ev_some ?_
      rw [List.drop_eq_nil_of_le (by omega), List.drop_eq_nil_of_le (by omega)]
      rfl
    | succ d ih =>
      intro i e he
      refine Ev.step (fun k => by rw [laws_eqIntS.l0]) ?_
      refine ev_pos (by omega) ?_
      refine ev_pos (by omega) ?_
      refine ev_pos (by omega) ?_
      rw [w64 (x := (i : Int) + 1) (by omega) (by omega), rd_get rfl (by omega), rd_get rfl (by omega), List.drop_eq_getElem_cons (by omega), List.drop_eq_getElem_cons (l := b) (by omega)]
      by_cases h : a[i] = b[i]
      · refine ev_pos h ?_
        rw [show decide (a[i] :: a.drop (i + 1) = b[i] :: b.drop (i + 1)) = decide (a.drop (i + 1) = b.drop (i + 1)) from decide_eq_decide.2 ⟨fun e => (List.cons.inj e).2, fun e => by rw [h, e]⟩]
        exact ih (i + 1) (by omega) he
      · refine ev_neg h (ev_some ?_)
        exact (decide_eq_false fun e => h (List.cons.inj e).1).symm
  unfold laws_eqIntS.f
  by_cases h : a.length = b.length
  · refine ev_pos (by omega) ?_
    exact main a.length 0 (by omega) h
  · refine ev_neg (by omega) (ev_some ?_)
    symm
    rw [decide_eq_false_iff_not]
    exact fun e => h (by rw [e])
def marks (n : Nat) (a : Int) : List Int := (List.range n).map fun (j : Nat) => a + (j : Int)
theorem marks_length (n : Nat) (a : Int) : (marks n a).length = n := by simp [marks]
theorem laws_markIntS.ev (l : List Int) (hl : l.length ≤ 35184372088832) (a : Int) (h0 : 0 ≤ a) (h1 : a ≤ 4611686018427387904) :
    Ev (fun k => laws_markIntS.f k l a) (a + l.length, marks l.length a) := by
  have main : ∀ (d i : Nat) (x : List Int), i + d = l.length → x.length = l.length → (∀ j, j < i → x[j]? = (marks l.length a)[j]?) →
      Ev (fun k => laws_markIntS.l0 k x (a + i) i) (a + l.length, marks l.length a) := by
    intro d
    induction d with
    | zero =>
      intro i x e hx hj
      refine Ev.step (fun k => by rw [laws_markIntS.l0]) ?_
      refine ev_neg (by omega) ?_
      have : x = marks l.length a := List.ext_getElem? fun j => by
        by_cases h : j < l.length
        · exact hj j (by omega)
        · rw [List.getElem?_eq_none (by omega), List.getElem?_eq_none (by rw [marks_length]; omega)]
      refine ev_some ?_
      rw [this, show (i : Int) = (l.length : Int) from by omega]
    | succ d ih =>
      intro i x e hx hj
      refine Ev.step (fun k => by rw [laws_markIntS.l0]) ?_
      refine ev_pos (by omega) ?_
      refine ev_pos (by omega) ?_
      rw [w64 (x := (i : Int) + 1) (by omega) (by omega), w64 (x := a + (i : Int) + 1) (by omega) (by omega), Int.add_assoc]
      refine ih (i + 1) _ (by omega) (by simpa using hx) (fun j hj' => ?_)
      rw [Int.toNat_natCast]
      by_cases h : j = i
      · subst h
        rw [List.getElem?_set_self (by omega)]
        simp [marks, List.getElem?_range (show j < l.length by omega)]
      · rw [List.getElem?_set_ne (by omega)]
        exact hj j (by omega)
  unfold laws_markIntS.f
  have := main l.length 0 l (by omega) rfl (fun j hj => by omega)
  simpa using this
theorem laws_heldIntS.ev (n : Nat) (hn : n ≤ 35184372088832) (a : Int) (h0 : 0 ≤ a) (h1 : a ≤ 4611686018427387904) :
    Ev (fun k => laws_heldIntS.f k (marks n a) a) (a + n) := by
  have main : ∀ (d i : Nat), i + d = n → Ev (fun k => laws_heldIntS.l0 k (marks n a) (a + i) i) (a + n) := by
    intro d
    induction d with
    | zero =>
      intro i e
      refine Ev.step (fun k => by rw [laws_heldIntS.l0]) ?_
      refine ev_neg (by rw [marks_length]; omega) ?_
      exact ev_some (by rw [show (i : Int) = (n : Int) from by omega])
    | succ d ih =>
      intro i e
      refine Ev.step (fun k => by rw [laws_heldIntS.l0]) ?_
      refine ev_pos (by rw [marks_length]; omega) ?_
      refine ev_pos (by omega) ?_
      refine ev_pos ?_ ?_
      · rw [rd_get rfl (by rw [marks_length]; omega)]
        simp [marks]
      · rw [w64 (x := (i : Int) + 1) (by omega) (by omega), w64 (x := a + (i : Int) + 1) (by omega) (by omega), Int.add_assoc]
        exact ih (i + 1) (by omega)
  unfold laws_heldIntS.f
  have := main n 0 (by omega)
  simpa using this
theorem spec_l1In.at (a b c : Int) : spec_l1In.f a b c = some (decide (b ≤ a ∧ a ≤ c)) := by
  unfold spec_l1In.f
  by_cases h : a ≥ b
  · rw [if_pos h]
    simp [show b ≤ a from h]
  · rw [if_neg h]
    simp [show ¬ b ≤ a from h]
theorem impl_within.at (a b c : Int) : impl_within.f a b c = some (decide (b ≤ a ∧ a ≤ c)) := by
  unfold impl_within.f
  by_cases h : a ≥ b
  · rw [if_pos h]
    simp [show b ≤ a from h]
  · rw [if_neg h]
    simp [show ¬ b ≤ a from h]
theorem spec_l2Road.at (n : Int) (g : Bool) : spec_l2Road.f n g = some (okRoad n g) := by
  unfold spec_l2Road.f okRoad
  rw [spec_l1In.at]
  simp only [Option.bind_some]
  by_cases h : 2 ≤ n ∧ n ≤ 24
  · rw [if_pos (by simpa using h)]
    cases g with
    | false => simp [h]
    | true =>
      simp only [if_true, h, true_and, Option.some.injEq]
      exact decide_eq_decide.2 (by simp; omega)
  · rw [if_neg (by simpa using h)]
    simp only [Option.some.injEq]
    exact (decide_eq_false (fun h' => h ⟨h'.1, h'.2.1⟩)).symm
theorem impl_IsRoad.at (n : Int) (g : Bool) : impl_IsRoad.f n g = some (okRoad n g) := by
  unfold impl_IsRoad.f okRoad
  rw [impl_within.at]
  simp only [Option.bind_some]
  by_cases h : 2 ≤ n ∧ n ≤ 24
  · rw [if_pos (by simpa using h)]
    cases g with
    | false => simp [h]
    | true =>
      simp only [if_true, h, true_and, Option.some.injEq]
      exact decide_eq_decide.2 (by simp)
  · rw [if_neg (by simpa using h)]
    simp only [Option.some.injEq]
    exact (decide_eq_false (fun h' => h ⟨h'.1, h'.2.1⟩)).symm
theorem laws_toRoad.at (n : Int) (g : Bool) : laws_toRoad.f n g = some (n, g) := rfl
theorem impl_allWithin.ev (l : List Int) (lo hi : Int) (hl : l.length ≤ 35184372088832) : Ev (fun k => impl_allWithin.f k l lo hi) (l.all fun x => decide (lo ≤ x ∧ x ≤ hi)) := by
  have main : ∀ (d i : Nat), i + d = l.length → Ev (fun k => impl_allWithin.l0 k lo hi l l.length i) ((l.drop i).all fun x => decide (lo ≤ x ∧ x ≤ hi)) := by
    intro d
    induction d with
    | zero =>
      intro i e
      refine Ev.step (fun k => by rw [impl_allWithin.l0]) ?_
      refine ev_neg (by omega) (ev_some ?_)
      rw [List.drop_eq_nil_of_le (by omega)]
      rfl
    | succ d ih =>
      intro i e
      refine Ev.step (fun k => by rw [impl_allWithin.l0]) ?_
      refine ev_pos (by omega) ?_
      refine ev_pos (by omega) ?_
      refine ev_pos (by omega) ?_
      rw [w64 (x := (i : Int) + 1) (by omega) (by omega), rd_get rfl (by omega), List.drop_eq_getElem_cons (by omega), List.all_cons, impl_within.at]
      simp only [Option.bind_some]
      by_cases h : lo ≤ l[i] ∧ l[i] ≤ hi
      · refine ev_pos (by simpa using h) ?_
        rw [decide_eq_true h, Bool.true_and]
        exact ih (i + 1) (by omega)
      · refine ev_neg (by simpa using h) (ev_some ?_)
        rw [decide_eq_false h, Bool.false_and]
  unfold impl_allWithin.f
  exact main l.length 0 (by omega)
theorem impl_Road_has.ev {n : Int} (g : Bool) (l : List Int) (hn : 2 ≤ n ∧ n ≤ 24) (hl : l.length ≤ 35184372088832) : Ev (fun k => impl_Road_has.f k n g l) (l.all fun x => decide (0 ≤ x ∧ x ≤ n - 1)) := by
  unfold impl_Road_has.f
  rw [w64 (x := n - 1) (by omega) (by omega)]
  exact Ev.bind (impl_allWithin.ev l 0 (n - 1) hl) (ev_some rfl)
theorem spec_l3Line.at (n : Int) (g : Bool) (a : Int) : spec_l3Line.f n g a = some (okStart n g a) := by
  unfold spec_l3Line.f okStart
  rw [spec_l2Road.at]
  simp only [Option.bind_some]
  by_cases h : okRoad n g = true
  · have hb := okRoad_b h
    rw [if_pos h, h]
    cases g with
    | false => rw [if_neg (by simp), w64 (by omega) (by omega), spec_l1In.at]; rfl
    | true => rfl
  · rw [if_neg h]
    rw [Bool.not_eq_true] at h
    rw [h]
    rfl
theorem impl_isStart.ev (n : Int) (g : Bool) (a : Int) : Ev (fun k => impl_isStart.f k n g a) (okStart n g a) := by
  unfold impl_isStart.f okStart
  rw [impl_IsRoad.at]
  simp only [Option.bind_some]
  by_cases h : okRoad n g = true
  · have hb := okRoad_b h
    refine ev_pos h ?_
    rw [h]
    cases g with
    | false =>
      refine ev_neg (by simp) ?_
      refine Ev.bind (impl_Road_has.ev false [a] ⟨hb.1, hb.2.1⟩ (by simp)) (ev_some ?_)
      simp
    | true => exact ev_pos rfl (ev_some rfl)
  · refine ev_neg h (ev_some ?_)
    rw [Bool.not_eq_true] at h
    rw [h]
    rfl
theorem spec_l3Search.ev {n : Int} (g : Bool) {a : Int} (l : List Int) (hn : 2 ≤ n ∧ n ≤ 24) (ha : 0 ≤ a ∧ a ≤ n - 1) (hl : l.length ≤ 35184372088832) : Ev (fun k => spec_l3Search.f k n g a l) (srch n a none a a l) := by
  have main : ∀ (d i : Nat) (pr : Option Bool) (low high : Int), i + d = l.length → (i = 0 ∧ pr = none ∨ ∃ j, ∃ h : j < l.length, i = j + 1 ∧ pr = some (decide (l[j] > a))) →
      Ev (fun k => spec_l3Search.l0 k a l low high i n g) (srch n a pr low high (l.drop i)) := by
    intro d
    induction d with
    | zero =>
      intro i pr low high e _
      refine Ev.step (fun k => by rw [spec_l3Search.l0]) ?_
      refine ev_neg (by omega) ?_
      rw [List.drop_eq_nil_of_le (by omega), w64 (x := n - 1) (by omega) (by omega)]
      unfold srch
      by_cases h : low = 0
      · refine ev_pos h (ev_some ?_)
        rw [decide_eq_true h, Bool.true_and]
        rfl
      · refine ev_neg h (ev_some ?_)
        rw [decide_eq_false h, Bool.false_and]
    | succ d ih =>
      intro i pr low high e hp
      refine Ev.step (fun k => by rw [spec_l3Search.l0]) ?_
      refine ev_pos (by omega) ?_
      refine ev_pos (by omega) ?_
      have hi : i < l.length := by omega
      have hrd : rd l i = l[i] := rd_get rfl hi
      rw [w64 (x := n - 1) (by omega) (by omega), spec_l1In.at, hrd, List.drop_eq_getElem_cons (by omega)]
      simp only [Option.bind_some]
      by_cases hr : l[i] > a
      · refine ev_pos hr ?_
        have hbad : Ev (fun k => spec_l3Search.j1 k a l low high i true true n g) false :=
          Ev.step (fun k => by rw [spec_l3Search.j1]) (ev_pos rfl (ev_some rfl))
        have hgood : 0 ≤ l[i] ∧ l[i] ≤ n - 1 → l[i] ≠ a → pr ≠ some (decide (l[i] > a)) → Ev (fun k => spec_l3Search.j1 k a l low high i true false n g) (srch n a pr low high (l[i] :: l.drop (i + 1))) := by
          intro h1 h2 h3
          refine Ev.step (fun k => by rw [spec_l3Search.j1]) ?_
          refine ev_neg (by simp) ?_
          rw [hrd]
          unfold srch
          refine ev_pos rfl ?_
          refine ev_pos (by omega) ?_
          refine ev_pos (by omega) ?_
          by_cases hh : l[i] ≤ high
          · refine ev_pos hh ?_
            rw [if_neg (fun c => by have := c.2.2.2.2.1 hr; omega)]
            exact Ev.step (fun k => by rw [spec_l3Search.j2]) (ev_pos rfl (ev_some rfl))
          · refine ev_neg hh ?_
            refine Ev.step (fun k => by rw [spec_l3Search.j2]) ?_
            refine ev_neg (by simp) ?_
            refine ev_pos rfl ?_
            refine ev_pos (by omega) ?_
            refine ev_pos (by omega) ?_
            rw [hrd, w64 (x := (i : Int) + 1) (by omega) (by omega), if_pos ⟨h1.1, h1.2, h2, h3, fun _ => by omega, fun h => absurd hr h⟩, if_pos hr, if_pos hr]
            exact ih (i + 1) _ low l[i] (by omega) (.inr ⟨i, hi, rfl, rfl⟩)
        by_cases h1 : 0 ≤ l[i] ∧ l[i] ≤ n - 1
        · refine ev_pos (by simpa using h1) ?_
          by_cases h2 : l[i] = a
          · refine ev_pos h2 ?_
            rw [show srch n a pr low high (l[i] :: l.drop (i + 1)) = false from if_neg (fun c => c.2.2.1 h2)]
            exact hbad
          · refine ev_neg h2 ?_
            rcases hp with ⟨rfl, rfl⟩ | ⟨j, hj, rfl, rfl⟩
            · refine ev_neg (by omega) ?_
              exact hgood h1 h2 (by simp)
            · refine ev_pos (by omega) ?_
              rw [show wrap64 (((j + 1 : Nat) : Int) - 1) = (j : Int) from by unfold wrap64; omega, rd_get (n := j) rfl hj]
              refine ev_pos (by omega) ?_
              refine ev_pos (by omega) ?_
              have e0 : decide (l[j + 1] > a) = true := by simp [hr]
              by_cases h3 : true = decide (l[j] > a)
              · rw [show (true == decide (l[j] > a)) = true from by rw [← h3]; rfl]
                rw [show srch n a (some (decide (l[j] > a))) low high (l[j + 1] :: l.drop (j + 1 + 1)) = false from if_neg (fun c => c.2.2.2.1 (by rw [e0, h3]))]
                exact hbad
              · rw [show (true == decide (l[j] > a)) = false from beq_eq_false_iff_ne.2 h3]
                exact hgood h1 h2 (fun c => h3 (by rw [← e0]; exact (Option.some.inj c).symm))
        · refine ev_neg (by simpa using h1) ?_
          rw [show srch n a pr low high (l[i] :: l.drop (i + 1)) = false from if_neg (fun c => h1 ⟨c.1, c.2.1⟩)]
          exact hbad
      · refine ev_neg hr ?_
        have hbad : Ev (fun k => spec_l3Search.j3 k a l low high i false true n g) false :=
          Ev.step (fun k => by rw [spec_l3Search.j3]) (ev_pos rfl (ev_some rfl))
        have hgood : 0 ≤ l[i] ∧ l[i] ≤ n - 1 → l[i] ≠ a → pr ≠ some (decide (l[i] > a)) → Ev (fun k => spec_l3Search.j3 k a l low high i false false n g) (srch n a pr low high (l[i] :: l.drop (i + 1))) := by
          intro h1 h2 h3
          refine Ev.step (fun k => by rw [spec_l3Search.j3]) ?_
          refine ev_neg (by simp) ?_
          rw [hrd]
          unfold srch
          refine ev_neg (by simp) ?_
          refine ev_pos (by omega) ?_
          refine ev_pos (by omega) ?_
          by_cases hh : l[i] ≥ low
          · rw [decide_eq_true hh]
            rw [if_neg (fun c => by have := c.2.2.2.2.2 hr; omega)]
            exact Ev.step (fun k => by rw [spec_l3Search.j4]) (ev_pos rfl (ev_some rfl))
          · rw [decide_eq_false hh]
            refine Ev.step (fun k => by rw [spec_l3Search.j4]) ?_
            refine ev_neg (by simp) ?_
            refine ev_neg (by simp) ?_
            refine ev_pos (by omega) ?_
            refine ev_pos (by omega) ?_
            rw [hrd, w64 (x := (i : Int) + 1) (by omega) (by omega), if_pos ⟨h1.1, h1.2, h2, h3, fun h => absurd h hr, fun _ => by omega⟩, if_neg hr, if_neg hr]
            exact ih (i + 1) _ l[i] high (by omega) (.inr ⟨i, hi, rfl, rfl⟩)
        by_cases h1 : 0 ≤ l[i] ∧ l[i] ≤ n - 1
        · refine ev_pos (by simpa using h1) ?_
          by_cases h2 : l[i] = a
          · refine ev_pos h2 ?_
            rw [show srch n a pr low high (l[i] :: l.drop (i + 1)) = false from if_neg (fun c => c.2.2.1 h2)]
            exact hbad
          · refine ev_neg h2 ?_
            rcases hp with ⟨rfl, rfl⟩ | ⟨j, hj, rfl, rfl⟩
            · refine ev_neg (by omega) ?_
              exact hgood h1 h2 (by simp)
            · refine ev_pos (by omega) ?_
              rw [show wrap64 (((j + 1 : Nat) : Int) - 1) = (j : Int) from by unfold wrap64; omega, rd_get (n := j) rfl hj]
              refine ev_pos (by omega) ?_
              refine ev_pos (by omega) ?_
              have e0 : decide (l[j + 1] > a) = false := by simp [hr]
              by_cases h3 : false = decide (l[j] > a)
              · rw [show (false == decide (l[j] > a)) = true from by rw [← h3]; rfl]
                rw [show srch n a (some (decide (l[j] > a))) low high (l[j + 1] :: l.drop (j + 1 + 1)) = false from if_neg (fun c => c.2.2.2.1 (by rw [e0, h3]))]
                exact hbad
              · rw [show (false == decide (l[j] > a)) = false from beq_eq_false_iff_ne.2 h3]
                exact hgood h1 h2 (fun c => h3 (by rw [← e0]; exact (Option.some.inj c).symm))
        · refine ev_neg (by simpa using h1) ?_
          rw [show srch n a pr low high (l[i] :: l.drop (i + 1)) = false from if_neg (fun c => h1 ⟨c.1, c.2.1⟩)]
          exact hbad
  unfold spec_l3Search.f
  exact main l.length 0 none a a (by omega) (.inl ⟨rfl, rfl⟩)
theorem impl_Road_isSearch.ev {n : Int} (g : Bool) {a : Int} (l : List Int) (hn : 2 ≤ n ∧ n ≤ 24) (ha : 0 ≤ a ∧ a ≤ n - 1) (hl : l.length ≤ 35184372088832) : Ev (fun k => impl_Road_isSearch.f k n g a l) (srch n a none a a l) := by
  have main : ∀ (d i : Nat) (pr : Option Bool) (low high : Int), (l.all fun x => decide (0 ≤ x ∧ x ≤ n - 1)) = true → i + d = l.length → low ≤ a → a ≤ high → (i = 0 ∧ pr = none ∨ ∃ j, ∃ h : j < l.length, i = j + 1 ∧ pr = some (decide (l[j] > a)) ∧ l[j] ≠ a) →
      Ev (fun k => impl_Road_isSearch.l0 k a l low high l l.length i n g) (srch n a pr low high (l.drop i)) := by
    intro d
    induction d with
    | zero =>
      intro i pr low high _ e _ _ _
      refine Ev.step (fun k => by rw [impl_Road_isSearch.l0]) ?_
      refine ev_neg (by omega) ?_
      rw [List.drop_eq_nil_of_le (by omega), w64 (x := n - 1) (by omega) (by omega)]
      unfold srch
      by_cases h : low = 0
      · refine ev_pos h (ev_some ?_)
        rw [decide_eq_true h, Bool.true_and]
        rfl
      · refine ev_neg h (ev_some ?_)
        rw [decide_eq_false h, Bool.false_and]
    | succ d ih =>
      intro i pr low high hall e hlo hhi hp
      have hi : i < l.length := by omega
      have hrd : rd l i = l[i] := rd_get rfl hi
      have h1 := in_of_all hall hi
      refine Ev.step (fun k => by rw [impl_Road_isSearch.l0]) ?_
      refine ev_pos (by omega) ?_
      refine ev_pos (by omega) ?_
      refine ev_pos (by omega) ?_
      have hbad : Ev (fun k => impl_Road_isSearch.j2 k a l low high l[i] l l.length i true n g) false :=
        Ev.step (fun k => by rw [impl_Road_isSearch.j2]) (ev_pos rfl (ev_some rfl))
      have hgood : l[i] ≠ a → pr ≠ some (decide (l[i] > a)) → Ev (fun k => impl_Road_isSearch.j2 k a l low high l[i] l l.length i false n g) (srch n a pr low high (l[i] :: l.drop (i + 1))) := by
        intro h2 h3
        refine Ev.step (fun k => by rw [impl_Road_isSearch.j2]) ?_
        refine ev_neg (by simp) ?_
        rw [w64 (x := (i : Int) + 1) (by omega) (by omega), mn_eq, mx_eq]
        unfold srch
        by_cases hr : l[i] > a
        · refine ev_pos (by omega) ?_
          by_cases hh : l[i] ≤ high
          · refine ev_pos hh ?_
            rw [if_neg (fun c => by have := c.2.2.2.2.1 hr; omega)]
            exact ev_some rfl
          · refine ev_neg hh ?_
            rw [if_pos ⟨h1.1, h1.2, h2, h3, fun _ => by omega, fun h => absurd hr h⟩, if_pos hr, if_pos hr, Int.min_eq_left (by omega), Int.max_eq_right (by omega)]
            exact ih (i + 1) _ low l[i] hall (by omega) (by omega) (by omega) (.inr ⟨i, hi, rfl, rfl, h2⟩)
        · by_cases hh : l[i] ≥ low
          · refine ev_pos hh ?_
            refine ev_pos (by omega) ?_
            rw [if_neg (fun c => by have := c.2.2.2.2.2 hr; omega)]
            exact ev_some rfl
          · refine ev_neg hh ?_
            rw [if_pos ⟨h1.1, h1.2, h2, h3, fun h => absurd h hr, fun _ => by omega⟩, if_neg hr, if_neg hr, Int.min_eq_right (by omega), Int.max_eq_left (by omega)]
            exact ih (i + 1) _ l[i] high hall (by omega) (by omega) (by omega) (.inr ⟨i, hi, rfl, rfl, h2⟩)
      rw [hrd, List.drop_eq_getElem_cons hi]
      by_cases h2 : l[i] = a
      · refine ev_pos h2 ?_
        rw [show srch n a pr low high (l[i] :: l.drop (i + 1)) = false from if_neg (fun c => c.2.2.1 h2)]
        exact hbad
      · refine ev_neg h2 ?_
        rcases hp with ⟨rfl, rfl⟩ | ⟨j, hj, rfl, rfl, hja⟩
        · refine ev_neg (by omega) ?_
          exact hgood h2 (by simp)
        · refine ev_pos (by omega) ?_
          rw [show wrap64 (((j + 1 : Nat) : Int) - 1) = (j : Int) from by unfold wrap64; omega, rd_get (n := j) rfl hj]
          refine ev_pos (by omega) ?_
          refine ev_pos (by omega) ?_
          have e1 : decide (l[j + 1] < a) = !decide (l[j + 1] > a) := by by_cases h : l[j + 1] > a <;> simp [h] <;> omega
          have e2 : decide (l[j] < a) = !decide (l[j] > a) := by by_cases h : l[j] > a <;> simp [h] <;> omega
          rw [e1, e2]
          by_cases h3 : decide (l[j + 1] > a) = decide (l[j] > a)
          · rw [show ((!decide (l[j + 1] > a)) == !decide (l[j] > a)) = true from by rw [h3]; simp]
            rw [show srch n a (some (decide (l[j] > a))) low high (l[j + 1] :: l.drop (j + 1 + 1)) = false from if_neg (fun c => c.2.2.2.1 (by rw [h3]))]
            exact hbad
          · rw [show ((!decide (l[j + 1] > a)) == !decide (l[j] > a)) = false from by revert h3; cases decide (l[j + 1] > a) <;> cases decide (l[j] > a) <;> simp]
            exact hgood h2 (fun c => h3 (Option.some.inj c).symm)
  unfold impl_Road_isSearch.f
  by_cases h0 : l.length = 0
  · obtain rfl := List.eq_nil_of_length_eq_zero h0
    refine ev_pos (by simp) ?_
    refine Ev.step (fun k => by rw [impl_Road_isSearch.j0]) ?_
    refine ev_pos rfl (ev_some ?_)
    unfold srch
    simp
    omega
  · refine ev_neg (by omega) ?_
    refine Ev.bind (impl_Road_has.ev g l hn hl) ?_
    refine Ev.step (fun k => by rw [impl_Road_isSearch.j0]) ?_
    by_cases hall : (l.all fun x => decide (0 ≤ x ∧ x ≤ n - 1)) = true
    · rw [hall]
      refine ev_neg (by simp) ?_
      exact main l.length 0 none a a hall (by omega) (by omega) (by omega) (.inl ⟨rfl, rfl⟩)
    · have : srch n a none a a l = false := by
        rw [← Bool.not_eq_true]
        exact fun h => hall (srch_all h)
      rw [this]
      rw [Bool.not_eq_true] at hall
      rw [hall]
      exact ev_pos rfl (ev_some rfl)
theorem spec_l3Good.ev (n : Int) (g : Bool) (a : Int) (l : List Int) (hl : l.length ≤ 35184372088832) : Ev (fun k => spec_l3Good.f k n g a l) (okSearch n g a l) := by
  unfold spec_l3Good.f okSearch
  rw [spec_l3Line.at]
  simp only [Option.bind_some]
  by_cases h : okStart n g a = true
  · have hb := okStart_b h
    refine ev_pos h ?_
    rw [h, Bool.true_and]
    exact Ev.bind (spec_l3Search.ev g l ⟨hb.2.2.1, hb.2.2.2.1⟩ ⟨hb.2.2.2.2.1, hb.2.2.2.2.2⟩ hl) (ev_some rfl)
  · refine ev_neg h (ev_some ?_)
    rw [Bool.not_eq_true] at h
    rw [h, Bool.false_and]
theorem impl_isSought.ev (n : Int) (g : Bool) (a : Int) (l : List Int) (hl : l.length ≤ 35184372088832) : Ev (fun k => impl_isSought.f k n g a l) (okSearch n g a l) := by
  unfold impl_isSought.f okSearch
  refine Ev.bind (impl_isStart.ev n g a) ?_
  by_cases h : okStart n g a = true
  · have hb := okStart_b h
    refine ev_pos h ?_
    rw [h, Bool.true_and]
    exact Ev.bind (impl_Road_isSearch.ev g l ⟨hb.2.2.1, hb.2.2.2.1⟩ ⟨hb.2.2.2.2.1, hb.2.2.2.2.2⟩ hl) (ev_some rfl)
  · refine ev_neg h (ev_some ?_)
    rw [Bool.not_eq_true] at h
    rw [h, Bool.false_and]
/-- Unit steps from a place on. -/
def way (s : Int) : Int → Nat → List Int
  | _, 0 => []
  | a, m + 1 => (a + s) :: way s (a + s) m
theorem way_length (s : Int) : ∀ (m : Nat) (a : Int), (way s a m).length = m
  | 0, _ => rfl
  | m + 1, a => by rw [way, List.length_cons, way_length s m]
theorem straight_line {n : Int} (hn : 2 ≤ n ∧ n ≤ 24) {s tgt : Int} (hs : s = 1 ∨ s = -1) (hto : 0 ≤ tgt ∧ tgt ≤ n - 1) : ∀ (m : Nat) (at_ : Int) (x : List Int), (s = 1 ∧ tgt = at_ + m ∨ s = -1 ∧ tgt = at_ - m) → 0 ≤ at_ → at_ ≤ n - 1 → x.length + m ≤ 35184372088 →
    Ev (fun k => impl_Road_straight.l0 k x tgt at_ s n false) (x ++ way s at_ m) := by
  intro m
  induction m with
  | zero =>
    intro at_ x e h0 h1 hx
    refine Ev.step (fun k => by rw [impl_Road_straight.l0]) (ev_pos (by omega) (ev_some ?_))
    simp [way]
  | succ m ih =>
    intro at_ x e h0 h1 hx
    refine Ev.step (fun k => by rw [impl_Road_straight.l0]) (ev_neg (by omega) (ev_neg (by omega) (ev_pos (by omega) ?_)))
    have e1 : Int.tmod (wrap64 (wrap64 (at_ + s) + n)) n = at_ + s := by
      rw [w64 (x := at_ + s) (by omega) (by omega), w64 (by omega) (by omega), Int.tmod_eq_emod_of_nonneg (by omega), Int.add_emod_right, Int.emod_eq_of_lt (by omega) (by omega)]
    rw [e1, way]
    have := ih (at_ + s) (x ++ [at_ + s]) (by omega) (by omega) (by omega) (by simp; omega)
    simpa using this
/-- The way to a place: the steps and how many. -/
theorem straight_ev {n : Int} (hn : 2 ≤ n ∧ n ≤ 24) {tgt a : Int} (hto : 0 ≤ tgt ∧ tgt ≤ n - 1) (ha : 0 ≤ a ∧ a ≤ n - 1) (l : List Int) (hl : l.length ≤ 351843720) (h0 : l ≠ []) (hlast : l.getLast h0 = a) :
    ∃ (s : Int) (m : Nat), (s = 1 ∧ tgt = a + m ∨ s = -1 ∧ tgt = a - m) ∧ Ev (fun k => impl_Road_straight.f k n false l tgt) (l ++ way s a m) := by
  have hp : 0 < l.length := List.length_pos_iff.2 h0
  have e0 : wrap64 ((l.length : Int) - 1) = ((l.length - 1 : Nat) : Int) := by unfold wrap64; omega
  have e1 : rd l ((l.length - 1 : Nat) : Int) = a := by
    rw [rd_get rfl (by omega), ← List.getLast_eq_getElem (h := h0)]
    exact hlast
  unfold impl_Road_straight.f
  rw [e0, e1, w64 (x := tgt - a) (by omega) (by omega)]
  by_cases c : tgt - a < 0
  · refine ⟨-1, (a - tgt).toNat, .inr ⟨rfl, by omega⟩, ?_⟩
    refine ev_pos (by omega) (ev_pos (by omega) (ev_neg (by simp) (ev_pos c ?_)))
    refine Ev.step (fun k => by rw [impl_Road_straight.j0]) ?_
    exact straight_line hn (.inr rfl) hto _ _ _ (.inr ⟨rfl, by omega⟩) ha.1 ha.2 (by omega)
  · refine ⟨1, (tgt - a).toNat, .inl ⟨rfl, by omega⟩, ?_⟩
    refine ev_pos (by omega) (ev_pos (by omega) (ev_neg (by simp) (ev_neg c ?_)))
    refine Ev.step (fun k => by rw [impl_Road_straight.j0]) ?_
    exact straight_line hn (.inl rfl) hto _ _ _ (.inl ⟨rfl, by omega⟩) ha.1 ha.2 (by omega)
theorem rd_set (l : List Int) {i q v : Int} (hi : 0 ≤ i ∧ i < l.length) (hq : 0 ≤ q) : rd (l.set i.toNat v) q = if q = i then v else rd l q := by
  unfold rd
  rw [List.getD_eq_getElem?_getD, List.getD_eq_getElem?_getD]
  by_cases c : q = i
  · subst c
    rw [if_pos rfl, List.getElem?_set_self (by omega)]
    rfl
  · rw [if_neg c, List.getElem?_set_ne (by omega)]
theorem rd_ext {a b : List Int} (hl : a.length = b.length) (h : ∀ q : Int, 0 ≤ q → q < a.length → rd a q = rd b q) : a = b := by
  refine List.ext_getElem hl fun j h1 h2 => ?_
  have := h (j : Int) (by omega) (by omega)
  rwa [rd_get rfl h1, rd_get rfl h2] at this
theorem srch_cons {n a : Int} {pr : Option Bool} {low high p : Int} {t : List Int} (h : srch n a pr low high (p :: t) = true) :
    0 ≤ p ∧ p ≤ n - 1 ∧ (p > a → p > high) ∧ (¬ p > a → p < low) ∧ srch n a (some (decide (p > a))) (if p > a then low else p) (if p > a then p else high) t = true := by
  unfold srch at h
  by_cases c : 0 ≤ p ∧ p ≤ n - 1 ∧ p ≠ a ∧ pr ≠ some (decide (p > a)) ∧ (p > a → p > high) ∧ (¬ p > a → p < low)
  · rw [if_pos c] at h
    exact ⟨c.1, c.2.1, c.2.2.2.2.1, c.2.2.2.2.2, h⟩
  · rw [if_neg c] at h
    cases h
theorem srch_nil {n a : Int} {pr : Option Bool} {low high : Int} (h : srch n a pr low high [] = true) : low = 0 ∧ high = n - 1 := by
  unfold srch at h
  simpa using h
theorem way_end {s : Int} : ∀ (m : Nat) (a tgt : Int), (s = 1 ∧ tgt = a + m ∨ s = -1 ∧ tgt = a - m) → ∃ pre, a :: way s a m = pre ++ [tgt]
  | 0, a, tgt, h => ⟨[], by simp [way]; omega⟩
  | m + 1, a, tgt, h => by
    obtain ⟨pre, e⟩ := way_end (s := s) m (a + s) tgt (by omega)
    exact ⟨a :: pre, by rw [way, e]; rfl⟩
theorem rd_last (pre : List Int) (a : Int) (hl : pre.length ≤ 1000000000) : wrap64 (((pre ++ [a]).length : Int) - 1) = (pre.length : Int) ∧ rd (pre ++ [a]) pre.length = a := by
  refine ⟨by rw [List.length_append, List.length_singleton]; unfold wrap64; omega, ?_⟩
  rw [rd_get rfl (by simp)]
  simp
theorem spec_walk.up (l : List Int) (i : Nat) (hi : i < l.length) (p : Int) (hp : rd l i = p) (hp2 : -100 ≤ p ∧ p ≤ 100) (r : List Int × Bool) : ∀ (d : Nat) (a : Int) (pre : List Int), p = a + d → -100 ≤ a → pre.length + d ≤ 1000000000 →
    Ev (fun k => spec_SearchWalk.l2 k l ((pre ++ [a]) ++ way 1 a d) i) r → Ev (fun k => spec_SearchWalk.l1 k l (pre ++ [a]) i) r := by
  intro d
  induction d with
  | zero =>
    intro a pre e h0 hl hr
    have hh := rd_last pre a (by omega)
    refine Ev.step (fun k => by rw [spec_SearchWalk.l1]) ?_
    rw [hh.1, hh.2, hp]
    refine ev_pos (by omega) (ev_pos (by simp; omega) (ev_pos (by omega) (ev_pos (by omega) (ev_neg (by omega) ?_))))
    simpa [way] using hr
  | succ d ih =>
    intro a pre e h0 hl hr
    have hh := rd_last pre a (by omega)
    refine Ev.step (fun k => by rw [spec_SearchWalk.l1]) ?_
    rw [hh.1, hh.2, hp, w64 (x := a + 1) (by omega) (by omega)]
    refine ev_pos (by omega) (ev_pos (by simp; omega) (ev_pos (by omega) (ev_pos (by omega) (ev_pos (by omega) (ev_pos (by simp; omega) ?_)))))
    refine ih (a + 1) (pre ++ [a]) (by omega) (by omega) (by simp; omega) ?_
    rw [way] at hr
    simpa using hr
theorem spec_walk.down (l : List Int) (i : Nat) (hl : l.length ≤ 1048576) (hi : i < l.length) (p : Int) (hp : rd l i = p) (hp2 : -100 ≤ p ∧ p ≤ 100) (r : List Int × Bool) : ∀ (d : Nat) (a : Int) (pre : List Int), p = a - d → a ≤ 100 → pre.length + d ≤ 1000000000 →
    Ev (fun k => spec_SearchWalk.l0 k l ((pre ++ [a]) ++ way (-1) a d) ((i + 1 : Nat) : Int)) r → Ev (fun k => spec_SearchWalk.l2 k l (pre ++ [a]) i) r := by
  intro d
  induction d with
  | zero =>
    intro a pre e h0 hl hr
    have hh := rd_last pre a (by omega)
    refine Ev.step (fun k => by rw [spec_SearchWalk.l2]) ?_
    rw [hh.1, hh.2, hp, w64 (x := (i : Int) + 1) (by omega) (by omega)]
    refine ev_pos (by omega) (ev_pos (by simp; omega) (ev_pos (by omega) (ev_pos (by omega) (ev_neg (by omega) ?_))))
    simpa [way] using hr
  | succ d ih =>
    intro a pre e h0 hl hr
    have hh := rd_last pre a (by omega)
    refine Ev.step (fun k => by rw [spec_SearchWalk.l2]) ?_
    rw [hh.1, hh.2, hp, w64 (x := a - 1) (by omega) (by omega)]
    refine ev_pos (by omega) (ev_pos (by simp; omega) (ev_pos (by omega) (ev_pos (by omega) (ev_pos (by omega) (ev_pos (by simp; omega) ?_)))))
    have := ih (a - 1) (pre ++ [a]) (by omega) (by omega) (by simp; omega)
    refine this ?_
    rw [way] at hr
    rw [show a + -1 = a - 1 from by omega] at hr
    simpa using hr
theorem walk_both {n : Int} (l : List Int) (hl : l.length ≤ 1048576) (hn : 2 ≤ n ∧ n ≤ 24) (hall : (l.all fun x => decide (0 ≤ x ∧ x ≤ n - 1)) = true) :
    ∀ (d i : Nat) (a : Int) (pre : List Int), i + d = l.length → 0 ≤ a ∧ a ≤ n - 1 → pre.length ≤ 24 * i →
      ∃ w : List Int, Ev (fun k => spec_SearchWalk.l0 k l (pre ++ [a]) i) (if (w.length : Int) > 61 then ([], false) else (w, true)) ∧ Ev (fun k => impl_Road_searchWalk.l0 k (pre ++ [a]) l l.length i n false) w := by
  intro d
  induction d with
  | zero =>
    intro i a pre e ha hpre
    refine ⟨pre ++ [a], Ev.step (fun k => by rw [spec_SearchWalk.l0]) (ev_neg (by omega) ?_), Ev.step (fun k => by rw [impl_Road_searchWalk.l0]) (ev_neg (by omega) (ev_some rfl))⟩
    by_cases c : ((pre ++ [a]).length : Int) > 61
    · exact ev_pos c (ev_some (if_pos c).symm)
    · exact ev_neg c (ev_some (if_neg c).symm)
  | succ d ih =>
    intro i a pre e ha hpre
    have hi : i < l.length := by omega
    have hp := in_of_all hall hi
    have hrd : rd l i = l[i] := rd_get rfl hi
    generalize l[i] = p at *
    obtain ⟨s, m, hsm, hway⟩ := straight_ev hn hp ha (pre ++ [a]) (by simp; omega) (by simp) (by simp)
    obtain ⟨pre', e'⟩ := way_end (s := s) m a p hsm
    have e2 : (pre ++ [a]) ++ way s a m = (pre ++ pre') ++ [p] := by
      rw [List.append_assoc, List.append_assoc, ← e']
      rfl
    have e3 : pre'.length = m := by
      have := congrArg List.length e'
      rw [List.length_cons, way_length, List.length_append, List.length_singleton] at this
      omega
    obtain ⟨w, w1, w2⟩ := ih (i + 1) p (pre ++ pre') (by omega) hp (by rw [List.length_append]; omega)
    refine ⟨w, ?_, ?_⟩
    · refine Ev.step (fun k => by rw [spec_SearchWalk.l0]) (ev_pos (by omega) ?_)
      rcases hsm with ⟨rfl, hm⟩ | ⟨rfl, hm⟩
      · refine spec_walk.up l i hi p hrd (by omega) _ m a pre hm (by omega) (by omega) ?_
        rw [e2]
        have := spec_walk.down l i hl hi p hrd (by omega) (if (w.length : Int) > 61 then ([], false) else (w, true)) 0 p (pre ++ pre') (by omega) (by omega) (by rw [List.length_append]; omega)
        refine this ?_
        simpa [way] using w1
      · have := spec_walk.up l i hi p hrd (by omega) (if (w.length : Int) > 61 then ([], false) else (w, true))
        by_cases m0 : m = 0
        · subst m0
          refine this 0 a pre (by omega) (by omega) (by omega) ?_
          have h2 := spec_walk.down l i hl hi p hrd (by omega) (if (w.length : Int) > 61 then ([], false) else (w, true)) 0 a pre (by omega) (by omega) (by omega)
          rw [way, List.append_nil]
          refine h2 ?_
          rw [e2]
          exact w1
        · have hh := rd_last pre a (by omega)
          refine Ev.step (fun k => by rw [spec_SearchWalk.l1]) ?_
          rw [hh.1, hh.2, hrd]
          refine ev_pos (by omega) (ev_pos (by simp; omega) (ev_pos (by omega) (ev_pos (by omega) (ev_neg (by omega) ?_))))
          refine spec_walk.down l i hl hi p hrd (by omega) _ m a pre hm (by omega) (by omega) ?_
          rw [e2]
          exact w1
    · refine Ev.step (fun k => by rw [impl_Road_searchWalk.l0]) (ev_pos (by omega) (ev_pos (by omega) (ev_pos (by omega) ?_)))
      rw [hrd, w64 (x := (i : Int) + 1) (by omega) (by omega)]
      refine Ev.bind hway ?_
      rw [e2]
      exact w2
theorem both (n : Int) (g : Bool) (a : Int) (l : List Int) (hl : l.length ≤ 1048576) (_ : -9223372036854775808 ≤ a) (_ : a ≤ 9223372036854775807) : ∃ r, Ev (fun k => spec_SearchWalk.f k n g a l) r ∧ Ev (fun k => impl_SearchWalk.f k n g a l) r ∧ r.1.length ≤ 1048576 := by
  unfold spec_SearchWalk.f impl_SearchWalk.f
  have hs := spec_l3Good.ev n g a l (by omega)
  have hi := impl_isSought.ev n g a l (by omega)
  by_cases h : okSearch n g a l = true
  · have h' := h
    simp only [okSearch, Bool.and_eq_true] at h'
    have hb := okStart_b h'.1
    have hg : g = false := hb.2.1
    subst hg
    obtain ⟨w, w1, w2⟩ := walk_both (n := n) l hl ⟨hb.2.2.1, hb.2.2.2.1⟩ (srch_all h'.2) l.length 0 a [] (by omega) hb.2.2.2.2 (by simp)
    refine ⟨_, Ev.bind hs (ev_pos h w1), Ev.bind hi (ev_pos h (Ev.bind (a := w) ?_ ?_)), ?_⟩
    · unfold impl_Road_searchWalk.f
      exact w2
    · by_cases c : (w.length : Int) > 61
      · exact ev_pos c (ev_some (if_pos c).symm)
      · exact ev_neg c (ev_some (if_neg c).symm)
    · by_cases c : (w.length : Int) > 61
      · rw [if_pos c]
        simp
      · rw [if_neg c]
        simp only
        omega
  · exact ⟨([], false), Ev.bind hs (ev_neg h (ev_some rfl)), Ev.bind hi (ev_neg h (ev_some rfl)), by simp⟩
theorem FnExactSearchWalk (n : Int) (g : Bool) (a : Int) (l : List Int) (_ : -9223372036854775808 ≤ n) (_ : n ≤ 9223372036854775807) (h0a : -9223372036854775808 ≤ a) (h1a : a ≤ 9223372036854775807) (_ : l.length * 8 ≤ 140737488351232) (_ : ∀ x ∈ l, (Lit.int .i64 x).wf = true) : ∃ k, laws_FnExactSearchWalk.f k n g a l = some true := by
  refine Ev.rounds (r := true) ?_
  unfold laws_FnExactSearchWalk.f
  by_cases hl0 : (l.length : Int) > 1048576
  · exact ev_pos hl0 (ev_some rfl)
  refine ev_neg hl0 ?_
  obtain ⟨r, hs, hi, hd⟩ := both n g a l (by omega) h0a h1a
  obtain ⟨r, b⟩ := r
  simp only at hd
  simp only [laws_toRoad.at, Option.bind_some]
  repeat' (first
    | with_reducible exact ev_some rfl
    | with_reducible refine Ev.bind hs ?_
    | with_reducible refine Ev.bind hi ?_
    | with_reducible refine Ev.bind (ev_const (laws_toRoad.at _ _)) ?_
    | ((with_reducible refine Ev.bind (laws_toIntS.ev _ ?h1_) ?_); (case h1_ => (first | omega | (simp only []; omega) | (simp only [marks_length]; omega))))
    | ((with_reducible refine Ev.bind (laws_eqIntS.ev _ _ ?h1_) ?_); (case h1_ => (first | omega | (simp only []; omega) | (simp only [marks_length]; omega))))
    | ((with_reducible refine Ev.bind (laws_markIntS.ev _ ?h1_ _ (by first | omega | (simp only []; omega)) (by first | omega | (simp only []; omega))) ?_); (case h1_ => (first | omega | (simp only []; omega) | (simp only [marks_length]; omega))))
    | ((with_reducible refine Ev.bind (laws_heldIntS.ev _ ?h1_ 1 (by omega) (by omega)) ?_); (case h1_ => (first | omega | (simp only []; omega) | (simp only [marks_length]; omega))))
    | ((with_reducible refine ev_pos ?h1_ ?_); (case h1_ => (first | rfl | assumption | (simp; done))))
    | ((with_reducible refine ev_neg ?h1_ ?_); (case h1_ => (first | assumption | (simp; done) | (first | omega | (simp only []; omega) | (simp only [marks_length]; omega)) | (simp; omega))))
    | (with_reducible refine Ev.step (g := fun k => laws_FnExactSearchWalk.j0 k _ _ _ _ _ _ _ _ _ _) (fun k => by rw [laws_FnExactSearchWalk.j0]) ?_)
    | (with_reducible refine Ev.step (g := fun k => laws_FnExactSearchWalk.j1 k _ _ _ _ _ _ _ _) (fun k => by rw [laws_FnExactSearchWalk.j1]) ?_)
    | (with_reducible refine Ev.step (g := fun k => laws_FnExactSearchWalk.j2 k _ _ _) (fun k => by rw [laws_FnExactSearchWalk.j2]) ?_)
    )

end Go.Proofs.Ytdinmmnmjiofbaa.Pure
