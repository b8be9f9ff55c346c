/- The plain side of the law FnBestSearch: the printed law, whatever its input (within the form's bounds), comes to true. No other condition. -/
import Derived.Test.YtogflbocmiogpaaPFnBestSearchx22
import Derived.Test.YtogflbocmiogpaaBase
import Derived.Test.YtogflbocmiogpaaMath
namespace Go.Proofs.Ytogflbocmiogpaa.Pure
open Go.RowKit Go.Proofs.Ytogflbocmiogpaa.PFnBestSearch Go.Proofs.YtogflbocmiogpaaW.PrintWords Go.Proofs.YtogflbocmiogpaaW.PrintLast Go.Proofs.YtogflbocmiogpaaW.PrintMore Go.Proofs.Ytogflbocmiogpaa.Base Go.Proofs.Ytogflbocmiogpaa.M
set_option linter.unusedVariables false
set_option linter.unusedSimpArgs false
set_option maxHeartbeats 4000000

theorem vInts_self (l : List Int) (hl : l.length ≤ 1048576) : Ev (fun k => Cg.f k l l) true := by
  have main : ∀ (d i : Nat), i + d = l.length → Ev (fun k => Cg.l0 k l l i) true := by
    intro d
    induction d with
    | zero => exact fun i e => Ev.step (fun k => by rw [Cg.l0]) (Bu (by omega) (Cv rfl))
    | succ d ih =>
      intro i e
      refine Ev.step (fun k => by rw [Cg.l0]) (Av (by omega) (Av (by omega) (Av (by omega) (Av rfl ?_))))
      rw [show wrap64 ((i : Int) + 1) = ((i + 1 : Nat) : Int) from by unfold wrap64; omega]
      exact ih (i + 1) (by omega)
  unfold Cg.f
  exact Av rfl (main l.length 0 (by omega))
theorem vCut_tot (l : List Int) (hl8 : ∀ x ∈ l, 0 ≤ x ∧ x ≤ 255) (hl : l.length ≤ 65536) (m : Int) (hm : 0 ≤ m ∧ m ≤ 2) : ∃ r, laws_vCut.f l m = some r ∧ ∀ x ∈ r, 0 ≤ x ∧ x ≤ 255 := by
  unfold laws_vCut.f
  by_cases c : m > (l.length : Int)
  · rw [if_pos c]
    simp only [Option.bind_some]
    rw [if_pos (by omega), if_pos (by omega), if_pos (by simp), if_pos (by simp)]
    refine ⟨_, rfl, fun x hx => ?_⟩
    simp at hx
    omega
  · rw [if_neg c]
    simp only [Option.bind_some, List.nil_append]
    have hd : (l.drop m.toNat).length ≤ 65536 := by rw [List.length_drop]; omega
    rw [if_pos (by omega), if_pos (by omega), if_pos (by simp only [List.length_nil]; omega), if_pos (by omega)]
    refine ⟨_, rfl, fun x hx => ?_⟩
    rcases List.mem_append.1 hx with hx | hx
    · exact hl8 x (List.mem_of_mem_drop hx)
    · simp at hx
      omega
theorem Eu.at (a b c : Int) : Eu.f a b c = some (decide (b ≤ a ∧ a ≤ c)) := by
  unfold Eu.f
  by_cases h : a ≥ b
  · rw [if_pos h]
    simp [show b ≤ a from h]
  · rw [if_neg h]
    simp [show ¬ b ≤ a from h]
theorem Fe.at (a b c : Int) : Fe.f a b c = some (decide (b ≤ a ∧ a ≤ c)) := by
  unfold Fe.f
  by_cases h : a ≥ b
  · rw [if_pos h]
    simp [show b ≤ a from h]
  · rw [if_neg h]
    simp [show ¬ b ≤ a from h]
theorem Fq.at (n : Int) (g : Bool) : Fq.f n g = some (okRoad n g) := by
  unfold Fq.f okRoad
  rw [Eu.at]
  simp only [Option.bind_some]
  by_cases h : 2 ≤ n ∧ n ≤ 24
  · rw [if_pos (by simpa using h)]
    cases g with
    | false => simp [h]
    | true =>
      simp only [if_true, h, true_and, Option.some.injEq]
      exact decide_eq_decide.2 (by simp; omega)
  · rw [if_neg (by simpa using h)]
    simp only [Option.some.injEq]
    exact (decide_eq_false (fun h' => h ⟨h'.1, h'.2.1⟩)).symm
theorem Ew.at (n : Int) (g : Bool) : Ew.f n g = some (okRoad n g) := by
  unfold Ew.f okRoad
  rw [Fe.at]
  simp only [Option.bind_some]
  by_cases h : 2 ≤ n ∧ n ≤ 24
  · rw [if_pos (by simpa using h)]
    cases g with
    | false => simp [h]
    | true =>
      simp only [if_true, h, true_and, Option.some.injEq]
      exact decide_eq_decide.2 (by simp)
  · rw [if_neg (by simpa using h)]
    simp only [Option.some.injEq]
    exact (decide_eq_false (fun h' => h ⟨h'.1, h'.2.1⟩)).symm
theorem Ec.at (a b : Int) : Ec.f a b = some (max a b) := by
  unfold Ec.f
  by_cases h : a > b
  · rw [if_pos h, Int.max_eq_left (by omega)]
  · rw [if_neg h, Int.max_eq_right (by omega)]
theorem Et.at (a b : Int) : Et.f a b = some (min a b) := by
  unfold Et.f
  by_cases h : a < b
  · rw [if_pos h, Int.min_eq_left (by omega)]
  · rw [if_neg h, Int.min_eq_right (by omega)]
theorem Fz.at {n : Int} (g : Bool) {a b : Int} (hn : 2 ≤ n ∧ n ≤ 24) (ha : 0 ≤ a ∧ a ≤ n - 1) (hb : 0 ≤ b ∧ b ≤ n - 1) : Fz.f n g a b = some (gap n g a b) := by
  unfold Fz.f gap
  rw [w64 (x := a - b) (by omega) (by omega), w64 (x := b - a) (by omega) (by omega), Ec.at]
  simp only [Option.bind_some]
  cases g with
  | false => simp
  | true => rw [if_pos rfl, if_pos rfl, w64 (by omega) (by omega), Et.at]; rfl
theorem impl_Road_gap.at {n : Int} (g : Bool) {a b : Int} (hn : 2 ≤ n ∧ n ≤ 24) (ha : 0 ≤ a ∧ a ≤ n - 1) (hb : 0 ≤ b ∧ b ≤ n - 1) : impl_Road_gap.f n g a b = some (gap n g a b) := by
  unfold impl_Road_gap.f gap
  rw [w64 (x := a - b) (by omega) (by omega), w64 (x := b - a) (by omega) (by omega)]
  simp only [mx_eq, mn_eq]
  cases g with
  | false => simp
  | true => rw [if_pos rfl, if_pos rfl, w64 (by omega) (by omega)]
theorem Cs.ev (l : List Int) (lo hi : Int) (hl : l.length ≤ 35184372088832) : Ev (fun k => Cs.f k l lo hi) (l.all fun x => decide (lo ≤ x ∧ x ≤ hi)) := by
  have main : ∀ (d i : Nat), i + d = l.length → Ev (fun k => Cs.l0 k lo hi l l.length i) ((l.drop i).all fun x => decide (lo ≤ x ∧ x ≤ hi)) := by
    intro d
    induction d with
    | zero =>
      intro i e
      refine Ev.step (fun k => by rw [Cs.l0]) ?_
      refine Bu (by omega) (Cv ?_)
      rw [List.drop_eq_nil_of_le (by omega)]
      rfl
    | succ d ih =>
      intro i e
      refine Ev.step (fun k => by rw [Cs.l0]) ?_
      refine Av (by omega) ?_
      refine Av (by omega) ?_
      refine Av (by omega) ?_
      rw [w64 (x := (i : Int) + 1) (by omega) (by omega), rd_get rfl (by omega), List.drop_eq_getElem_cons (by omega), List.all_cons, Fe.at]
      simp only [Option.bind_some]
      by_cases h : lo ≤ l[i] ∧ l[i] ≤ hi
      · refine Av (by simpa using h) ?_
        rw [decide_eq_true h, Bool.true_and]
        exact ih (i + 1) (by omega)
      · refine Bu (by simpa using h) (Cv ?_)
        rw [decide_eq_false h, Bool.false_and]
  unfold Cs.f
  exact main l.length 0 (by omega)
theorem Dm.ev {n : Int} (g : Bool) (l : List Int) (hn : 2 ≤ n ∧ n ≤ 24) (hl : l.length ≤ 35184372088832) : Ev (fun k => Dm.f k n g l) (l.all fun x => decide (0 ≤ x ∧ x ≤ n - 1)) := by
  unfold Dm.f
  rw [w64 (x := n - 1) (by omega) (by omega)]
  exact Ev.bind (Cs.ev l 0 (n - 1) hl) (Cv rfl)
theorem Ea.at (n : Int) (g : Bool) (a : Int) : Ea.f n g a = some (okStart n g a) := by
  unfold Ea.f okStart
  rw [Fq.at]
  simp only [Option.bind_some]
  by_cases h : okRoad n g = true
  · have hb := okRoad_b h
    rw [if_pos h, h]
    cases g with
    | false => rw [if_neg (by simp), w64 (by omega) (by omega), Eu.at]; rfl
    | true => rfl
  · rw [if_neg h]
    rw [Bool.not_eq_true] at h
    rw [h]
    rfl
theorem Co.ev (n : Int) (g : Bool) (a : Int) : Ev (fun k => Co.f k n g a) (okStart n g a) := by
  unfold Co.f okStart
  rw [Ew.at]
  simp only [Option.bind_some]
  by_cases h : okRoad n g = true
  · have hb := okRoad_b h
    refine Av h ?_
    rw [h]
    cases g with
    | false =>
      refine Bu (by simp) ?_
      refine Ev.bind (Dm.ev false [a] ⟨hb.1, hb.2.1⟩ (by simp)) (Cv ?_)
      simp
    | true => exact Av rfl (Cv rfl)
  · refine Bu h (Cv ?_)
    rw [Bool.not_eq_true] at h
    rw [h]
    rfl
theorem Ay.ev {n : Int} (g : Bool) {a : Int} (l : List Int) (hn : 2 ≤ n ∧ n ≤ 24) (ha : 0 ≤ a ∧ a ≤ n - 1) (hl : l.length ≤ 35184372088832) : Ev (fun k => Ay.f k n g a l) (srch n a none a a l) := by
  have main : ∀ (d i : Nat) (pr : Option Bool) (low high : Int), i + d = l.length → (i = 0 ∧ pr = none ∨ ∃ j, ∃ h : j < l.length, i = j + 1 ∧ pr = some (decide (l[j] > a))) →
      Ev (fun k => Ay.l0 k a l low high i n g) (srch n a pr low high (l.drop i)) := by
    intro d
    induction d with
    | zero =>
      intro i pr low high e _
      refine Ev.step (fun k => by rw [Ay.l0]) ?_
      refine Bu (by omega) ?_
      rw [List.drop_eq_nil_of_le (by omega), w64 (x := n - 1) (by omega) (by omega)]
      unfold srch
      by_cases h : low = 0
      · refine Av h (Cv ?_)
        rw [decide_eq_true h, Bool.true_and]
        rfl
      · refine Bu h (Cv ?_)
        rw [decide_eq_false h, Bool.false_and]
    | succ d ih =>
      intro i pr low high e hp
      refine Ev.step (fun k => by rw [Ay.l0]) ?_
      refine Av (by omega) ?_
      refine Av (by omega) ?_
      have hi : i < l.length := by omega
      have hrd : rd l i = l[i] := rd_get rfl hi
      rw [w64 (x := n - 1) (by omega) (by omega), Eu.at, hrd, List.drop_eq_getElem_cons (by omega)]
      simp only [Option.bind_some]
      by_cases hr : l[i] > a
      · refine Av hr ?_
        have hbad : Ev (fun k => Ay.j1 k a l low high i true true n g) false :=
          Ev.step (fun k => by rw [Ay.j1]) (Av rfl (Cv rfl))
        have hgood : 0 ≤ l[i] ∧ l[i] ≤ n - 1 → l[i] ≠ a → pr ≠ some (decide (l[i] > a)) → Ev (fun k => Ay.j1 k a l low high i true false n g) (srch n a pr low high (l[i] :: l.drop (i + 1))) := by
          intro h1 h2 h3
          refine Ev.step (fun k => by rw [Ay.j1]) ?_
          refine Bu (by simp) ?_
          rw [hrd]
          unfold srch
          refine Av rfl ?_
          refine Av (by omega) ?_
          refine Av (by omega) ?_
          by_cases hh : l[i] ≤ high
          · refine Av hh ?_
            rw [if_neg (fun c => by have := c.2.2.2.2.1 hr; omega)]
            exact Ev.step (fun k => by rw [Ay.j2]) (Av rfl (Cv rfl))
          · refine Bu hh ?_
            refine Ev.step (fun k => by rw [Ay.j2]) ?_
            refine Bu (by simp) ?_
            refine Av rfl ?_
            refine Av (by omega) ?_
            refine Av (by omega) ?_
            rw [hrd, w64 (x := (i : Int) + 1) (by omega) (by omega), if_pos ⟨h1.1, h1.2, h2, h3, fun _ => by omega, fun h => absurd hr h⟩, if_pos hr, if_pos hr]
            exact ih (i + 1) _ low l[i] (by omega) (.inr ⟨i, hi, rfl, rfl⟩)
        by_cases h1 : 0 ≤ l[i] ∧ l[i] ≤ n - 1
        · refine Av (by simpa using h1) ?_
          by_cases h2 : l[i] = a
          · refine Av h2 ?_
            rw [show srch n a pr low high (l[i] :: l.drop (i + 1)) = false from if_neg (fun c => c.2.2.1 h2)]
            exact hbad
          · refine Bu h2 ?_
            rcases hp with ⟨rfl, rfl⟩ | ⟨j, hj, rfl, rfl⟩
            · refine Bu (by omega) ?_
              exact hgood h1 h2 (by simp)
            · refine Av (by omega) ?_
              rw [show wrap64 (((j + 1 : Nat) : Int) - 1) = (j : Int) from by unfold wrap64; omega, rd_get (n := j) rfl hj]
              refine Av (by omega) ?_
              refine Av (by omega) ?_
              have e0 : decide (l[j + 1] > a) = true := by simp [hr]
              by_cases h3 : true = decide (l[j] > a)
              · rw [show (true == decide (l[j] > a)) = true from by rw [← h3]; rfl]
                rw [show srch n a (some (decide (l[j] > a))) low high (l[j + 1] :: l.drop (j + 1 + 1)) = false from if_neg (fun c => c.2.2.2.1 (by rw [e0, h3]))]
                exact hbad
              · rw [show (true == decide (l[j] > a)) = false from beq_eq_false_iff_ne.2 h3]
                exact hgood h1 h2 (fun c => h3 (by rw [← e0]; exact (Option.some.inj c).symm))
        · refine Bu (by simpa using h1) ?_
          rw [show srch n a pr low high (l[i] :: l.drop (i + 1)) = false from if_neg (fun c => h1 ⟨c.1, c.2.1⟩)]
          exact hbad
      · refine Bu hr ?_
        have hbad : Ev (fun k => Ay.j3 k a l low high i false true n g) false :=
          Ev.step (fun k => by rw [Ay.j3]) (Av rfl (Cv rfl))
        have hgood : 0 ≤ l[i] ∧ l[i] ≤ n - 1 → l[i] ≠ a → pr ≠ some (decide (l[i] > a)) → Ev (fun k => Ay.j3 k a l low high i false false n g) (srch n a pr low high (l[i] :: l.drop (i + 1))) := by
          intro h1 h2 h3
          refine Ev.step (fun k => by rw [Ay.j3]) ?_
          refine Bu (by simp) ?_
          rw [hrd]
          unfold srch
          refine Bu (by simp) ?_
          refine Av (by omega) ?_
          refine Av (by omega) ?_
          by_cases hh : l[i] ≥ low
          · rw [decide_eq_true hh]
            rw [if_neg (fun c => by have := c.2.2.2.2.2 hr; omega)]
            exact Ev.step (fun k => by rw [Ay.j4]) (Av rfl (Cv rfl))
          · rw [decide_eq_false hh]
            refine Ev.step (fun k => by rw [Ay.j4]) ?_
            refine Bu (by simp) ?_
            refine Bu (by simp) ?_
            refine Av (by omega) ?_
            refine Av (by omega) ?_
            rw [hrd, w64 (x := (i : Int) + 1) (by omega) (by omega), if_pos ⟨h1.1, h1.2, h2, h3, fun h => absurd h hr, fun _ => by omega⟩, if_neg hr, if_neg hr]
            exact ih (i + 1) _ l[i] high (by omega) (.inr ⟨i, hi, rfl, rfl⟩)
        by_cases h1 : 0 ≤ l[i] ∧ l[i] ≤ n - 1
        · refine Av (by simpa using h1) ?_
          by_cases h2 : l[i] = a
          · refine Av h2 ?_
            rw [show srch n a pr low high (l[i] :: l.drop (i + 1)) = false from if_neg (fun c => c.2.2.1 h2)]
            exact hbad
          · refine Bu h2 ?_
            rcases hp with ⟨rfl, rfl⟩ | ⟨j, hj, rfl, rfl⟩
            · refine Bu (by omega) ?_
              exact hgood h1 h2 (by simp)
            · refine Av (by omega) ?_
              rw [show wrap64 (((j + 1 : Nat) : Int) - 1) = (j : Int) from by unfold wrap64; omega, rd_get (n := j) rfl hj]
              refine Av (by omega) ?_
              refine Av (by omega) ?_
              have e0 : decide (l[j + 1] > a) = false := by simp [hr]
              by_cases h3 : false = decide (l[j] > a)
              · rw [show (false == decide (l[j] > a)) = true from by rw [← h3]; rfl]
                rw [show srch n a (some (decide (l[j] > a))) low high (l[j + 1] :: l.drop (j + 1 + 1)) = false from if_neg (fun c => c.2.2.2.1 (by rw [e0, h3]))]
                exact hbad
              · rw [show (false == decide (l[j] > a)) = false from beq_eq_false_iff_ne.2 h3]
                exact hgood h1 h2 (fun c => h3 (by rw [← e0]; exact (Option.some.inj c).symm))
        · refine Bu (by simpa using h1) ?_
          rw [show srch n a pr low high (l[i] :: l.drop (i + 1)) = false from if_neg (fun c => h1 ⟨c.1, c.2.1⟩)]
          exact hbad
  unfold Ay.f
  exact main l.length 0 none a a (by omega) (.inl ⟨rfl, rfl⟩)
theorem Aq.ev {n : Int} (g : Bool) {a : Int} (l : List Int) (hn : 2 ≤ n ∧ n ≤ 24) (ha : 0 ≤ a ∧ a ≤ n - 1) (hl : l.length ≤ 35184372088832) : Ev (fun k => Aq.f k n g a l) (srch n a none a a l) := by
  have main : ∀ (d i : Nat) (pr : Option Bool) (low high : Int), (l.all fun x => decide (0 ≤ x ∧ x ≤ n - 1)) = true → i + d = l.length → low ≤ a → a ≤ high → (i = 0 ∧ pr = none ∨ ∃ j, ∃ h : j < l.length, i = j + 1 ∧ pr = some (decide (l[j] > a)) ∧ l[j] ≠ a) →
      Ev (fun k => Aq.l0 k a l low high l l.length i n g) (srch n a pr low high (l.drop i)) := by
    intro d
    induction d with
    | zero =>
      intro i pr low high _ e _ _ _
      refine Ev.step (fun k => by rw [Aq.l0]) ?_
      refine Bu (by omega) ?_
      rw [List.drop_eq_nil_of_le (by omega), w64 (x := n - 1) (by omega) (by omega)]
      unfold srch
      by_cases h : low = 0
      · refine Av h (Cv ?_)
        rw [decide_eq_true h, Bool.true_and]
        rfl
      · refine Bu h (Cv ?_)
        rw [decide_eq_false h, Bool.false_and]
    | succ d ih =>
      intro i pr low high hall e hlo hhi hp
      have hi : i < l.length := by omega
      have hrd : rd l i = l[i] := rd_get rfl hi
      have h1 := in_of_all hall hi
      refine Ev.step (fun k => by rw [Aq.l0]) ?_
      refine Av (by omega) ?_
      refine Av (by omega) ?_
      refine Av (by omega) ?_
      have hbad : Ev (fun k => Aq.j2 k a l low high l[i] l l.length i true n g) false :=
        Ev.step (fun k => by rw [Aq.j2]) (Av rfl (Cv rfl))
      have hgood : l[i] ≠ a → pr ≠ some (decide (l[i] > a)) → Ev (fun k => Aq.j2 k a l low high l[i] l l.length i false n g) (srch n a pr low high (l[i] :: l.drop (i + 1))) := by
        intro h2 h3
        refine Ev.step (fun k => by rw [Aq.j2]) ?_
        refine Bu (by simp) ?_
        rw [w64 (x := (i : Int) + 1) (by omega) (by omega), mn_eq, mx_eq]
        unfold srch
        by_cases hr : l[i] > a
        · refine Av (by omega) ?_
          by_cases hh : l[i] ≤ high
          · refine Av hh ?_
            rw [if_neg (fun c => by have := c.2.2.2.2.1 hr; omega)]
            exact Cv rfl
          · refine Bu hh ?_
            rw [if_pos ⟨h1.1, h1.2, h2, h3, fun _ => by omega, fun h => absurd hr h⟩, if_pos hr, if_pos hr, Int.min_eq_left (by omega), Int.max_eq_right (by omega)]
            exact ih (i + 1) _ low l[i] hall (by omega) (by omega) (by omega) (.inr ⟨i, hi, rfl, rfl, h2⟩)
        · by_cases hh : l[i] ≥ low
          · refine Av hh ?_
            refine Av (by omega) ?_
            rw [if_neg (fun c => by have := c.2.2.2.2.2 hr; omega)]
            exact Cv rfl
          · refine Bu hh ?_
            rw [if_pos ⟨h1.1, h1.2, h2, h3, fun h => absurd h hr, fun _ => by omega⟩, if_neg hr, if_neg hr, Int.min_eq_right (by omega), Int.max_eq_left (by omega)]
            exact ih (i + 1) _ l[i] high hall (by omega) (by omega) (by omega) (.inr ⟨i, hi, rfl, rfl, h2⟩)
      rw [hrd, List.drop_eq_getElem_cons hi]
      by_cases h2 : l[i] = a
      · refine Av h2 ?_
        rw [show srch n a pr low high (l[i] :: l.drop (i + 1)) = false from if_neg (fun c => c.2.2.1 h2)]
        exact hbad
      · refine Bu h2 ?_
        rcases hp with ⟨rfl, rfl⟩ | ⟨j, hj, rfl, rfl, hja⟩
        · refine Bu (by omega) ?_
          exact hgood h2 (by simp)
        · refine Av (by omega) ?_
          rw [show wrap64 (((j + 1 : Nat) : Int) - 1) = (j : Int) from by unfold wrap64; omega, rd_get (n := j) rfl hj]
          refine Av (by omega) ?_
          refine Av (by omega) ?_
          have e1 : decide (l[j + 1] < a) = !decide (l[j + 1] > a) := by by_cases h : l[j + 1] > a <;> simp [h] <;> omega
          have e2 : decide (l[j] < a) = !decide (l[j] > a) := by by_cases h : l[j] > a <;> simp [h] <;> omega
          rw [e1, e2]
          by_cases h3 : decide (l[j + 1] > a) = decide (l[j] > a)
          · rw [show ((!decide (l[j + 1] > a)) == !decide (l[j] > a)) = true from by rw [h3]; simp]
            rw [show srch n a (some (decide (l[j] > a))) low high (l[j + 1] :: l.drop (j + 1 + 1)) = false from if_neg (fun c => c.2.2.2.1 (by rw [h3]))]
            exact hbad
          · rw [show ((!decide (l[j + 1] > a)) == !decide (l[j] > a)) = false from by revert h3; cases decide (l[j + 1] > a) <;> cases decide (l[j] > a) <;> simp]
            exact hgood h2 (fun c => h3 (Option.some.inj c).symm)
  unfold Aq.f
  by_cases h0 : l.length = 0
  · obtain rfl := List.eq_nil_of_length_eq_zero h0
    refine Av (by simp) ?_
    refine Ev.step (fun k => by rw [Aq.j0]) ?_
    refine Av rfl (Cv ?_)
    unfold srch
    simp
    omega
  · refine Bu (by omega) ?_
    refine Ev.bind (Dm.ev g l hn hl) ?_
    refine Ev.step (fun k => by rw [Aq.j0]) ?_
    by_cases hall : (l.all fun x => decide (0 ≤ x ∧ x ≤ n - 1)) = true
    · rw [hall]
      refine Bu (by simp) ?_
      exact main l.length 0 none a a hall (by omega) (by omega) (by omega) (.inl ⟨rfl, rfl⟩)
    · have : srch n a none a a l = false := by
        rw [← Bool.not_eq_true]
        exact fun h => hall (srch_all h)
      rw [this]
      rw [Bool.not_eq_true] at hall
      rw [hall]
      exact Av rfl (Cv rfl)
theorem Ex.ev (n : Int) (g : Bool) (a : Int) (l : List Int) (hl : l.length ≤ 35184372088832) : Ev (fun k => Ex.f k n g a l) (Ey n g a l) := by
  unfold Ex.f Ey
  refine Ev.bind (Co.ev n g a) ?_
  by_cases h : okStart n g a = true
  · have hb := okStart_b h
    refine Av h ?_
    rw [h, Bool.true_and]
    exact Ev.bind (Aq.ev g l ⟨hb.2.2.1, hb.2.2.2.1⟩ ⟨hb.2.2.2.2.1, hb.2.2.2.2.2⟩ hl) (Cv rfl)
  · refine Bu h (Cv ?_)
    rw [Bool.not_eq_true] at h
    rw [h, Bool.false_and]
theorem isSearch_impl (n : Int) (g : Bool) (a : Int) (l : List Int) (hl : l.length ≤ 1048576) : Ev (fun k => Fw.f k n g a l) (Ey n g a l, okStart n g a) := by
  unfold Fw.f Ey
  have hs := Co.ev n g a
  by_cases h : okStart n g a = true
  · obtain ⟨_, _, h2, h3, h4, h5⟩ := okStart_b h
    rw [h] at hs ⊢
    rw [Bool.true_and]
    exact Ev.bind hs (Av rfl (Ev.bind (Aq.ev g l ⟨h2, h3⟩ ⟨h4, h5⟩ (by omega)) (Cv rfl)))
  · rw [Bool.not_eq_true] at h
    rw [h] at hs ⊢
    exact Ev.bind hs (Bu (by decide) (Cv rfl))
theorem bits_255 (x : Int) : 0 ≤ Go.bits .and .u64 x 255 ∧ Go.bits .and .u64 x 255 ≤ 255 := by
  have h : (BitVec.ofInt 64 x &&& BitVec.ofInt 64 255).toNat ≤ 255 := by
    rw [BitVec.toNat_and]
    exact Nat.le_trans Nat.and_le_right (by decide)
  have e : ∀ m : Nat, m ≤ 255 → 0 ≤ IntKind.u64.wrap (m : Int) ∧ IntKind.u64.wrap (m : Int) ≤ 255 := by
    intro m hm
    have e1 : IntKind.u64.wrap (m : Int) = (m : Int) % 18446744073709551616 := rfl
    rw [e1]
    omega
  exact e _ h
/-- The next byte of a draw: one place on, 0 to 255. -/
theorem next_tot (l : List Int) (hl8 : ∀ x ∈ l, 0 ≤ x ∧ x ≤ 255) (p s : Int) (h : 0 ≤ p ∧ p ≤ 1000000000) : ∃ v s', Fs.f l p s = some (v, p + 1, s') ∧ 0 ≤ v ∧ v ≤ 255 := by
  unfold Fs.f
  rw [w64 (x := p + 1) (by omega) (by omega)]
  have hb : ∀ x : Int, 0 ≤ wrap64 (Go.bits .and .u64 x 255) ∧ wrap64 (Go.bits .and .u64 x 255) ≤ 255 := by
    intro x
    have := bits_255 x
    rw [w64 (by omega) (by omega)]
    exact this
  by_cases c : p < (l.length : Int)
  · have hr : 0 ≤ rd l p ∧ rd l p ≤ 255 := by
      rw [rd_get (n := p.toNat) (by omega) (by omega)]
      exact hl8 _ (List.getElem_mem _)
    rw [if_pos c, if_pos h.1]
    by_cases c2 : p + 1 ≤ (l.length : Int)
    · rw [if_pos c2]
      exact ⟨_, _, rfl, by rw [w64 (by omega) (by omega)]; exact hr⟩
    · rw [if_neg c2]
      exact ⟨_, _, rfl, hb _⟩
  · rw [if_neg c]
    by_cases c2 : p + 1 ≤ (l.length : Int)
    · rw [if_pos c2]
      exact ⟨_, _, rfl, by omega⟩
    · rw [if_neg c2]
      exact ⟨_, _, rfl, hb _⟩
theorem pick_tot (l : List Int) (hl8 : ∀ x ∈ l, 0 ≤ x ∧ x ≤ 255) (p s n : Int) (h : 0 ≤ p ∧ p ≤ 900000000) : ∃ v p' s', Dg.f l p s n = some (v, p', s') ∧ 0 ≤ v ∧ (1 ≤ n → v < n) ∧ (n < 1 → v = 0) ∧ 0 ≤ p' ∧ p' ≤ p + 2 := by
  unfold Dg.f
  by_cases c : n ≤ 1
  · rw [if_pos c]
    exact ⟨_, _, _, rfl, by omega, by omega, fun _ => rfl, by omega, by omega⟩
  · rw [if_neg c]
    obtain ⟨v, s1, e1, v1, v2⟩ := next_tot l hl8 p s (by omega)
    rw [e1]
    simp only [Option.bind_some]
    by_cases c2 : n > 200
    · rw [if_pos c2]
      obtain ⟨u, s2, e2, u1, u2⟩ := next_tot l hl8 (p + 1) s1 (by omega)
      rw [e2]
      simp only [Option.bind_some]
      rw [if_neg (by omega), w64 (x := v * 256) (by omega) (by omega), w64 (x := v * 256 + u) (by omega) (by omega), Int.tmod_eq_emod_of_nonneg (by omega)]
      exact ⟨_, _, _, rfl, Int.emod_nonneg _ (by omega), fun _ => Int.emod_lt_of_pos _ (by omega), by omega, by omega, by omega⟩
    · rw [if_neg c2, if_neg (by omega), Int.tmod_eq_emod_of_nonneg v1]
      exact ⟨_, _, _, rfl, Int.emod_nonneg _ (by omega), fun _ => Int.emod_lt_of_pos _ (by omega), by omega, by omega, by omega⟩
theorem one_tot (l : List Int) (hl8 : ∀ x ∈ l, 0 ≤ x ∧ x ≤ 255) (p s n : Int) (h : 0 ≤ p ∧ p ≤ 900000000) : ∃ b p' s', Ch.f l p s n = some (b, p', s') ∧ 0 ≤ p' ∧ p' ≤ p + 2 := by
  unfold Ch.f
  obtain ⟨v, p', s', e, _, _, _, h1, h2⟩ := pick_tot l hl8 p s n h
  rw [e]
  exact ⟨_, _, _, rfl, h1, h2⟩
theorem among_tot (l : List Int) (hl8 : ∀ x ∈ l, 0 ≤ x ∧ x ≤ 255) (p s : Int) (xs : List Int) (hx : 1 ≤ xs.length ∧ xs.length ≤ 1000) (h : 0 ≤ p ∧ p ≤ 900000000) : ∃ v p' s', Ce.f l p s xs = some (v, p', s') ∧ v ∈ xs ∧ 0 ≤ p' ∧ p' ≤ p + 2 := by
  unfold Ce.f
  obtain ⟨v, p', s', e, v0, v1, _, h1, h2⟩ := pick_tot l hl8 p s xs.length h
  have := v1 (by omega)
  rw [e]
  simp only [Option.bind_some]
  rw [if_pos v0, if_pos this, rd_get (n := v.toNat) (by omega) (by omega)]
  exact ⟨_, _, _, rfl, List.getElem_mem _, h1, h2⟩
theorem size_tot (l : List Int) (hl8 : ∀ x ∈ l, 0 ≤ x ∧ x ≤ 255) (p s : Int) (h : 0 ≤ p ∧ p ≤ 800000000) : ∃ v p' s', Fg.f l p s = some (v, p', s') ∧ (-1 ≤ v ∧ v ≤ 4611686018427387904) ∧ 0 ≤ p' ∧ p' ≤ p + 4 := by
  unfold Fg.f
  obtain ⟨b, p1, s1, e, h1, h2⟩ := one_tot l hl8 p s 40 (by omega)
  rw [e]
  simp only [Option.bind_some]
  cases b with
  | true =>
    rw [if_pos rfl]
    obtain ⟨v, p2, s2, e2, hv, h3, h4⟩ := among_tot l hl8 p1 s1 [1, 2, 24, 25, 0, (-1), 4611686018427387904] (by simp) (by omega)
    rw [e2]
    refine ⟨_, _, _, rfl, ?_, h3, by simp only; omega⟩
    simp at hv
    rcases hv with rfl | rfl | rfl | rfl | rfl | rfl | rfl <;> simp
  | false =>
    rw [if_neg (by simp)]
    obtain ⟨v, p2, s2, e2, hv, h3, h4⟩ := among_tot l hl8 p1 s1 [5, 6, 4, 8, 3, 10, 7, 13, 24, 2] (by simp) (by omega)
    rw [e2]
    refine ⟨_, _, _, rfl, ?_, h3, by simp only; omega⟩
    simp at hv
    rcases hv with rfl | rfl | rfl | rfl | rfl | rfl | rfl | rfl | rfl | rfl <;> simp
theorem road_tot (l : List Int) (hl8 : ∀ x ∈ l, 0 ≤ x ∧ x ≤ 255) (p s : Int) (h : 0 ≤ p ∧ p ≤ 700000000) : ∃ n g p' s', spec_l1Cur_road.f l p s = some (n, g, p', s') ∧ (-1 ≤ n ∧ n ≤ 4611686018427387904) ∧ 0 ≤ p' ∧ p' ≤ p + 8 := by
  unfold spec_l1Cur_road.f
  obtain ⟨b, p1, s1, e, h1, h2⟩ := one_tot l hl8 p s 2 (by omega)
  rw [e]
  simp only [Option.bind_some]
  obtain ⟨v, p2, s2, e2, hv, h3, h4⟩ := size_tot l hl8 p1 s1 (by omega)
  cases b with
  | true =>
    rw [if_pos rfl]
    unfold Fu.f
    rw [e2]
    exact ⟨_, _, _, _, rfl, hv, h3, by simp only; omega⟩
  | false =>
    rw [if_neg (by simp)]
    unfold spec_l1Cur_ring.f
    rw [e2]
    simp only [Option.bind_some]
    by_cases c : v = 2
    · rw [if_pos c]
      obtain ⟨b2, p3, s3, e3, h5, h6⟩ := one_tot l hl8 p2 s2 4 (by omega)
      rw [e3]
      cases b2 with
      | true => exact ⟨_, _, _, _, rfl, hv, h5, by simp only; omega⟩
      | false => exact ⟨_, _, _, _, rfl, by omega, h5, by simp only; omega⟩
    · rw [if_neg c]
      exact ⟨_, _, _, _, rfl, hv, h3, by simp only; omega⟩
theorem placeOn_tot (l : List Int) (hl8 : ∀ x ∈ l, 0 ≤ x ∧ x ≤ 255) (p s n : Int) (g : Bool) (hn : -1 ≤ n ∧ n ≤ 4611686018427387904) (h : 0 ≤ p ∧ p ≤ 700000000) : ∃ a p' s', Eg.f l p s n g = some (a, p', s') ∧ (-2 ≤ a ∧ a ≤ 4611686018427387904) ∧ 0 ≤ p' ∧ p' ≤ p + 4 := by
  unfold Eg.f
  obtain ⟨b, p1, s1, e, h1, h2⟩ := one_tot l hl8 p s 30 (by omega)
  rw [e]
  simp only [Option.bind_some]
  cases b with
  | true =>
    rw [if_pos rfl]
    rw [w64 (x := n - 1) (by omega) (by omega)]
    obtain ⟨v, p2, s2, e2, hv, h3, h4⟩ := among_tot l hl8 p1 s1 [(-1), 0, n, n - 1, 4611686018427387904] (by simp) (by omega)
    rw [e2]
    refine ⟨_, _, _, rfl, ?_, h3, by simp only; omega⟩
    simp at hv
    simp only
    omega
  | false =>
    rw [if_neg (by simp), Et.at]
    simp only [Option.bind_some]
    rw [Ec.at]
    simp only [Option.bind_some]
    obtain ⟨v, p2, s2, e2, v0, v1, v2, h3, h4⟩ := pick_tot l hl8 p1 s1 (max (min n 24) 1) (by omega)
    have := v1 (by omega)
    rw [e2]
    exact ⟨_, _, _, rfl, by simp only; omega, h3, by simp only; omega⟩
theorem straight3_tot (a : Int) (l : List Int) (hl : l.length ≤ 100000) : ∃ r, Ev (fun k => Bt.f k a l) r ∧ r.length ≤ l.length := by
  have main : ∀ (d i : Nat) (x : List Int), i + d = l.length → x.length ≤ i → ∃ r, Ev (fun k => Bt.l0 k a l x i) r ∧ r.length ≤ l.length := by
    intro d
    induction d with
    | zero =>
      intro i x e hx
      exact ⟨x, Ev.step (fun k => by rw [Bt.l0]) (Bu (by omega) (Cv rfl)), by omega⟩
    | succ d ih =>
      intro i x e hx
      have e1 : wrap64 ((i : Int) + 1) = ((i + 1 : Nat) : Int) := by unfold wrap64; omega
      obtain ⟨r1, h1, g1⟩ := ih (i + 1) (x ++ [rd l i]) (by omega) (by simp; omega)
      obtain ⟨r2, h2, g2⟩ := ih (i + 1) x (by omega) (by omega)
      by_cases c : (((i + 1 : Nat) : Int)) = (l.length : Int)
      · refine ⟨r1, Ev.step (fun k => by rw [Bt.l0]) ?_, g1⟩
        rw [e1]
        exact Av (by omega) (Av c (Av (by omega) (Av (by omega) h1)))
      · by_cases c2 : (decide (rd l i > a) != decide (rd l ((i + 1 : Nat) : Int) > a)) = true
        · refine ⟨r1, Ev.step (fun k => by rw [Bt.l0]) ?_, g1⟩
          rw [e1]
          exact Av (by omega) (Bu c (Av (by omega) (Av (by omega) (Av (by omega) (Av c2 (Av (by omega) h1))))))
        · refine ⟨r2, Ev.step (fun k => by rw [Bt.l0]) ?_, g2⟩
          rw [e1]
          exact Av (by omega) (Bu c (Av (by omega) (Av (by omega) (Av (by omega) (Bu c2 h2)))))
  unfold Bt.f
  exact main l.length 0 [] (by omega) (by simp)
theorem turns3_loop (l : List Int) (hl8 : ∀ x ∈ l, 0 ≤ x ∧ x ≤ 255) {n a : Int} (hn : 2 ≤ n ∧ n ≤ 24) : ∀ (d : Nat) (low high : Int) (right : Bool) (out : List Int) (p s : Int), 0 ≤ low → high ≤ n - 1 → low ≤ 24 → 0 ≤ high →
    2 * (low + (n - 1 - high)) + (if right = true then (if high < n - 1 then 0 else 1) else (if low > 0 then 0 else 1)) ≤ d → out.length + d ≤ 1000 → 0 ≤ p → p + 4 * (d : Int) ≤ 600000000 →
    ∃ r p' s', Ev (fun k => Ap.l0 k a low high right out l p s n false) (r, p', s') ∧ r.length ≤ out.length + d + 1 ∧ 0 ≤ p' ∧ p' ≤ p + 4 * d + 20 := by
  intro d
  induction d with
  | zero =>
    intro low high right out p s h0 h1 h2 h3 hm ho hp hp2
    exfalso
    cases right <;> simp at hm <;> omega
  | succ d ih =>
    intro low high right out p s h0 h1 h2 h3 hm ho hp hp2
    have en : wrap64 (n - 1) = n - 1 := w64 (by omega) (by omega)
    have ol : out.length < 17592186044416 := by omega
    by_cases c : low > 0 ∨ high < n - 1
    · -- one turn more
      have enter : ∀ r, Ev (fun k => Ap.j1 k a low high right out true l p s n false) r → Ev (fun k => Ap.l0 k a low high right out l p s n false) r := by
        intro r hr
        refine Ev.step (fun k => by rw [Ap.l0]) ?_
        by_cases c1 : low > 0
        · exact Av c1 hr
        · refine Bu c1 ?_
          rw [en, decide_eq_true (show high < n - 1 by omega)]
          exact hr
      have on3 : ∀ (hi : Int) (o : List Int) (q t : Int) r, Ev (fun k => Ap.l0 k a low hi false o l q t n false) r → Ev (fun k => Ap.j3 k a low hi true o l q t n false) r := by
        intro hi o q t r hr
        refine Ev.step (fun k => by rw [Ap.j3]) (Av rfl (Ev.step (fun k => by rw [Ap.j4]) (Bu (by decide) ?_)))
        exact hr
      cases right with
      | true =>
        rw [if_pos rfl] at hm
        by_cases c2 : high < n - 1
        · rw [if_pos c2] at hm
          obtain ⟨v, p1, s1, e1, v0, v1, _, p2, p3⟩ := pick_tot l hl8 p s 5 (by omega)
          have v2 := v1 (by omega)
          have w1 : wrap64 (high + 1) = high + 1 := w64 (by omega) (by omega)
          have w2 : wrap64 (high + 1 + v) = high + 1 + v := w64 (by omega) (by omega)
          obtain ⟨r, p', s', h, g1, g2, g3⟩ := ih low (min (n - 1) (high + 1 + v)) false (out ++ [min (n - 1) (high + 1 + v)]) p1 s1 h0 (by omega) h2 (by omega) (by rw [if_neg (by decide)]; split <;> omega) (by rw [List.length_append, List.length_singleton]; omega) p2 (by omega)
          rw [List.length_append, List.length_singleton] at g1
          refine ⟨r, p', s', enter _ (Ev.step (fun k => by rw [Ap.j1]) (Av rfl (Av rfl (Ev.step (fun k => by rw [Ap.j2]) ?_)))), by omega, g2, by omega⟩
          rw [en, decide_eq_true c2]
          refine Av rfl ?_
          rw [e1]
          simp only [Option.bind_some]
          rw [w1, w2, Et.at]
          simp only [Option.bind_some]
          exact Av ol (on3 _ _ _ _ _ h)
        · rw [if_neg c2] at hm
          obtain ⟨r, p', s', h, g1, g2, g3⟩ := ih low high false out p s h0 h1 h2 h3 (by rw [if_neg (by decide), if_pos (by omega)]; omega) (by omega) hp (by omega)
          refine ⟨r, p', s', enter _ (Ev.step (fun k => by rw [Ap.j1]) (Av rfl (Av rfl (Ev.step (fun k => by rw [Ap.j2]) ?_)))), by omega, g2, by omega⟩
          rw [en, decide_eq_false c2]
          exact Bu (by decide) (on3 _ _ _ _ _ h)
      | false =>
        rw [if_neg (by decide)] at hm
        by_cases c2 : low > 0
        · rw [if_pos c2] at hm
          obtain ⟨v, p1, s1, e1, v0, v1, _, p2, p3⟩ := pick_tot l hl8 p s 5 (by omega)
          have v2 := v1 (by omega)
          have w1 : wrap64 (low - 1) = low - 1 := w64 (by omega) (by omega)
          have w2 : wrap64 (low - 1 - v) = low - 1 - v := w64 (by omega) (by omega)
          obtain ⟨r, p', s', h, g1, g2, g3⟩ := ih (max 0 (low - 1 - v)) high true (out ++ [max 0 (low - 1 - v)]) p1 s1 (by omega) h1 (by omega) h3 (by rw [if_pos rfl]; split <;> omega) (by rw [List.length_append, List.length_singleton]; omega) p2 (by omega)
          rw [List.length_append, List.length_singleton] at g1
          refine ⟨r, p', s', enter _ (Ev.step (fun k => by rw [Ap.j1]) (Av rfl (Bu (by decide) (Ev.step (fun k => by rw [Ap.j2]) (Bu (by decide) (Ev.step (fun k => by rw [Ap.j3]) (Bu (by decide) (Ev.step (fun k => by rw [Ap.j4]) ?_)))))))), by omega, g2, by omega⟩
          rw [decide_eq_true c2]
          refine Av rfl ?_
          rw [e1]
          simp only [Option.bind_some]
          rw [w1, w2, Ec.at]
          simp only [Option.bind_some]
          exact Av ol h
        · rw [if_neg c2] at hm
          obtain ⟨r, p', s', h, g1, g2, g3⟩ := ih low high true out p s h0 h1 h2 h3 (by rw [if_pos rfl, if_pos (by omega)]; omega) (by omega) hp (by omega)
          refine ⟨r, p', s', enter _ (Ev.step (fun k => by rw [Ap.j1]) (Av rfl (Bu (by decide) (Ev.step (fun k => by rw [Ap.j2]) (Bu (by decide) (Ev.step (fun k => by rw [Ap.j3]) (Bu (by decide) (Ev.step (fun k => by rw [Ap.j4]) ?_)))))))), by omega, g2, by omega⟩
          rw [decide_eq_false c2]
          exact Bu (by decide) h
    · obtain ⟨b, p1, s1, e1, p2, p3⟩ := one_tot l hl8 p s 24 (by omega)
      have enter : ∀ r, Ev (fun k => if b = true then ((Ce.f l p1 s1 [(-1), a, 0, 24]).bind fun bt336 => (if out.length < 17592186044416 then (some ((out ++ [bt336.1]), bt336.2.1, bt336.2.2)) else (none))) else ((Bt.f k a out).bind fun t342 => (some (t342, p1, s1)))) r → Ev (fun k => Ap.l0 k a low high right out l p s n false) r := by
        intro r hr
        refine Ev.step (fun k => by rw [Ap.l0]) (Bu (by omega) ?_)
        rw [en, decide_eq_false (show ¬ (high < n - 1) by omega)]
        refine Ev.step (fun k => by rw [Ap.j1]) (Bu (by decide) ?_)
        rw [e1]
        simp only [Option.bind_some]
        exact hr
      cases b with
      | true =>
        obtain ⟨v, p4, s4, e4, _, p5, p6⟩ := among_tot l hl8 p1 s1 [(-1), a, 0, 24] (by simp) (by omega)
        refine ⟨out ++ [v], p4, s4, enter _ (Av rfl ?_), by rw [List.length_append, List.length_singleton]; omega, p5, by omega⟩
        rw [e4]
        exact Av ol (Cv rfl)
      | false =>
        obtain ⟨r, h, g⟩ := straight3_tot a out (by omega)
        exact ⟨r, p1, s1, enter _ (Bu (by decide) (Ev.bind h (Cv rfl))), by omega, p2, by omega⟩
theorem turns3_tot (l : List Int) (hl8 : ∀ x ∈ l, 0 ≤ x ∧ x ≤ 255) (p s n : Int) (g : Bool) (a : Int) (h : 0 ≤ p ∧ p ≤ 100000) : ∃ r p' s', Ev (fun k => Ap.f k l p s n g a) (r, p', s') ∧ r.length ≤ 200 ∧ 0 ≤ p' ∧ p' ≤ p + 1000 := by
  unfold Ap.f
  rw [Ea.at]
  simp only [Option.bind_some]
  by_cases c : okStart n g a = true
  · obtain ⟨_, rfl, h2, h3, h4, h5⟩ := okStart_b c
    obtain ⟨b, p1, s1, e1, p2, p3⟩ := one_tot l hl8 p s 2 (by omega)
    obtain ⟨r, p', s', h6, g1, g2, g3⟩ := turns3_loop l hl8 (a := a) ⟨h2, h3⟩ 100 a a b [] p1 s1 (by omega) (by omega) (by omega) (by omega) (by split <;> split <;> omega) (by simp) p2 (by omega)
    refine ⟨r, p', s', Av c ?_, by simp at g1; omega, g2, by omega⟩
    rw [e1]
    simp only [Option.bind_some]
    exact h6
  · exact ⟨[0, 1], p, s, Bu c (Cv rfl), by simp, h.1, by omega⟩
theorem linePlace_tot (l : List Int) (hl8 : ∀ x ∈ l, 0 ≤ x ∧ x ≤ 255) (p s : Int) (h : 0 ≤ p ∧ p ≤ 100000) : ∃ n g a p' s', Eb.f l p s = some (n, g, a, p', s') ∧ (-1 ≤ n ∧ n ≤ 4611686018427387904) ∧ (-2 ≤ a ∧ a ≤ 4611686018427387904) ∧ 0 ≤ p' ∧ p' ≤ p + 100 := by
  unfold Eb.f Fu.f
  obtain ⟨v, p1, s1, e1, v1, p2, p3⟩ := size_tot l hl8 p s (by omega)
  rw [e1]
  simp only [Option.bind_some]
  obtain ⟨b, p4, s4, e4, p5, p6⟩ := one_tot l hl8 p1 s1 24 (by omega)
  rw [e4]
  simp only [Option.bind_some]
  cases b with
  | true =>
    rw [if_pos rfl]
    obtain ⟨n, g, p7, s7, e7, n1, p8, p9⟩ := road_tot l hl8 p4 s4 (by omega)
    rw [e7]
    simp only [Option.bind_some]
    obtain ⟨a, q1, t1, e8, a1, q2, q3⟩ := placeOn_tot l hl8 p7 s7 n g n1 (by omega)
    rw [e8]
    exact ⟨n, g, a, q1, t1, rfl, n1, a1, q2, by omega⟩
  | false =>
    rw [if_neg (by decide)]
    obtain ⟨a, q1, t1, e8, a1, q2, q3⟩ := placeOn_tot l hl8 p4 s4 v false v1 (by omega)
    rw [e8]
    exact ⟨v, false, a, q1, t1, rfl, v1, a1, q2, by omega⟩
theorem drawIsSearch_tot (l : List Int) (hl8 : ∀ x ∈ l, 0 ≤ x ∧ x ≤ 255) : ∃ n g a t, Ev (fun k => Db.f k l) (n, g, a, t) ∧ t.length ≤ 200 := by
  unfold Db.f Db.inn
  obtain ⟨n, g, a, p1, s1, e1, _, _, p2, p3⟩ := linePlace_tot l hl8 0 0 (by omega)
  obtain ⟨t, p4, s4, e4, t1, _, _⟩ := turns3_tot l hl8 p1 s1 n g a (by omega)
  refine ⟨n, g, a, t, ?_, t1⟩
  rw [e1]
  simp only [Option.bind_some]
  exact Ev.bind (a := (n, g, a, t, p4, s4)) (Ev.bind e4 (Cv rfl)) (Cv rfl)
theorem extra_list (m : Int) (h : 0 ≤ m ∧ m < 24) : 0 ≤ wrap64 (5 + wrap64 (Int.tdiv m 11)) ∧ wrap64 (5 + wrap64 (Int.tdiv m 11)) ≤ 7 ∧ 5 ≤ wrap64 (5 + wrap64 (Int.tdiv m 11)) := by
  rw [Int.tdiv_eq_ediv_of_nonneg h.1]
  have h1 : 0 ≤ m / 11 ∧ m / 11 ≤ 2 := by omega
  rw [w64 (x := m / 11) (by omega) (by omega), w64 (by omega) (by omega)]
  omega
theorem shortLine_tot (l : List Int) (hl8 : ∀ x ∈ l, 0 ≤ x ∧ x ≤ 255) (p s : Int) (h : 0 ≤ p ∧ p ≤ 10000) : ∃ n g a p' s', Fy.f l p s = some (n, g, a, p', s') ∧ (-1 ≤ n ∧ n ≤ 4611686018427387904) ∧ (-2 ≤ a ∧ a ≤ 4611686018427387904) ∧ 0 ≤ p' ∧ p' ≤ p + 200 := by
  unfold Fy.f
  obtain ⟨b, p1, s1, e1, h1, h2⟩ := one_tot l hl8 p s 12 (by omega)
  rw [e1]
  simp only [Option.bind_some]
  cases b with
  | true =>
    rw [if_pos rfl]
    obtain ⟨n, g, a, p2, s2, e2, hn, ha, h3, h4⟩ := linePlace_tot l hl8 p1 s1 (by omega)
    rw [e2]
    exact ⟨n, g, a, p2, s2, rfl, hn, ha, h3, by omega⟩
  | false =>
    rw [if_neg (by decide)]
    obtain ⟨v, p2, s2, e2, hv, h3, h4⟩ := among_tot l hl8 p1 s1 [5, 4, 6, 3, 7, 2, 8, 10] (by simp) (by omega)
    have hv2 : -1 ≤ v ∧ v ≤ 4611686018427387904 := by
      simp at hv
      omega
    rw [e2]
    simp only [Option.bind_some]
    obtain ⟨a, p3, s3, e3, ha, h5, h6⟩ := placeOn_tot l hl8 p2 s2 v false hv2 (by omega)
    rw [e3]
    exact ⟨v, false, a, p3, s3, rfl, hv2, ha, h5, by omega⟩
theorem drawBestSearch_tot (l : List Int) (hl8 : ∀ x ∈ l, 0 ≤ x ∧ x ≤ 255) : ∃ n g a x, Ck.f l = some (n, g, a, x) := by
  unfold Ck.f Ck.inn
  obtain ⟨n, g, a, p1, s1, e1, _, _, p2, p3⟩ := shortLine_tot l hl8 0 0 (by omega)
  obtain ⟨v, p7, s7, e7, v0, v1, _, p8, p9⟩ := pick_tot l hl8 p1 s1 24 (by omega)
  have hx := extra_list v ⟨v0, v1 (by omega)⟩
  obtain ⟨x, q1, u1, e8, _, _, _⟩ := among_tot l hl8 p7 s7 (([0, 0, 1, 2, 9, 10, (-1)] : List Int).take (wrap64 (5 + wrap64 (Int.tdiv v 11))).toNat) (by rw [List.length_take]; simp; omega) (by omega)
  refine ⟨n, g, a, x, ?_⟩
  rw [e1]
  simp only [Option.bind_some]
  rw [e7]
  simp only [Option.bind_some]
  rw [if_pos hx.1, if_pos (by simp; omega), e8]
  rfl
theorem drawDoublingSearch_tot (l : List Int) (hl8 : ∀ x ∈ l, 0 ≤ x ∧ x ≤ 255) : ∃ n g a, Df.f l = some (n, g, a) := by
  unfold Df.f Df.inn
  obtain ⟨n, g, a, p1, s1, e1, _, _, p2, p3⟩ := linePlace_tot l hl8 0 0 (by omega)
  rw [e1]
  exact ⟨n, g, a, rfl⟩
theorem drawMirrorSearch_tot (l : List Int) (hl8 : ∀ x ∈ l, 0 ≤ x ∧ x ≤ 255) : ∃ n g t, Ev (fun k => Ff.f k l) (n, g, t) ∧ t.length ≤ 200 := by
  obtain ⟨n, g, a, t, h, e⟩ := drawIsSearch_tot l hl8
  unfold Ff.f
  exact ⟨n, g, t, Ev.bind h (Cv rfl), e⟩
/-- Unit steps from a place on. -/
def way (s : Int) : Int → Nat → List Int
  | _, 0 => []
  | a, m + 1 => (a + s) :: way s (a + s) m
theorem way_length (s : Int) : ∀ (m : Nat) (a : Int), (way s a m).length = m
  | 0, _ => rfl
  | m + 1, a => by rw [way, List.length_cons, way_length s m]
theorem straight_line {n : Int} (hn : 2 ≤ n ∧ n ≤ 24) {s tgt : Int} (hs : s = 1 ∨ s = -1) (hto : 0 ≤ tgt ∧ tgt ≤ n - 1) : ∀ (m : Nat) (at_ : Int) (x : List Int), (s = 1 ∧ tgt = at_ + m ∨ s = -1 ∧ tgt = at_ - m) → 0 ≤ at_ → at_ ≤ n - 1 → x.length + m ≤ 35184372088 →
    Ev (fun k => Bd.l0 k x tgt at_ s n false) (x ++ way s at_ m) := by
  intro m
  induction m with
  | zero =>
    intro at_ x e h0 h1 hx
    refine Ev.step (fun k => by rw [Bd.l0]) (Av (by omega) (Cv ?_))
    simp [way]
  | succ m ih =>
    intro at_ x e h0 h1 hx
    refine Ev.step (fun k => by rw [Bd.l0]) (Bu (by omega) (Bu (by omega) (Av (by omega) ?_)))
    have e1 : Int.tmod (wrap64 (wrap64 (at_ + s) + n)) n = at_ + s := by
      rw [w64 (x := at_ + s) (by omega) (by omega), w64 (by omega) (by omega), Int.tmod_eq_emod_of_nonneg (by omega), Int.add_emod_right, Int.emod_eq_of_lt (by omega) (by omega)]
    rw [e1, way]
    have := ih (at_ + s) (x ++ [at_ + s]) (by omega) (by omega) (by omega) (by simp; omega)
    simpa using this
/-- The way to a place: the steps and how many. -/
theorem straight_ev {n : Int} (hn : 2 ≤ n ∧ n ≤ 24) {tgt a : Int} (hto : 0 ≤ tgt ∧ tgt ≤ n - 1) (ha : 0 ≤ a ∧ a ≤ n - 1) (l : List Int) (hl : l.length ≤ 351843720) (h0 : l ≠ []) (hlast : l.getLast h0 = a) :
    ∃ (s : Int) (m : Nat), (s = 1 ∧ tgt = a + m ∨ s = -1 ∧ tgt = a - m) ∧ Ev (fun k => Bd.f k n false l tgt) (l ++ way s a m) := by
  have hp : 0 < l.length := List.length_pos_iff.2 h0
  have e0 : wrap64 ((l.length : Int) - 1) = ((l.length - 1 : Nat) : Int) := by unfold wrap64; omega
  have e1 : rd l ((l.length - 1 : Nat) : Int) = a := by
    rw [rd_get rfl (by omega), ← List.getLast_eq_getElem (h := h0)]
    exact hlast
  unfold Bd.f
  rw [e0, e1, w64 (x := tgt - a) (by omega) (by omega)]
  by_cases c : tgt - a < 0
  · refine ⟨-1, (a - tgt).toNat, .inr ⟨rfl, by omega⟩, ?_⟩
    refine Av (by omega) (Av (by omega) (Bu (by simp) (Av c ?_)))
    refine Ev.step (fun k => by rw [Bd.j0]) ?_
    exact straight_line hn (.inr rfl) hto _ _ _ (.inr ⟨rfl, by omega⟩) ha.1 ha.2 (by omega)
  · refine ⟨1, (tgt - a).toNat, .inl ⟨rfl, by omega⟩, ?_⟩
    refine Av (by omega) (Av (by omega) (Bu (by simp) (Bu c ?_)))
    refine Ev.step (fun k => by rw [Bd.j0]) ?_
    exact straight_line hn (.inl rfl) hto _ _ _ (.inl ⟨rfl, by omega⟩) ha.1 ha.2 (by omega)
theorem rd_set (l : List Int) {i q v : Int} (hi : 0 ≤ i ∧ i < l.length) (hq : 0 ≤ q) : rd (l.set i.toNat v) q = if q = i then v else rd l q := by
  unfold rd
  rw [List.getD_eq_getElem?_getD, List.getD_eq_getElem?_getD]
  by_cases c : q = i
  · subst c
    rw [if_pos rfl, List.getElem?_set_self (by omega)]
    rfl
  · rw [if_neg c, List.getElem?_set_ne (by omega)]
theorem rd_ext {a b : List Int} (hl : a.length = b.length) (h : ∀ q : Int, 0 ≤ q → q < a.length → rd a q = rd b q) : a = b := by
  refine List.ext_getElem hl fun j h1 h2 => ?_
  have := h (j : Int) (by omega) (by omega)
  rwa [rd_get rfl h1, rd_get rfl h2] at this
theorem srch_cons {n a : Int} {pr : Option Bool} {low high p : Int} {t : List Int} (h : srch n a pr low high (p :: t) = true) :
    0 ≤ p ∧ p ≤ n - 1 ∧ (p > a → p > high) ∧ (¬ p > a → p < low) ∧ srch n a (some (decide (p > a))) (if p > a then low else p) (if p > a then p else high) t = true := by
  unfold srch at h
  by_cases c : 0 ≤ p ∧ p ≤ n - 1 ∧ p ≠ a ∧ pr ≠ some (decide (p > a)) ∧ (p > a → p > high) ∧ (¬ p > a → p < low)
  · rw [if_pos c] at h
    exact ⟨c.1, c.2.1, c.2.2.2.2.1, c.2.2.2.2.2, h⟩
  · rw [if_neg c] at h
    cases h
theorem srch_nil {n a : Int} {pr : Option Bool} {low high : Int} (h : srch n a pr low high [] = true) : low = 0 ∧ high = n - 1 := by
  unfold srch at h
  simpa using h
theorem Bp.right {n : Int} (l : List Int) (x3 now at_ low p : Int) (i : Nat) (hi : i < l.length) (hp : rd l i = p) (hn : 2 ≤ n ∧ n ≤ 24) (hpn : 0 ≤ p ∧ p ≤ n - 1) (hat : 0 ≤ at_ ∧ at_ ≤ n - 1) (hnow : 0 ≤ now ∧ now ≤ 1000000000000) :
    ∀ (d : Nat) (high : Int) (S : List Int), high + d = p → 0 ≤ high → S.length = n →
      ∃ S' : List Int, S'.length = n ∧ (∀ q, 0 ≤ q → q < n → (high < q ∧ q ≤ p → rd S' q = now + q - at_) ∧ (¬ (high < q ∧ q ≤ p) → rd S' q = rd S q)) ∧
        ∀ r, Ev (fun k => Bp.l2 k l x3 S' now at_ low p i) r → Ev (fun k => Bp.l1 k l x3 S now at_ low high i) r := by
  intro d
  induction d with
  | zero =>
    intro high S e h0 hS
    refine ⟨S, hS, fun q h1 h2 => ⟨fun c => by omega, fun _ => rfl⟩, fun r hr => ?_⟩
    refine Ev.step (fun k => by rw [Bp.l1]) (Av (by omega) (Av (by omega) ?_))
    rw [hp]
    refine Bu (by omega) ?_
    rw [show high = p from by omega]
    exact hr
  | succ d ih =>
    intro high S e h0 hS
    obtain ⟨S', h1, h2, h3⟩ := ih (high + 1) (S.set (high + 1).toNat (now + (high + 1) - at_)) (by omega) (by omega) (by simpa using hS)
    refine ⟨S', h1, fun q hq hq2 => ?_, fun r hr => ?_⟩
    · have h2 := h2 q hq hq2
      have := rd_set S (i := high + 1) (q := q) (v := now + (high + 1) - at_) ⟨by omega, by omega⟩ hq
      by_cases c : q = high + 1
      · rw [if_pos c] at this
        refine ⟨fun _ => ?_, fun c2 => by omega⟩
        rw [h2.2 (by omega), this, c]
      · rw [if_neg c] at this
        refine ⟨fun c2 => h2.1 (by omega), fun c2 => ?_⟩
        rw [h2.2 (by omega), this]
    · refine Ev.step (fun k => by rw [Bp.l1]) (Av (by omega) (Av (by omega) ?_))
      rw [hp, w64 (x := high + 1) (by omega) (by omega), w64 (x := now + (high + 1)) (by omega) (by omega), w64 (x := now + (high + 1) - at_) (by omega) (by omega)]
      refine Av (by omega) (Av (by omega) (Av (by omega) ?_))
      exact h3 r hr
theorem Bp.left {n : Int} (l : List Int) (x3 now at_ high p : Int) (i : Nat) (hl : l.length ≤ 35184372088832) (hi : i < l.length) (hp : rd l i = p) (hn : 2 ≤ n ∧ n ≤ 24) (hpn : 0 ≤ p ∧ p ≤ n - 1) (hat : 0 ≤ at_ ∧ at_ ≤ n - 1) (hnow : 0 ≤ now ∧ now ≤ 1000000000000) (h3 : 0 ≤ x3 ∧ x3 ≤ 9) :
    ∀ (d : Nat) (low : Int) (S : List Int), low = p + d → low ≤ n → S.length = n →
      ∃ S' : List Int, S'.length = n ∧ (∀ q, 0 ≤ q → q < n → (p ≤ q ∧ q < low → rd S' q = now + at_ - q) ∧ (¬ (p ≤ q ∧ q < low) → rd S' q = rd S q)) ∧
        ∀ r, Ev (fun k => Bp.l0 k l x3 S' (now + max (p - at_) (at_ - p) + x3) p p high ((i + 1 : Nat) : Int)) r → Ev (fun k => Bp.l2 k l x3 S now at_ low high i) r := by
  intro d
  induction d with
  | zero =>
    intro low S e h0 hS
    refine ⟨S, hS, fun q h1 h2 => ⟨fun c => by omega, fun _ => rfl⟩, fun r hr => ?_⟩
    refine Ev.step (fun k => by rw [Bp.l2]) (Av (by omega) (Av (by omega) ?_))
    rw [hp]
    refine Bu (by omega) ?_
    rw [show low = p from by omega, w64 (x := p - at_) (by omega) (by omega), w64 (x := at_ - p) (by omega) (by omega), Ec.at, w64 (x := (i : Int) + 1) (by omega) (by omega)]
    simp only [Option.bind_some]
    rw [w64 (x := now + max (p - at_) (at_ - p)) (by omega) (by omega), w64 (x := now + max (p - at_) (at_ - p) + x3) (by omega) (by omega)]
    exact hr
  | succ d ih =>
    intro low S e h0 hS
    obtain ⟨S', h1, h2, h3⟩ := ih (low - 1) (S.set (low - 1).toNat (now + at_ - (low - 1))) (by omega) (by omega) (by simpa using hS)
    refine ⟨S', h1, fun q hq hq2 => ?_, fun r hr => ?_⟩
    · have h2 := h2 q hq hq2
      have := rd_set S (i := low - 1) (q := q) (v := now + at_ - (low - 1)) ⟨by omega, by omega⟩ hq
      by_cases c : q = low - 1
      · rw [if_pos c] at this
        refine ⟨fun _ => ?_, fun c2 => by omega⟩
        rw [h2.2 (by omega), this, c]
      · rw [if_neg c] at this
        refine ⟨fun c2 => h2.1 (by omega), fun c2 => ?_⟩
        rw [h2.2 (by omega), this]
    · refine Ev.step (fun k => by rw [Bp.l2]) (Av (by omega) (Av (by omega) ?_))
      rw [hp, w64 (x := low - 1) (by omega) (by omega), w64 (x := now + at_) (by omega) (by omega), w64 (x := now + at_ - (low - 1)) (by omega) (by omega)]
      refine Av (by omega) (Av (by omega) (Av (by omega) ?_))
      exact h3 r hr
/-- The program's way: it marks what is not marked yet. -/
theorem impl_times.go {n : Int} (l y : List Int) (x3 tgt s : Int) (i : Nat) (hl : l.length ≤ 35184372088832) (hi : i < l.length) (hn : 2 ≤ n ∧ n ≤ 24) (hs : s = 1 ∨ s = -1) (hy : y.length ≤ 1000) :
    ∀ (d j : Nat) (at_ time : Int) (M : List Int), j + d = y.length → y.drop j = way s at_ d → 0 ≤ at_ → at_ ≤ n - 1 → (s = 1 ∧ at_ + d ≤ n - 1 ∨ s = -1 ∧ 0 ≤ at_ - d) → 0 ≤ time → time + d ≤ 1000000000000 → M.length = n →
      ∃ M' : List Int, M'.length = n ∧ (∀ q, 0 ≤ q → q < n → ((s = 1 ∧ at_ < q ∧ q ≤ at_ + d ∨ s = -1 ∧ at_ - d ≤ q ∧ q < at_) ∧ rd M q < 0 → rd M' q = time + max (q - at_) (at_ - q)) ∧ (¬ ((s = 1 ∧ at_ < q ∧ q ≤ at_ + d ∨ s = -1 ∧ at_ - d ≤ q ∧ q < at_) ∧ rd M q < 0) → rd M' q = rd M q)) ∧
        ∀ r, Ev (fun k => Ar.l1 k x3 M' (time + d) tgt l l.length ((i + 1 : Nat) : Int) n false) r → Ev (fun k => Ar.l2 k x3 M time tgt l l.length i y y.length j n false) r := by
  intro d
  induction d with
  | zero =>
    intro j at_ time M e ey h0 h1 hb ht ht2 hM
    refine ⟨M, hM, fun q h1 h2 => ⟨fun c => by omega, fun _ => rfl⟩, fun r hr => ?_⟩
    refine Ev.step (fun k => by rw [Ar.l2]) (Bu (by omega) ?_)
    rw [w64 (x := (i : Int) + 1) (by omega) (by omega)]
    simpa using hr
  | succ d ih =>
    intro j at_ time M e ey h0 h1 hb ht ht2 hM
    have hj : j < y.length := by omega
    rw [List.drop_eq_getElem_cons hj, way] at ey
    have ey1 := (List.cons.inj ey).1
    have ey2 := (List.cons.inj ey).2
    have hrd : rd y j = at_ + s := by rw [rd_get rfl hj]; exact ey1
    by_cases c : rd M (at_ + s) < 0
    · obtain ⟨M', h2, h3, h4⟩ := ih (j + 1) (at_ + s) (time + 1) (M.set (at_ + s).toNat (time + 1)) (by omega) ey2 (by omega) (by omega) (by omega) (by omega) (by omega) (by simpa using hM)
      refine ⟨M', h2, fun q hq hq2 => ?_, fun r hr => ?_⟩
      · have h3 := h3 q hq hq2
        have := rd_set M (i := at_ + s) (q := q) (v := time + 1) ⟨by omega, by omega⟩ hq
        by_cases c2 : q = at_ + s
        · rw [if_pos c2] at this
          subst c2
          have h5 := h3.2 (by omega)
          exact ⟨fun _ => by omega, fun c3 => by omega⟩
        · rw [if_neg c2] at this
          rw [this] at h3
          exact ⟨fun c3 => by rw [h3.1 (by omega)]; omega, fun c3 => h3.2 (by omega)⟩
      · refine Ev.step (fun k => by rw [Ar.l2]) (Av (by omega) (Av (by omega) (Av (by omega) ?_)))
        rw [hrd, w64 (x := time + 1) (by omega) (by omega), w64 (x := (j : Int) + 1) (by omega) (by omega)]
        refine Av (by omega) (Av (by omega) (Av c ?_))
        exact h4 r (by rw [show time + 1 + (d : Int) = time + ((d + 1 : Nat) : Int) from by omega]; exact hr)
    · obtain ⟨M', h2, h3, h4⟩ := ih (j + 1) (at_ + s) (time + 1) M (by omega) ey2 (by omega) (by omega) (by omega) (by omega) (by omega) hM
      refine ⟨M', h2, fun q hq hq2 => ?_, fun r hr => ?_⟩
      · have h3 := h3 q hq hq2
        by_cases c2 : q = at_ + s
        · subst c2
          have h5 := h3.2 (by omega)
          exact ⟨fun _ => by omega, fun c3 => by omega⟩
        · exact ⟨fun c3 => by rw [h3.1 (by omega)]; omega, fun c3 => h3.2 (by omega)⟩
      · refine Ev.step (fun k => by rw [Ar.l2]) (Av (by omega) (Av (by omega) (Av (by omega) ?_)))
        rw [hrd, w64 (x := time + 1) (by omega) (by omega), w64 (x := (j : Int) + 1) (by omega) (by omega)]
        refine Av (by omega) (Av (by omega) (Bu c ?_))
        exact h4 r (by rw [show time + 1 + (d : Int) = time + ((d + 1 : Nat) : Int) from by omega]; exact hr)
theorem times_both {n : Int} {a : Int} (l : List Int) (x3 : Int) (hl : l.length ≤ 1048576) (hn : 2 ≤ n ∧ n ≤ 24) (hx3 : 0 ≤ x3 ∧ x3 ≤ 9) :
    ∀ (d i : Nat) (pr : Option Bool) (low high at_ now time : Int) (S M : List Int), i + d = l.length → srch n a pr low high (l.drop i) = true → 0 ≤ low → low ≤ at_ → at_ ≤ high → high ≤ n - 1 → low ≤ a → a ≤ high → S.length = n → M.length = n →
      (∀ q, low ≤ q → q ≤ high → rd S q = rd M q ∧ 0 ≤ rd M q ∧ rd M q ≤ 100000000 ∧ (q ≠ a → 0 < rd M q)) → (∀ q, 0 ≤ q → q < n → ¬ (low ≤ q ∧ q ≤ high) → rd M q < 0) → (i = 0 ∧ now = time ∨ 0 < i ∧ now = time + x3) → 0 ≤ time → 0 ≤ now → now ≤ 40 * i →
      ∃ r : List Int, Ev (fun k => Bp.l0 k l x3 S now at_ low high i) r ∧ Ev (fun k => Ar.l1 k x3 M time at_ l l.length i n false) r ∧ r.length = n ∧ ∀ q, 0 ≤ q → q < n → q ≠ a → 0 < rd r q ∧ rd r q ≤ 100000000 := by
  intro d
  induction d with
  | zero =>
    intro i pr low high at_ now time S M e hs h0 h1 h2 h3 h4 h5 hS hM hin hout hnow ht hw hw2
    rw [List.drop_eq_nil_of_le (by omega)] at hs
    have hs := srch_nil hs
    refine ⟨S, Ev.step (fun k => by rw [Bp.l0]) (Bu (by omega) (Cv rfl)), Ev.step (fun k => by rw [Ar.l1]) (Bu (by omega) (Cv ?_)), hS, fun q hq hq2 hqa => by
      have h6 := hin q (by omega) (by omega)
      have h7 := h6.2.2.2 hqa
      omega⟩
    exact (rd_ext (by omega) fun q hq hq2 => (hin q (by omega) (by omega)).1).symm
  | succ d ih =>
    intro i pr low high at_ now time S M e hs h0 h1 h2 h3 h4 h5 hS hM hin hout hnow ht hw hw2
    have hi : i < l.length := by omega
    rw [List.drop_eq_getElem_cons hi] at hs
    obtain ⟨p0, p1, p2, p3, hs⟩ := srch_cons hs
    have hrd : rd l i = l[i] := rd_get rfl hi
    generalize hp : l[i] = p at *
    -- the program's turn
    obtain ⟨s, m, hsm, hway⟩ := straight_ev hn (tgt := p) (a := at_) ⟨p0, p1⟩ (by omega) [at_] (by simp) (by simp) rfl
    obtain ⟨M', m1, m2, m3⟩ := impl_times.go (n := n) l (way s at_ m) x3 p s i (by omega) hi hn (by omega) (by rw [way_length]; omega) m 0 at_ now M (by rw [way_length]; omega) rfl (by omega) (by omega) (by omega) hw (by omega) hM
    have himpl : ∀ r, Ev (fun k => Ar.l1 k x3 M' (now + m) p l l.length ((i + 1 : Nat) : Int) n false) r → Ev (fun k => Ar.l1 k x3 M time at_ l l.length i n false) r := by
      intro r hr
      have hj : Ev (fun k => Ar.j2 k x3 M now at_ p l l.length i n false) r := by
        refine Ev.step (fun k => by rw [Ar.j2]) (Ev.bind hway ?_)
        refine Av (by simp; omega) ?_
        simp only [Option.bind_some, List.singleton_append, List.drop_succ_cons, List.drop_zero]
        exact m3 r hr
      refine Ev.step (fun k => by rw [Ar.l1]) (Av (by omega) (Av (by omega) (Av (by omega) ?_)))
      rw [hrd]
      by_cases c : (i : Int) > 0
      · refine Av c ?_
        rw [w64 (x := time + x3) (by omega) (by omega), show time + x3 = now from by omega]
        exact hj
      · refine Bu c ?_
        rw [show time = now from by omega]
        exact hj
    by_cases hpa : p > a
    · have hph := p2 hpa
      rw [if_pos hpa, if_pos hpa] at hs
      obtain ⟨S1, s1, s2, s3⟩ := Bp.right (n := n) l x3 now at_ low p i hi hrd hn ⟨p0, p1⟩ (by omega) ⟨hw, by omega⟩ (p - high).toNat high S (by omega) (by omega) hS
      have s4 : ∀ r, Ev (fun k => Bp.l0 k l x3 S1 (now + max (p - at_) (at_ - p) + x3) p low p ((i + 1 : Nat) : Int)) r → Ev (fun k => Bp.l2 k l x3 S1 now at_ low p i) r := by
        intro r hr
        refine Ev.step (fun k => by rw [Bp.l2]) (Av (by omega) (Av (by omega) ?_))
        rw [hrd]
        refine Bu (by omega) ?_
        rw [w64 (x := p - at_) (by omega) (by omega), w64 (x := at_ - p) (by omega) (by omega), Ec.at, w64 (x := (i : Int) + 1) (by omega) (by omega)]
        simp only [Option.bind_some]
        rw [w64 (x := now + max (p - at_) (at_ - p)) (by omega) (by omega), w64 (x := now + max (p - at_) (at_ - p) + x3) (by omega) (by omega)]
        exact hr
      have hmax : now + max (p - at_) (at_ - p) + x3 = now + m + x3 := by omega
      rw [hmax] at s4
      obtain ⟨r, r1, r2, r3⟩ := ih (i + 1) _ low p p (now + m + x3) (now + m) S1 M' (by omega) hs h0 (by omega) (by omega) p1 h4 (by omega) s1 m1
        (fun q q1 q2 => by
          have a1 := s2 q (by omega) (by omega)
          have a2 := m2 q (by omega) (by omega)
          by_cases c : q ≤ high
          · have b1 := hin q q1 c
            rw [a1.2 (by omega), a2.2 (by omega)]
            exact b1
          · have b1 := hout q (by omega) (by omega) (by omega)
            rw [a1.1 (by omega), a2.1 (by omega)]
            omega)
        (fun q q1 q2 q3 => by
          have a2 := m2 q (by omega) (by omega)
          rw [a2.2 (by omega)]
          exact hout q q1 q2 (by omega))
        (.inr ⟨by omega, rfl⟩) (by omega) (by omega) (by omega)
      refine ⟨r, ?_, himpl r r2, r3⟩
      refine Ev.step (fun k => by rw [Bp.l0]) (Av (by omega) ?_)
      exact s3 r (s4 r r1)
    · have hpl := p3 hpa
      rw [if_neg hpa, if_neg hpa] at hs
      obtain ⟨S1, s1, s2, s3⟩ := Bp.left (n := n) l x3 now at_ high p i (by omega) hi hrd hn ⟨p0, p1⟩ (by omega) ⟨hw, by omega⟩ hx3 (low - p).toNat low S (by omega) (by omega) hS
      have hmax : now + max (p - at_) (at_ - p) + x3 = now + m + x3 := by omega
      rw [hmax] at s3
      obtain ⟨r, r1, r2, r3⟩ := ih (i + 1) _ p high p (now + m + x3) (now + m) S1 M' (by omega) hs p0 (by omega) (by omega) h3 (by omega) h5 s1 m1
        (fun q q1 q2 => by
          have a1 := s2 q (by omega) (by omega)
          have a2 := m2 q (by omega) (by omega)
          by_cases c : low ≤ q
          · have b1 := hin q c q2
            rw [a1.2 (by omega), a2.2 (by omega)]
            exact b1
          · have b1 := hout q (by omega) (by omega) (by omega)
            rw [a1.1 (by omega), a2.1 (by omega)]
            omega)
        (fun q q1 q2 q3 => by
          have a2 := m2 q (by omega) (by omega)
          rw [a2.2 (by omega)]
          exact hout q q1 q2 (by omega))
        (.inr ⟨by omega, rfl⟩) (by omega) (by omega) (by omega)
      refine ⟨r, ?_, himpl r r2, r3⟩
      refine Ev.step (fun k => by rw [Bp.l0]) (Av (by omega) ?_)
      refine Ev.step (fun k => by rw [Bp.l1]) (Av (by omega) (Av (by omega) ?_))
      rw [hrd]
      refine Bu (by omega) ?_
      exact s3 r r1
/-- Both times of a search are the same list, greater than 0 but at the start. -/
theorem times_evp {n a : Int} {l : List Int} {x3 : Int} (hl : l.length ≤ 1048576) (h : Ey n false a l = true) (hx3 : 0 ≤ x3 ∧ x3 ≤ 9) :
    ∃ r : List Int, Ev (fun k => Bp.f k n false a l x3) r ∧ Ev (fun k => Ar.f k n false a l x3) r ∧ r.length = n ∧ ∀ q, 0 ≤ q → q < n → q ≠ a → 0 < rd r q ∧ rd r q ≤ 100000000 := by
  simp only [Ey, Bool.and_eq_true] at h
  have hb := okStart_b h.1
  have hn : 2 ≤ n ∧ n ≤ 24 := ⟨hb.2.2.1, hb.2.2.2.1⟩
  have ha : 0 ≤ a ∧ a ≤ n - 1 := hb.2.2.2.2
  have hrep : (List.replicate n.toNat (0 : Int)).length = n.toNat := by simp
  have hz : ∀ q : Int, rd (List.replicate n.toNat (0 : Int)) q = 0 := by
    intro q
    simp [rd, List.getD_eq_getElem?_getD, List.getElem?_replicate]
    split <;> rfl
  have hmin : ∀ (d i : Nat) (M : List Int), i + d = n.toNat → M.length = n → (∀ q : Int, 0 ≤ q → q < i → rd M q = -1) →
      ∃ M' : List Int, M'.length = n ∧ (∀ q, 0 ≤ q → q < n → rd M' q = if q = a then 0 else -1) ∧
        ∀ r, Ev (fun k => Ar.l1 k x3 M' 0 a l l.length 0 n false) r → Ev (fun k => Ar.l0 k a l x3 M (n.toNat : Int) i n false) r := by
    intro d
    induction d with
    | zero =>
      intro i M e hM hq
      refine ⟨M.set a.toNat 0, by simpa using hM, fun q h1 h2 => ?_, fun r hr => ?_⟩
      · rw [rd_set M ⟨ha.1, by omega⟩ h1, hq q h1 (by omega)]
      · refine Ev.step (fun k => by rw [Ar.l0]) (Bu (by omega) (Av (by omega) (Av (by omega) ?_)))
        exact hr
    | succ d ih =>
      intro i M e hM hq
      obtain ⟨M', h1, h2, h3⟩ := ih (i + 1) (M.set ((i : Nat) : Int).toNat (-1)) (by omega) (by simpa using hM) (fun q q1 q2 => by
        rw [rd_set M (by omega) q1]
        by_cases c : q = i
        · rw [if_pos c]
        · rw [if_neg c]
          exact hq q q1 (by omega))
      refine ⟨M', h1, h2, fun r hr => ?_⟩
      refine Ev.step (fun k => by rw [Ar.l0]) (Av (by omega) (Av (by omega) (Av (by omega) ?_)))
      rw [w64 (x := (i : Int) + 1) (by omega) (by omega)]
      exact h3 r hr
  obtain ⟨M', m1, m2, m3⟩ := hmin n.toNat 0 (List.replicate n.toNat 0) (by omega) (by rw [hrep]; omega) (fun q q1 q2 => by omega)
  obtain ⟨r, r1, r2, r3⟩ := times_both (n := n) (a := a) l x3 hl hn hx3 l.length 0 none a a a 0 0 (List.replicate n.toNat 0) M' (by omega) (by simpa using h.2) ha.1 (by omega) (by omega) ha.2 (by omega) (by omega) (by rw [hrep]; omega) m1
    (fun q q1 q2 => by
      rw [hz, m2 q (by omega) (by omega), if_pos (by omega)]
      omega)
    (fun q q1 q2 q3 => by
      rw [m2 q q1 q2, if_neg (by omega)]
      omega)
    (.inl ⟨rfl, rfl⟩) (by omega) (by omega) (by omega)
  refine ⟨r, ?_, ?_, r3⟩
  · unfold Bp.f
    exact Av (by omega) (Av (by omega) r1)
  · unfold Ar.f
    refine Av (by omega) (Av (by omega) ?_)
    simp only [Option.bind_some]
    rw [hrep]
    exact m3 r r2
/-- When a place is first visited by the rest of a search: now at this place, with this range visited. -/
def tm (x a q : Int) : Int → Int → Int → Int → List Int → Int
  | now, _, _, _, [] => now
  | now, at_, low, high, p :: t =>
    if (p > a ∧ high < q ∧ q ≤ p) ∨ (¬ p > a ∧ p ≤ q ∧ q < low) then now + max (q - at_) (at_ - q)
    else tm x a q (now + max (p - at_) (at_ - p) + x) p (if p > a then low else p) (if p > a then p else high) t
/-- The reference's times are these. -/
theorem times_tm {n a : Int} (l : List Int) (x3 : Int) (hl : l.length ≤ 1048576) (hn : 2 ≤ n ∧ n ≤ 24) (hx3 : 0 ≤ x3 ∧ x3 ≤ 9) :
    ∀ (d i : Nat) (pr : Option Bool) (low high at_ now : Int) (S : List Int), i + d = l.length → srch n a pr low high (l.drop i) = true → 0 ≤ low → low ≤ at_ → at_ ≤ high → high ≤ n - 1 → low ≤ a → a ≤ high → S.length = n → 0 ≤ now → now ≤ 40 * i →
      ∃ r : List Int, Ev (fun k => Bp.l0 k l x3 S now at_ low high i) r ∧ r.length = n ∧ (∀ q, 0 ≤ q → q < n → (low ≤ q ∧ q ≤ high → rd r q = rd S q) ∧ (¬ (low ≤ q ∧ q ≤ high) → rd r q = tm x3 a q now at_ low high (l.drop i))) := by
  intro d
  induction d with
  | zero =>
    intro i pr low high at_ now S e hs h0 h1 h2 h3 h4 h5 hS hw hw2
    rw [List.drop_eq_nil_of_le (by omega)] at hs
    have hs := srch_nil hs
    exact ⟨S, Ev.step (fun k => by rw [Bp.l0]) (Bu (by omega) (Cv rfl)), hS, fun q hq hq2 => ⟨fun _ => rfl, fun c => by omega⟩⟩
  | succ d ih =>
    intro i pr low high at_ now S e hs h0 h1 h2 h3 h4 h5 hS hw hw2
    have hi : i < l.length := by omega
    rw [List.drop_eq_getElem_cons hi] at hs
    obtain ⟨p0, p1, p2, p3, hs⟩ := srch_cons hs
    have hrd : rd l i = l[i] := rd_get rfl hi
    generalize hp0 : l[i] = p at *
    have hdrop : l.drop i = p :: l.drop (i + 1) := by rw [List.drop_eq_getElem_cons hi, hp0]
    by_cases hpa : p > a
    · have hph := p2 hpa
      rw [if_pos hpa, if_pos hpa] at hs
      obtain ⟨S1, s1, s2, s3⟩ := Bp.right (n := n) l x3 now at_ low p i hi hrd hn ⟨p0, p1⟩ (by omega) ⟨hw, by omega⟩ (p - high).toNat high S (by omega) (by omega) hS
      obtain ⟨r, r1, r2, r3⟩ := ih (i + 1) (some (decide (p > a))) low p p (now + max (p - at_) (at_ - p) + x3) S1 (by omega) hs h0 (by omega) (by omega) (by omega) h4 (by omega) s1 (by omega) (by omega)
      refine ⟨r, Ev.step (fun k => by rw [Bp.l0]) (Av (by omega) (s3 _ ?_)), r2, fun q hq hq2 => ⟨fun c => ?_, fun c => ?_⟩⟩
      · refine Ev.step (fun k => by rw [Bp.l2]) (Av (by omega) (Av (by omega) ?_))
        rw [hrd]
        refine Bu (by omega) ?_
        rw [w64 (x := p - at_) (by omega) (by omega), w64 (x := at_ - p) (by omega) (by omega), Ec.at, w64 (x := (i : Int) + 1) (by omega) (by omega)]
        simp only [Option.bind_some]
        rw [w64 (x := now + max (p - at_) (at_ - p)) (by omega) (by omega), w64 (x := now + max (p - at_) (at_ - p) + x3) (by omega) (by omega)]
        exact r1
      · rw [(r3 q hq hq2).1 (by omega), (s2 q hq hq2).2 (by omega)]
      · rw [hdrop, tm]
        by_cases c2 : high < q ∧ q ≤ p
        · rw [if_pos (.inl ⟨hpa, c2⟩), (r3 q hq hq2).1 (by omega), (s2 q hq hq2).1 c2]
          omega
        · rw [if_neg (by omega), (r3 q hq hq2).2 (by omega), if_pos hpa, if_pos hpa]
    · have hph := p3 hpa
      rw [if_neg hpa, if_neg hpa] at hs
      obtain ⟨S1, s1, s2, s3⟩ := Bp.left (n := n) l x3 now at_ high p i (by omega) hi hrd hn ⟨p0, p1⟩ (by omega) ⟨hw, by omega⟩ hx3 (low - p).toNat low S (by omega) (by omega) hS
      obtain ⟨r, r1, r2, r3⟩ := ih (i + 1) (some (decide (p > a))) p high p (now + max (p - at_) (at_ - p) + x3) S1 (by omega) hs p0 (by omega) (by omega) (by omega) (by omega) h5 s1 (by omega) (by omega)
      refine ⟨r, Ev.step (fun k => by rw [Bp.l0]) (Av (by omega) ?_), r2, fun q hq hq2 => ⟨fun c => ?_, fun c => ?_⟩⟩
      · refine Ev.step (fun k => by rw [Bp.l1]) (Av (by omega) (Av (by omega) ?_))
        rw [hrd]
        exact Bu (by omega) (s3 _ r1)
      · rw [(r3 q hq hq2).1 (by omega), (s2 q hq hq2).2 (by omega)]
      · rw [hdrop, tm]
        by_cases c2 : p ≤ q ∧ q < low
        · rw [if_pos (.inr ⟨hpa, c2⟩), (r3 q hq hq2).1 (by omega), (s2 q hq hq2).1 c2]
          omega
        · rw [if_neg (by omega), (r3 q hq hq2).2 (by omega), if_neg hpa, if_neg hpa]
/-- The times of a search, both sides' and told by 'tm'. -/
theorem times_tmv {n a : Int} {l : List Int} {x3 : Int} (hl : l.length ≤ 1048576) (h : Ey n false a l = true) (hx3 : 0 ≤ x3 ∧ x3 ≤ 9) :
    ∃ t : List Int, Ev (fun k => Bp.f k n false a l x3) t ∧ Ev (fun k => Ar.f k n false a l x3) t ∧ t.length = n ∧ (∀ q, 0 ≤ q → q < n → rd t q = if q = a then 0 else tm x3 a q 0 a a a l) ∧ (∀ q, 0 ≤ q → q < n → q ≠ a → 0 < rd t q ∧ rd t q ≤ 100000000) := by
  have h' := h
  simp only [Ey, Bool.and_eq_true] at h'
  have hb := okStart_b h'.1
  obtain ⟨t, t1, t2, t3, t4⟩ := times_evp hl h hx3
  obtain ⟨r, r1, r2, r3⟩ := times_tm (n := n) (a := a) l x3 hl ⟨hb.2.2.1, hb.2.2.2.1⟩ hx3 l.length 0 none a a a 0 (List.replicate n.toNat 0) (by omega) h'.2 (by omega) (by omega) (by omega) (by omega) (by omega) (by omega) (by rw [List.length_replicate]; omega) (by omega) (by omega)
  have e : t = r := by
    refine ev_det t1 ?_
    unfold Bp.f
    exact Av (by omega) (Av (by omega) r1)
  subst e
  refine ⟨t, t1, t2, t3, fun q q0 q1 => ?_, t4⟩
  by_cases c : q = a
  · rw [if_pos c, (r3 q q0 q1).1 (by omega), rd_get (n := q.toNat) (by omega) (by rw [List.length_replicate]; omega)]
    simp
  · rw [if_neg c, (r3 q q0 q1).2 (by omega)]
    rfl
theorem gap_line (n a b : Int) : gap n false a b = max (a - b) (b - a) := by
  unfold gap
  rw [if_neg (by simp)]
/-- The worst place of some times: both sides go the same way. -/
theorem worst_both {n a : Int} (t : List Int) (hn : 2 ≤ n ∧ n ≤ 24) (ha : 0 ≤ a ∧ a ≤ n - 1) (ht : t.length = n) (hpos : ∀ q, 0 ≤ q → q < n → q ≠ a → 0 < rd t q ∧ rd t q ≤ 100000000) :
    ∀ (d i : Nat) (b pl x y : Int), i + d = n.toNat → (i = 0 ∨ i = 1 ∧ a = 0) ∧ x = 0 ∧ y = 1 ∨ b = pl ∧ 0 < x ∧ x ≤ 100000000 ∧ 0 < y ∧ y ≤ 24 →
      ∃ b' x' y' : Int, Ev (fun k => Da.l0 k a t b x y i n false) (b', x', y') ∧ 0 < x' ∧ x' ≤ 100000000 ∧ 0 < y' ∧ y' ≤ 24 ∧
        ∀ r, Ev (fun k => (Dy.f k x' y').bind fun bt => some (bt.1, bt.2, b')) r → Ev (fun k => Bg.l0 k a pl t t.length i n false x y) r := by
  intro d
  induction d with
  | zero =>
    intro i b pl x y e h
    refine ⟨b, x, y, Ev.step (fun k => by rw [Da.l0]) (Bu (by omega) (Cv rfl)), by omega, by omega, by omega, by omega, fun r hr => ?_⟩
    refine Ev.step (fun k => by rw [Bg.l0]) (Bu (by omega) ?_)
    rw [show pl = b from by omega]
    exact hr
  | succ d ih =>
    intro i b pl x y e h
    have e1 : wrap64 ((i : Int) + 1) = ((i + 1 : Nat) : Int) := by unfold wrap64; omega
    have hs : ∀ r, Ev (fun k => (if max (a - (i : Int)) ((i : Int) - a) > 0 then (if wrap64 (rd t i * y) > wrap64 (x * max (a - (i : Int)) ((i : Int) - a)) then Da.l0 k a t i (rd t i) (max (a - (i : Int)) ((i : Int) - a)) ((i + 1 : Nat) : Int) n false else Da.l0 k a t b x y ((i + 1 : Nat) : Int) n false) else Da.l0 k a t b x y ((i + 1 : Nat) : Int) n false)) r → Ev (fun k => Da.l0 k a t b x y i n false) r := by
      intro r hr
      refine Ev.step (fun k => by rw [Da.l0]) (Av (by omega) ?_)
      rw [Fz.at false hn ha (by omega), gap_line, e1]
      simp only [Option.bind_some]
      by_cases c : max (a - (i : Int)) ((i : Int) - a) > 0
      · exact Av c (Av (by omega) (Av (by omega) (by simpa only [c, if_true] using hr)))
      · exact Bu c (by simpa only [c, if_false] using hr)
    have hi : ∀ r, Ev (fun k => (if (i : Int) = a then Bg.l0 k a pl t t.length ((i + 1 : Nat) : Int) n false x y else (if wrap64 (rd t i * y) > wrap64 (x * max (a - (i : Int)) ((i : Int) - a)) then Bg.l0 k a i t t.length ((i + 1 : Nat) : Int) n false (rd t i) (max (a - (i : Int)) ((i : Int) - a)) else Bg.l0 k a pl t t.length ((i + 1 : Nat) : Int) n false x y))) r → Ev (fun k => Bg.l0 k a pl t t.length i n false x y) r := by
      intro r hr
      refine Ev.step (fun k => by rw [Bg.l0]) (Av (by omega) (Av (by omega) (Av (by omega) ?_)))
      rw [impl_Road_gap.at false hn ha (by omega), gap_line, e1]
      simp only [Option.bind_some]
      exact hr
    by_cases c : (i : Int) = a
    · obtain ⟨b', x', y', r1, r2, r3, r4, r5, r6⟩ := ih (i + 1) b pl x y (by omega) (by omega)
      refine ⟨b', x', y', hs _ ?_, r2, r3, r4, r5, fun r hr => hi _ ?_⟩
      · exact Bu (by omega) r1
      · exact Av c (r6 r hr)
    · have hp := hpos i (by omega) (by omega) c
      by_cases c2 : wrap64 (rd t i * y) > wrap64 (x * max (a - (i : Int)) ((i : Int) - a))
      · obtain ⟨b', x', y', r1, r2, r3, r4, r5, r6⟩ := ih (i + 1) i i (rd t i) (max (a - (i : Int)) ((i : Int) - a)) (by omega) (.inr (by omega))
        refine ⟨b', x', y', hs _ ?_, r2, r3, r4, r5, fun r hr => hi _ ?_⟩
        · exact Av (by omega) (Av c2 r1)
        · exact Bu c (Av c2 (r6 r hr))
      · have h2 : b = pl ∧ 0 < x ∧ x ≤ 100000000 ∧ 0 < y ∧ y ≤ 24 := by
          rcases h with ⟨_, h0, h1⟩ | h
          · refine absurd ?_ c2
            rw [h0, h1, Int.mul_one, Int.zero_mul, w64 (x := rd t i) (by omega) (by omega), w64 (x := 0) (by omega) (by omega)]
            exact hp.1
          · exact h
        obtain ⟨b', x', y', r1, r2, r3, r4, r5, r6⟩ := ih (i + 1) b pl x y (by omega) (.inr h2)
        refine ⟨b', x', y', hs _ ?_, r2, r3, r4, r5, fun r hr => hi _ ?_⟩
        · exact Av (by omega) (Bu c2 r1)
        · exact Bu c (Bu c2 (r6 r hr))
/-- What both sides find: the place, its time and its gap. -/
theorem worst_ev {n a : Int} {l : List Int} {x3 : Int} (hl : l.length ≤ 1048576) (h : Ey n false a l = true) (hx3 : 0 ≤ x3 ∧ x3 ≤ 9) :
    ∃ b x y : Int, Ev (fun k => Da.f k n false a l x3) (b, x, y) ∧ 0 < x ∧ x ≤ 100000000 ∧ 0 < y ∧ y ≤ 24 ∧
      ∀ r, Ev (fun k => (Dy.f k x y).bind fun bt => some (bt.1, bt.2, b)) r → Ev (fun k => Bg.f k n false a l x3) r := by
  have h' := h
  simp only [Ey, Bool.and_eq_true] at h'
  have hb := okStart_b h'.1
  obtain ⟨t, t1, t2, t3, t4⟩ := times_evp hl h hx3
  obtain ⟨b, x, y, r1, r2, r3, r4, r5, r6⟩ := worst_both t ⟨hb.2.2.1, hb.2.2.2.1⟩ hb.2.2.2.2 t3 t4 n.toNat 0 0 a 0 1 (by omega) (.inl ⟨.inl rfl, rfl, rfl⟩)
  refine ⟨b, x, y, ?_, r2, r3, r4, r5, fun r hr => ?_⟩
  · unfold Da.f
    exact Ev.bind t1 r1
  · unfold Bg.f
    exact Ev.bind t2 (r6 r hr)
/-- The greatest common divisor, by both sides. -/
theorem Cz.pos : ∀ (m : Nat) (a b : Int), b.toNat ≤ m → 0 ≤ b → 0 < a → ∃ g, 0 < g ∧ Ev (fun k => Cz.l0 k a b) g := by
  intro m
  induction m with
  | zero =>
    intro a b h1 h2 h3
    exact ⟨a, h3, Ev.step (fun k => by rw [Cz.l0]) (Av (by omega) (Cv rfl))⟩
  | succ m ih =>
    intro a b h1 h2 h3
    by_cases c : b = 0
    · exact ⟨a, h3, Ev.step (fun k => by rw [Cz.l0]) (Av c (Cv rfl))⟩
    · have e : Int.tmod a b = a % b := Int.tmod_eq_emod_of_nonneg (by omega)
      have e0 := Int.emod_nonneg a c
      have e1 := Int.emod_lt_of_pos a (show 0 < b by omega)
      obtain ⟨g, g0, g1⟩ := ih b (a % b) (by omega) e0 (by omega)
      exact ⟨g, g0, Ev.step (fun k => by rw [Cz.l0]) (Bu c (by rw [e]; exact g1))⟩
/-- b is the worst place among the first i. -/
def Wst (t : List Int) (n a b x y i : Int) : Prop := b ≠ a ∧ 0 ≤ b ∧ b < n ∧ x = rd t b ∧ y = max (a - b) (b - a) ∧ ∀ q, 0 ≤ q → q < i → q ≠ a → rd t q * y ≤ x * max (a - q) (q - a)
theorem bound {p q : Int} (hp : 0 ≤ p) (hp1 : p ≤ 100000000) (hq : 0 ≤ q) (hq1 : q ≤ 24) : wrap64 (p * q) = p * q := by
  have h1 := Int.mul_nonneg hp hq
  have h2 := Int.mul_le_mul hp1 hq1 hq (by omega)
  exact w64 (by omega) (by omega)
theorem frac_trans {A Y X G B H : Int} (hy : 0 < Y) (hG : 0 ≤ G) (hH : 0 ≤ H) (h1 : A * Y ≤ X * G) (h2 : X * H ≤ B * Y) : A * H ≤ B * G := by
  have e1 : A * Y * H ≤ X * G * H := Int.mul_le_mul_of_nonneg_right h1 hH
  have e2 : X * H * G ≤ B * Y * G := Int.mul_le_mul_of_nonneg_right h2 hG
  rw [Int.mul_right_comm A Y H] at e1
  rw [Int.mul_right_comm B Y G, Int.mul_right_comm X H G] at e2
  exact Int.le_of_mul_le_mul_right (Int.le_trans e1 e2) hy
theorem Wst.skip {t : List Int} {n a b x y : Int} {i : Nat} (h : Wst t n a b x y i) (c : (i : Int) = a) : Wst t n a b x y ((i + 1 : Nat) : Int) :=
  ⟨h.1, h.2.1, h.2.2.1, h.2.2.2.1, h.2.2.2.2.1, fun q q1 q2 q3 => h.2.2.2.2.2 q q1 (by omega) q3⟩
theorem Wst.keep {t : List Int} {n a b x y : Int} {i : Nat} (h : Wst t n a b x y i) (hp : 0 < rd t i ∧ rd t i ≤ 100000000) (hx : 0 < x ∧ x ≤ 100000000 ∧ 0 < y ∧ y ≤ 24) (hg : 0 ≤ max (a - (i : Int)) ((i : Int) - a) ∧ max (a - (i : Int)) ((i : Int) - a) ≤ 24) (c : ¬ wrap64 (rd t i * y) > wrap64 (x * max (a - (i : Int)) ((i : Int) - a))) : Wst t n a b x y ((i + 1 : Nat) : Int) := by
  rw [bound (by omega) (by omega) (by omega) (by omega), bound (by omega) (by omega) hg.1 hg.2] at c
  refine ⟨h.1, h.2.1, h.2.2.1, h.2.2.2.1, h.2.2.2.2.1, fun q q1 q2 q3 => ?_⟩
  by_cases d : q = i
  · subst d
    omega
  · exact h.2.2.2.2.2 q q1 (by omega) q3
theorem Wst.new {t : List Int} {n a b pl x y : Int} {i : Nat} (h1 : (i : Int) < n) (hg : 0 ≤ max (a - (i : Int)) ((i : Int) - a) ∧ max (a - (i : Int)) ((i : Int) - a) ≤ 24) (ci : ¬ (i : Int) = a) (h : 0 < x → Wst t n a b x y i) (hx : (i = 0 ∨ i = 1 ∧ a = 0) ∧ x = 0 ∧ y = 1 ∨ b = pl ∧ 0 < x ∧ x ≤ 100000000 ∧ 0 < y ∧ y ≤ 24) (hp : 0 < rd t i ∧ rd t i ≤ 100000000) (c : wrap64 (rd t i * y) > wrap64 (x * max (a - (i : Int)) ((i : Int) - a))) : Wst t n a i (rd t i) (max (a - (i : Int)) ((i : Int) - a)) ((i + 1 : Nat) : Int) := by
  refine ⟨ci, by omega, h1, rfl, rfl, fun q q1 q2 q3 => ?_⟩
  by_cases d : q = i
  · subst d
    exact Int.le_refl _
  · rcases hx with ⟨z, _, _⟩ | ⟨_, x1, x2, x3, x4⟩
    · omega
    · rw [bound (by omega) (by omega) (by omega) (by omega), bound (by omega) (by omega) hg.1 hg.2] at c
      exact frac_trans x3 (by omega) hg.1 ((h x1).2.2.2.2.2 q q1 (by omega) q3) (by omega)
/-- As worst_both, and what the worst place is. -/
theorem worst_all {n a : Int} (t : List Int) (hn : 2 ≤ n ∧ n ≤ 24) (ha : 0 ≤ a ∧ a ≤ n - 1) (ht : t.length = n) (hpos : ∀ q, 0 ≤ q → q < n → q ≠ a → 0 < rd t q ∧ rd t q ≤ 100000000) :
    ∀ (d i : Nat) (b pl x y : Int), i + d = n.toNat → (i = 0 ∨ i = 1 ∧ a = 0) ∧ x = 0 ∧ y = 1 ∨ b = pl ∧ 0 < x ∧ x ≤ 100000000 ∧ 0 < y ∧ y ≤ 24 → (0 < x → Wst t n a b x y i) →
      ∃ b' x' y' : Int, Ev (fun k => Da.l0 k a t b x y i n false) (b', x', y') ∧ 0 < x' ∧ x' ≤ 100000000 ∧ 0 < y' ∧ y' ≤ 24 ∧ Wst t n a b' x' y' n ∧
        ∀ r, Ev (fun k => (Dy.f k x' y').bind fun bt => some (bt.1, bt.2, b')) r → Ev (fun k => Bg.l0 k a pl t t.length i n false x y) r := by
  intro d
  induction d with
  | zero =>
    intro i b pl x y e h hG
    refine ⟨b, x, y, Ev.step (fun k => by rw [Da.l0]) (Bu (by omega) (Cv rfl)), by omega, by omega, by omega, by omega, by rw [show n = ((i : Nat) : Int) by omega]; rw [show n = ((i : Nat) : Int) by omega] at hG; exact hG (by omega), fun r hr => ?_⟩
    refine Ev.step (fun k => by rw [Bg.l0]) (Bu (by omega) ?_)
    rw [show pl = b from by omega]
    exact hr
  | succ d ih =>
    intro i b pl x y e h hG
    have e1 : wrap64 ((i : Int) + 1) = ((i + 1 : Nat) : Int) := by unfold wrap64; omega
    have hs : ∀ r, Ev (fun k => (if max (a - (i : Int)) ((i : Int) - a) > 0 then (if wrap64 (rd t i * y) > wrap64 (x * max (a - (i : Int)) ((i : Int) - a)) then Da.l0 k a t i (rd t i) (max (a - (i : Int)) ((i : Int) - a)) ((i + 1 : Nat) : Int) n false else Da.l0 k a t b x y ((i + 1 : Nat) : Int) n false) else Da.l0 k a t b x y ((i + 1 : Nat) : Int) n false)) r → Ev (fun k => Da.l0 k a t b x y i n false) r := by
      intro r hr
      refine Ev.step (fun k => by rw [Da.l0]) (Av (by omega) ?_)
      rw [Fz.at false hn ha (by omega), gap_line, e1]
      simp only [Option.bind_some]
      by_cases c : max (a - (i : Int)) ((i : Int) - a) > 0
      · exact Av c (Av (by omega) (Av (by omega) (by simpa only [c, if_true] using hr)))
      · exact Bu c (by simpa only [c, if_false] using hr)
    have hi : ∀ r, Ev (fun k => (if (i : Int) = a then Bg.l0 k a pl t t.length ((i + 1 : Nat) : Int) n false x y else (if wrap64 (rd t i * y) > wrap64 (x * max (a - (i : Int)) ((i : Int) - a)) then Bg.l0 k a i t t.length ((i + 1 : Nat) : Int) n false (rd t i) (max (a - (i : Int)) ((i : Int) - a)) else Bg.l0 k a pl t t.length ((i + 1 : Nat) : Int) n false x y))) r → Ev (fun k => Bg.l0 k a pl t t.length i n false x y) r := by
      intro r hr
      refine Ev.step (fun k => by rw [Bg.l0]) (Av (by omega) (Av (by omega) (Av (by omega) ?_)))
      rw [impl_Road_gap.at false hn ha (by omega), gap_line, e1]
      simp only [Option.bind_some]
      exact hr
    by_cases c : (i : Int) = a
    · obtain ⟨b', x', y', r1, r2, r3, r4, r5, rW, r6⟩ := ih (i + 1) b pl x y (by omega) (by omega) (fun h0 => (hG h0).skip c)
      refine ⟨b', x', y', hs _ ?_, r2, r3, r4, r5, rW, fun r hr => hi _ ?_⟩
      · exact Bu (by omega) r1
      · exact Av c (r6 r hr)
    · have hp := hpos i (by omega) (by omega) c
      by_cases c2 : wrap64 (rd t i * y) > wrap64 (x * max (a - (i : Int)) ((i : Int) - a))
      · obtain ⟨b', x', y', r1, r2, r3, r4, r5, rW, r6⟩ := ih (i + 1) i i (rd t i) (max (a - (i : Int)) ((i : Int) - a)) (by omega) (.inr (by omega)) (fun _ => Wst.new (by omega) (by omega) c hG h hp c2)
        refine ⟨b', x', y', hs _ ?_, r2, r3, r4, r5, rW, fun r hr => hi _ ?_⟩
        · exact Av (by omega) (Av c2 r1)
        · exact Bu c (Av c2 (r6 r hr))
      · have h2 : b = pl ∧ 0 < x ∧ x ≤ 100000000 ∧ 0 < y ∧ y ≤ 24 := by
          rcases h with ⟨_, h0, h1⟩ | h
          · refine absurd ?_ c2
            rw [h0, h1, Int.mul_one, Int.zero_mul, w64 (x := rd t i) (by omega) (by omega), w64 (x := 0) (by omega) (by omega)]
            exact hp.1
          · exact h
        obtain ⟨b', x', y', r1, r2, r3, r4, r5, rW, r6⟩ := ih (i + 1) b pl x y (by omega) (.inr h2) (fun h0 => (hG h0).keep hp h2.2 (by omega) c2)
        refine ⟨b', x', y', hs _ ?_, r2, r3, r4, r5, rW, fun r hr => hi _ ?_⟩
        · exact Av (by omega) (Bu c2 r1)
        · exact Bu c (Bu c2 (r6 r hr))
theorem gcd_great : ∀ (m : Nat) (a b : Int), b.toNat ≤ m → 0 ≤ b → 0 < a → ∃ g, 0 < g ∧ g ∣ a ∧ g ∣ b ∧ (∀ c : Int, c ∣ a → c ∣ b → c ∣ g) ∧ Ev (fun k => Cz.l0 k a b) g := by
  intro m
  induction m with
  | zero =>
    intro a b h1 h2 h3
    exact ⟨a, h3, Int.dvd_refl a, by rw [show b = 0 by omega]; exact Int.dvd_zero a, fun c h _ => h, Ev.step (fun k => by rw [Cz.l0]) (Av (by omega) (Cv rfl))⟩
  | succ m ih =>
    intro a b h1 h2 h3
    by_cases c : b = 0
    · exact ⟨a, h3, Int.dvd_refl a, by rw [c]; exact Int.dvd_zero a, fun c h _ => h, Ev.step (fun k => by rw [Cz.l0]) (Av c (Cv rfl))⟩
    · have e : Int.tmod a b = a % b := Int.tmod_eq_emod_of_nonneg (by omega)
      have e0 := Int.emod_nonneg a c
      have e1 := Int.emod_lt_of_pos a (show 0 < b by omega)
      obtain ⟨g, g0, g2, g3, g5, g1⟩ := ih b (a % b) (by omega) e0 (by omega)
      refine ⟨g, g0, ?_, g2, fun d h h' => g5 d h' ?_, Ev.step (fun k => by rw [Cz.l0]) (Bu c (by rw [e]; exact g1))⟩
      · rw [← Int.emod_add_mul_ediv a b]
        exact Int.dvd_add g3 (Int.dvd_mul_of_dvd_left g2)
      · rw [Int.emod_def]
        exact Int.dvd_sub h (Int.dvd_mul_of_dvd_left h')
theorem le_mul {p h : Int} (hp : 0 < p) (hh : 0 < h) : p ≤ p * h := by
  have h2 := Int.mul_le_mul_of_nonneg_left (show 1 ≤ h by omega) (Int.le_of_lt hp)
  omega
theorem pos_of_mul {x d p : Int} (hx : 0 < x) (hd : 0 < d) (h : x = d * p) : 0 < p := by
  rcases Int.lt_or_le 0 p with c | c
  · exact c
  · have := Int.mul_le_mul_of_nonneg_left c (Int.le_of_lt hd)
    omega
/-- The ratio of a search in lowest terms, and the times that it comes of. -/
theorem ratio_val {n a : Int} {l : List Int} {ex : Int} (hl : l.length ≤ 1048576) (h : Ey n false a l = true) (hx : 0 ≤ ex ∧ ex ≤ 9) :
    ∃ (b p q d : Int), 0 < p ∧ 0 < q ∧ 0 < d ∧ p * d ≤ 100000000 ∧ q * d ≤ 24 ∧ Nat.Coprime p.toNat q.toNat ∧ Ev (fun k => Da.f k n false a l ex) (b, p * d, q * d) ∧ Ev (fun k => Bg.f k n false a l ex) (p, q, b) ∧
      b ≠ a ∧ 0 ≤ b ∧ b < n ∧ tm ex a b 0 a a a l * q = p * max (a - b) (b - a) ∧ ∀ r, 0 ≤ r → r < n → r ≠ a → tm ex a r 0 a a a l * q ≤ p * max (a - r) (r - a) := by
  have h' := h
  simp only [Ey, Bool.and_eq_true] at h'
  have hb := okStart_b h'.1
  obtain ⟨t, t1, t2, t3, t4, t5⟩ := times_tmv hl h hx
  obtain ⟨b, x, y, r1, r2, r3, r4, r5, rW, r6⟩ := worst_all t ⟨hb.2.2.1, hb.2.2.2.1⟩ hb.2.2.2.2 t3 t5 n.toNat 0 0 a 0 1 (by omega) (.inl ⟨.inl rfl, rfl, rfl⟩) (fun z => absurd z (by omega))
  obtain ⟨d, d0, ⟨p, hp⟩, ⟨q, hq⟩, dg, d3⟩ := gcd_great y.toNat x y (by omega) (by omega) r2
  have p0 := pos_of_mul r2 d0 hp
  have q0 := pos_of_mul r4 d0 hq
  have pb := le_mul p0 d0
  have qb := le_mul q0 d0
  rw [Int.mul_comm] at hp hq
  have ep : Int.tdiv x d = p := by rw [hp]; exact Int.mul_tdiv_cancel p (by omega)
  have eq : Int.tdiv y d = q := by rw [hq]; exact Int.mul_tdiv_cancel q (by omega)
  obtain ⟨w1, w2, w3, w4, w5, w6⟩ := rW
  have hcut : ∀ r, rd t r * y ≤ x * max (a - r) (r - a) → rd t r * q ≤ p * max (a - r) (r - a) := by
    intro r hr
    rw [hp, hq] at hr
    refine Int.le_of_mul_le_mul_right (a := d) ?_ d0
    rw [Int.mul_assoc, Int.mul_right_comm p]
    exact hr
  have hcut2 : p * max (a - b) (b - a) ≤ rd t b * q := by
    refine Int.le_of_mul_le_mul_right (a := d) ?_ d0
    rw [Int.mul_right_comm p, Int.mul_assoc (rd t b), ← hp, ← hq, w5, ← w4]
    exact Int.le_refl _
  have hcop : Nat.Coprime p.toNat q.toNat := by
    have g1 : ((Nat.gcd p.toNat q.toNat : Nat) : Int) ∣ p := by
      have := Int.ofNat_dvd.2 (Nat.gcd_dvd_left p.toNat q.toNat)
      rwa [Int.toNat_of_nonneg (Int.le_of_lt p0)] at this
    have g2 : ((Nat.gcd p.toNat q.toNat : Nat) : Int) ∣ q := by
      have := Int.ofNat_dvd.2 (Nat.gcd_dvd_right p.toNat q.toNat)
      rwa [Int.toNat_of_nonneg (Int.le_of_lt q0)] at this
    have g3 := dg (((Nat.gcd p.toNat q.toNat : Nat) : Int) * d) (by rw [hp]; exact Int.mul_dvd_mul g1 (Int.dvd_refl d)) (by rw [hq]; exact Int.mul_dvd_mul g2 (Int.dvd_refl d))
    have g4 := Int.le_of_dvd d0 g3
    have g5 : ((Nat.gcd p.toNat q.toNat : Nat) : Int) * d ≤ 1 * d := by omega
    have g6 := Int.le_of_mul_le_mul_right g5 d0
    have g7 := Nat.gcd_pos_of_pos_left q.toNat (show 0 < p.toNat by omega)
    show Nat.gcd p.toNat q.toNat = 1
    omega
  have hrd : ∀ r, 0 ≤ r → r < n → r ≠ a → rd t r = tm ex a r 0 a a a l := fun r c1 c2 c3 => by rw [t4 r c1 c2, if_neg c3]
  refine ⟨b, p, q, d, p0, q0, d0, by omega, by omega, hcop, ?_, ?_, w1, w2, w3, ?_, fun r c1 c2 c3 => ?_⟩
  · unfold Da.f
    rw [← hp, ← hq]
    exact Ev.bind t1 r1
  · unfold Bg.f
    refine Ev.bind t2 (r6 _ ?_)
    unfold Dy.f Cz.f
    refine Ev.bind (a := (p, q)) (Ev.bind d3 (Bu (by omega) (Cv ?_))) (Cv rfl)
    rw [ep, eq, w64 (by omega) (by omega), w64 (by omega) (by omega)]
  · rw [← hrd b w2 w3 w1]
    exact Int.le_antisymm (hcut b (w6 b w2 w3 w1)) hcut2
  · rw [← hrd r c1 c2 c3]
    exact hcut r (w6 r c1 c2 c3)
/-- Two fractions in lowest terms that are equal have the same parts. -/
theorem lowest {p q p' q' : Int} (h0 : 0 < p) (h1 : 0 < q) (h2 : 0 < p') (h3 : 0 < q') (c : Nat.Coprime p.toNat q.toNat) (c' : Nat.Coprime p'.toNat q'.toNat) (h : p * q' = p' * q) : p = p' ∧ q = q' := by
  have hn : p.toNat * q'.toNat = p'.toNat * q.toNat := by
    have e : ((p.toNat * q'.toNat : Nat) : Int) = ((p'.toNat * q.toNat : Nat) : Int) := by
      rw [Int.natCast_mul, Int.natCast_mul, Int.toNat_of_nonneg (Int.le_of_lt h0), Int.toNat_of_nonneg (Int.le_of_lt h1), Int.toNat_of_nonneg (Int.le_of_lt h2), Int.toNat_of_nonneg (Int.le_of_lt h3)]
      exact h
    exact Int.ofNat.inj e
  have d1 : p.toNat ∣ p'.toNat := c.dvd_of_dvd_mul_right (hn ▸ Nat.dvd_mul_right _ _)
  have d2 : p'.toNat ∣ p.toNat := c'.dvd_of_dvd_mul_right (hn ▸ Nat.dvd_mul_right _ _)
  have e1 := Nat.dvd_antisymm d1 d2
  have e2 : p = p' := by omega
  refine ⟨e2, ?_⟩
  rw [← e2] at h
  exact (Int.eq_of_mul_eq_mul_left (by omega) h).symm
theorem spec_l3Extra.at (x : Int) : spec_l3Extra.f x = some (decide (0 ≤ x ∧ x ≤ 9)) := by
  unfold spec_l3Extra.f
  rw [Eu.at]
  rfl
theorem Fx.at (x : Int) : Fx.f x = some (decide (0 ≤ x ∧ x ≤ 9)) := by
  unfold Fx.f
  rw [Fe.at]
  rfl
theorem cross {p q h p' q' h' : Int} (h0 : 0 < h) (h1 : 0 < h') : p * h * (q' * h') < p' * h' * (q * h) ↔ p * q' < p' * q := by
  have e1 : p * h * (q' * h') = (p * q') * (h * h') := by rw [Int.mul_assoc, Int.mul_assoc, Int.mul_left_comm h q' h']
  have e2 : p' * h' * (q * h) = (p' * q) * (h * h') := by rw [Int.mul_assoc, Int.mul_assoc, Int.mul_left_comm h' q h, Int.mul_comm h' h]
  rw [e1, e2]
  exact Int.mul_lt_mul_right (Int.mul_pos h0 h1)
/-- The best search of a list: both sides name it, it is of the list, and none has a less ratio. -/
theorem best_all {n a ex : Int} (hx : 0 ≤ ex ∧ ex ≤ 9) : ∀ (L : List (List Int)) (b : List Int) (c p q h : Int), 0 < p → 0 < q → 0 < h → p * h ≤ 100000000 → q * h ≤ 24 → b.length ≤ 1048576 →
    Ev (fun k => Da.f k n false a b ex) (c, p * h, q * h) → Ev (fun k => Bg.f k n false a b ex) (p, q, c) → (∀ l ∈ L, Ey n false a l = true ∧ l.length ≤ 1048576 ∧ l ≠ []) →
    ∃ (r : List Int) (x y z : Int), Ev (fun k => Ci.l0 k n false a ex L b) r ∧ Ev (fun k => Cc.l0 k n false a ex L (some b) p q) r ∧ r.length ≤ 1048576 ∧ (r = b ∨ r ∈ L) ∧ Ev (fun k => Bg.f k n false a r ex) (x, y, z) ∧ 0 < x ∧ x ≤ 100000000 ∧ 0 < y ∧ y ≤ 24 ∧ x * q ≤ p * y ∧
      ∀ l ∈ L, ∀ p' q' b' : Int, Ev (fun k => Bg.f k n false a l ex) (p', q', b') → x * q' ≤ p' * y := by
  intro L
  induction L with
  | nil =>
    intro b c p q h p0 q0 h0 p1 q1 hb _ hi _
    have m1 := le_mul p0 h0
    have m2 := le_mul q0 h0
    exact ⟨b, p, q, c, by unfold Ci.l0; exact Cv rfl, by unfold Cc.l0; exact Cv rfl, hb, .inl rfl, hi, p0, by omega, q0, by omega, Int.le_refl _, fun l hl => by simp at hl⟩
  | cons l L ih =>
    intro b c p q h p0 q0 h0 p1 q1 hb hw hi hL
    obtain ⟨l1, l2, l3⟩ := hL l (List.mem_cons_self ..)
    obtain ⟨c', p', q', h', p0', q0', h0', p1', q1', _, w1, w2, _⟩ := ratio_val l2 l1 hx
    have hL' : ∀ l ∈ L, Ey n false a l = true ∧ l.length ≤ 1048576 ∧ l ≠ [] := fun x hx => hL x (List.mem_cons_of_mem _ hx)
    have m1 := le_mul p0 h0
    have m2 := le_mul q0 h0
    have m3 := le_mul p0' h0'
    have m4 := le_mul q0' h0'
    have eA : wrap64 (p' * q) = p' * q := bound (by omega) (by omega) (by omega) (by omega)
    have eB : wrap64 (p * q') = p * q' := bound (by omega) (by omega) (by omega) (by omega)
    have cs : wrap64 (p' * h' * (q * h)) < wrap64 (p * h * (q' * h')) ↔ p' * q < p * q' := by
      rw [bound (p := p' * h') (by omega) p1' (by omega) q1, bound (p := p * h) (by omega) p1 (by omega) q1']
      exact cross h0' h0
    have hl0 : ¬ (l.length = 0) := fun e => l3 (List.eq_nil_of_length_eq_zero e)
    have hsame : ∀ p'' q'' b'' : Int, Ev (fun k => Bg.f k n false a l ex) (p'', q'', b'') → p'' = p' ∧ q'' = q' := by
      intro p'' q'' b'' z
      have e := ev_det z w2
      simp only [Prod.mk.injEq] at e
      exact ⟨e.1, e.2.1⟩
    by_cases d : p' * q < p * q'
    · obtain ⟨r, x, y, z, r1, r2, r3, r4, r5, x0, x1, y0, y1, r6, r7⟩ := ih l c' p' q' h' p0' q0' h0' p1' q1' l2 w1 w2 hL'
      refine ⟨r, x, y, z, ?_, ?_, r3, ?_, r5, x0, x1, y0, y1, frac_trans q0' (by omega) (by omega) r6 (by omega), ?_⟩
      · unfold Ci.l0
        exact Ev.bind w1 (Ev.bind hw (Av (cs.2 d) r1))
      · unfold Cc.l0
        refine Bu hl0 (Ev.bind w2 (Av (.inr ?_) r2))
        show wrap64 (p' * q) < wrap64 (p * q')
        rw [eA, eB]
        exact d
      · rcases r4 with rfl | r4
        · exact .inr (List.mem_cons_self ..)
        · exact .inr (List.mem_cons_of_mem _ r4)
      · intro e he p'' q'' b'' z
        rcases List.mem_cons.1 he with rfl | he
        · obtain ⟨rfl, rfl⟩ := hsame _ _ _ z
          exact r6
        · exact r7 e he _ _ _ z
    · obtain ⟨r, x, y, z, r1, r2, r3, r4, r5, x0, x1, y0, y1, r6, r7⟩ := ih b c p q h p0 q0 h0 p1 q1 hb hw hi hL'
      refine ⟨r, x, y, z, ?_, ?_, r3, ?_, r5, x0, x1, y0, y1, r6, ?_⟩
      · unfold Ci.l0
        exact Ev.bind w1 (Ev.bind hw (Bu (fun z => d (cs.1 z)) r1))
      · unfold Cc.l0
        refine Bu hl0 (Ev.bind w2 (Bu ?_ r2))
        rintro (z | z)
        · exact absurd z (by simp)
        · refine d ?_
          have z2 : wrap64 (p' * q) < wrap64 (p * q') := z
          rw [eA, eB] at z2
          exact z2
      · rcases r4 with rfl | r4
        · exact .inl rfl
        · exact .inr (List.mem_cons_of_mem _ r4)
      · intro e he p'' q'' b'' z
        rcases List.mem_cons.1 he with rfl | he
        · obtain ⟨rfl, rfl⟩ := hsame _ _ _ z
          exact frac_trans q0 (by omega) (by omega) r6 (by omega)
        · exact r7 e he _ _ _ z
theorem srch_of {n a : Int} {pr : Option Bool} {low high p : Int} {t : List Int} (h0 : 0 ≤ p ∧ p ≤ n - 1) (h1 : p ≠ a) (h2 : pr ≠ some (decide (p > a))) (h3 : (p > a → p > high) ∧ (¬ p > a → p < low))
    (h : srch n a (some (decide (p > a))) (if p > a then low else p) (if p > a then p else high) t = true) : srch n a pr low high (p :: t) = true := by
  unfold srch
  rw [if_pos ⟨h0.1, h0.2, h1, h2, h3.1, h3.2⟩]
  exact h
theorem srch_pr {n a : Int} {pr : Option Bool} {low high p : Int} {t : List Int} (h : srch n a pr low high (p :: t) = true) : p ≠ a ∧ pr ≠ some (decide (p > a)) := by
  unfold srch at h
  by_cases c : 0 ≤ p ∧ p ≤ n - 1 ∧ p ≠ a ∧ pr ≠ some (decide (p > a)) ∧ (p > a → p > high) ∧ (¬ p > a → p < low)
  · exact ⟨c.2.2.1, c.2.2.2.1⟩
  · rw [if_neg c] at h
    cases h
def mir (n : Int) (l : List Int) : List Int := l.map fun p => n - 1 - p
theorem tm_mirror (n x a q : Int) : ∀ (l : List Int) (now at_ low high : Int), (∀ p ∈ l, p ≠ a) → tm x (n - 1 - a) (n - 1 - q) now (n - 1 - at_) (n - 1 - high) (n - 1 - low) (mir n l) = tm x a q now at_ low high l
  | [], now, at_, low, high, _ => rfl
  | p :: t, now, at_, low, high, h => by
    have hp := h p (by simp)
    show tm x (n - 1 - a) (n - 1 - q) now (n - 1 - at_) (n - 1 - high) (n - 1 - low) ((n - 1 - p) :: mir n t) = _
    rw [tm, tm]
    by_cases c : (p > a ∧ high < q ∧ q ≤ p) ∨ (¬ p > a ∧ p ≤ q ∧ q < low)
    · rw [if_pos c, if_pos (by omega)]
      omega
    · rw [if_neg c, if_neg (by omega), ← tm_mirror n x a q t _ _ _ _ (fun y hy => h y (by simp [hy]))]
      rw [show max (n - 1 - p - (n - 1 - at_)) (n - 1 - at_ - (n - 1 - p)) = max (p - at_) (at_ - p) by omega]
      by_cases d : p > a
      · rw [if_neg (show ¬ (n - 1 - p > n - 1 - a) by omega), if_neg (show ¬ (n - 1 - p > n - 1 - a) by omega), if_pos d, if_pos d]
      · rw [if_pos (show n - 1 - p > n - 1 - a by omega), if_pos (show n - 1 - p > n - 1 - a by omega), if_neg d, if_neg d]
theorem srch_mirror {n a : Int} : ∀ (l : List Int) (pr : Option Bool) (low high : Int), srch n a pr low high l = true → srch n (n - 1 - a) (pr.map not) (n - 1 - high) (n - 1 - low) (mir n l) = true
  | [], pr, low, high, h => by
    have := srch_nil h
    show srch n (n - 1 - a) (pr.map not) (n - 1 - high) (n - 1 - low) [] = true
    unfold srch
    rw [decide_eq_true (show n - 1 - high = 0 by omega), decide_eq_true (show n - 1 - low = n - 1 by omega)]
    rfl
  | p :: t, pr, low, high, h => by
    have h' := srch_pr h
    obtain ⟨p0, p1, p2, p3, hs⟩ := srch_cons h
    have ih := srch_mirror t _ _ _ hs
    have e : decide (n - 1 - p > n - 1 - a) = !decide (p > a) := by
      by_cases d : p > a
      · rw [decide_eq_true d, decide_eq_false (by omega)]
        rfl
      · rw [decide_eq_false d, decide_eq_true (by omega)]
        rfl
    show srch n (n - 1 - a) (pr.map not) (n - 1 - high) (n - 1 - low) ((n - 1 - p) :: mir n t) = true
    refine srch_of (by omega) (by omega) ?_ ⟨fun c => by have := p3 (by omega); omega, fun c => by have := p2 (by omega); omega⟩ ?_
    · rw [e]
      intro z
      cases pr with
      | none => cases z
      | some b =>
        refine h'.2 ?_
        have z1 : (!b) = !decide (p > a) := Option.some.inj z
        rw [Bool.not_inj z1]
    · rw [e]
      by_cases d : p > a
      · rw [if_pos d, if_pos d] at ih
        rw [if_neg (show ¬ (n - 1 - p > n - 1 - a) by omega), if_neg (show ¬ (n - 1 - p > n - 1 - a) by omega)]
        exact ih
      · rw [if_neg d, if_neg d] at ih
        rw [if_pos (show n - 1 - p > n - 1 - a by omega), if_pos (show n - 1 - p > n - 1 - a by omega)]
        exact ih
theorem srch_ne {n a : Int} : ∀ (l : List Int) (pr : Option Bool) (low high : Int), srch n a pr low high l = true → ∀ p ∈ l, p ≠ a
  | [], _, _, _, _, p, hp => by simp at hp
  | x :: t, pr, low, high, h, p, hp => by
    rcases List.mem_cons.1 hp with rfl | hp
    · exact (srch_pr h).1
    · obtain ⟨_, _, _, _, hs⟩ := srch_cons h
      exact srch_ne t _ _ _ hs p hp
theorem okSearch_mirror {n a : Int} {l : List Int} (h : Ey n false a l = true) : Ey n false (n - 1 - a) (mir n l) = true := by
  simp only [Ey, Bool.and_eq_true] at h ⊢
  have hb := okStart_b h.1
  refine ⟨?_, srch_mirror l none a a h.2⟩
  unfold okStart
  rw [hb.1, decide_eq_true (by omega)]
  rfl
theorem frac_le {p q p2 q2 T G : Int} (hG : 0 < G) (hq : 0 < q) (h1 : T * q = p * G) (h2 : T * q2 ≤ p2 * G) : p * q2 ≤ p2 * q := by
  have e1 : T * q2 * q ≤ p2 * G * q := Int.mul_le_mul_of_nonneg_right h2 (Int.le_of_lt hq)
  rw [Int.mul_right_comm T q2 q, h1, Int.mul_right_comm p G q2, Int.mul_right_comm p2 G q] at e1
  exact Int.le_of_mul_le_mul_right e1 hG
/-- A search that is turned around has the same ratio. -/
theorem ratio_mirror {n a : Int} {l : List Int} {ex : Int} (hl : l.length ≤ 1048576) (h : Ey n false a l = true) (hx : 0 ≤ ex ∧ ex ≤ 9) {p q b : Int} (hr : Ev (fun k => Bg.f k n false a l ex) (p, q, b)) : ∃ b', Ev (fun k => Bg.f k n false (n - 1 - a) (mir n l) ex) (p, q, b') := by
  obtain ⟨b1, p1, q1, d1, a1, a2, a3, a4, a5, a6, a7, a8, a9, a10, a11, a12, a13⟩ := ratio_val hl h hx
  have e := ev_det hr a8
  simp only [Prod.mk.injEq] at e
  obtain ⟨rfl, rfl, rfl⟩ := e
  have h2 := okSearch_mirror h
  obtain ⟨b2, p2, q2, d2, c1, c2, c3, c4, c5, c6, c7, c8, c9, c10, c11, c12, c13⟩ := ratio_val (by simpa [mir] using hl) h2 hx
  have h' := h
  simp only [Ey, Bool.and_eq_true] at h'
  have hne := srch_ne l none a a h'.2
  have ht : ∀ r, tm ex (n - 1 - a) (n - 1 - r) 0 (n - 1 - a) (n - 1 - a) (n - 1 - a) (mir n l) = tm ex a r 0 a a a l := fun r => tm_mirror n ex a r l 0 a a a hne
  have m1 := c13 (n - 1 - b) (by omega) (by omega) (by omega)
  rw [ht, show max (n - 1 - a - (n - 1 - b)) (n - 1 - b - (n - 1 - a)) = max (a - b) (b - a) by omega] at m1
  have m2 := a13 (n - 1 - b2) (by omega) (by omega) (by omega)
  have ht2 := ht (n - 1 - b2)
  rw [show n - 1 - (n - 1 - b2) = b2 by omega] at ht2
  rw [← ht2, show max (a - (n - 1 - b2)) (n - 1 - b2 - a) = max (n - 1 - a - b2) (b2 - (n - 1 - a)) by omega] at m2
  have le1 : p * q2 ≤ p2 * q := frac_le (T := tm ex a b 0 a a a l) (G := max (a - b) (b - a)) (by omega) a2 a12 m1
  have le2 : p2 * q ≤ p * q2 := frac_le (T := tm ex (n - 1 - a) b2 0 (n - 1 - a) (n - 1 - a) (n - 1 - a) (mir n l)) (G := max (n - 1 - a - b2) (b2 - (n - 1 - a))) (by omega) c2 c12 m2
  obtain ⟨rfl, rfl⟩ := lowest a1 a2 c1 c2 a6 c6 (Int.le_antisymm le1 le2)
  exact ⟨b2, c8⟩
/-- Both sides name the same searches, and each is one. -/
def agree (n a : Int) : Bool := match Dw.f n false a, Ag.f n false a with
  | some L, some M => decide (L = M) && decide (L ≠ []) && decide (L.length < 1048576) && L.all fun l => Ey n false a l && decide (l.length ≤ 100) && decide (l ≠ [])
  | _, _ => false
set_option maxRecDepth 100000
theorem c2_0 : agree 2 0 = true := by decide +kernel
theorem c2_1 : agree 2 1 = true := by decide +kernel
theorem c3_0 : agree 3 0 = true := by decide +kernel
theorem c3_1 : agree 3 1 = true := by decide +kernel
theorem c3_2 : agree 3 2 = true := by decide +kernel
theorem c4_0 : agree 4 0 = true := by decide +kernel
theorem c4_1 : agree 4 1 = true := by decide +kernel
theorem c4_2 : agree 4 2 = true := by decide +kernel
theorem c4_3 : agree 4 3 = true := by decide +kernel
theorem c5_0 : agree 5 0 = true := by decide +kernel
theorem c5_1 : agree 5 1 = true := by decide +kernel
theorem c5_2 : agree 5 2 = true := by decide +kernel
theorem c5_3 : agree 5 3 = true := by decide +kernel
theorem c5_4 : agree 5 4 = true := by decide +kernel
theorem c6_0 : agree 6 0 = true := by decide +kernel
theorem c6_1 : agree 6 1 = true := by decide +kernel
theorem c6_2 : agree 6 2 = true := by decide +kernel
theorem c6_3 : agree 6 3 = true := by decide +kernel
theorem c6_4 : agree 6 4 = true := by decide +kernel
theorem c6_5 : agree 6 5 = true := by decide +kernel
theorem c7_0 : agree 7 0 = true := by decide +kernel
theorem c7_1 : agree 7 1 = true := by decide +kernel
theorem c7_2 : agree 7 2 = true := by decide +kernel
theorem c7_3 : agree 7 3 = true := by decide +kernel
theorem c7_4 : agree 7 4 = true := by decide +kernel
theorem c7_5 : agree 7 5 = true := by decide +kernel
theorem c7_6 : agree 7 6 = true := by decide +kernel
theorem c8_0 : agree 8 0 = true := by decide +kernel
theorem c8_1 : agree 8 1 = true := by decide +kernel
theorem c8_2 : agree 8 2 = true := by decide +kernel
theorem c8_3 : agree 8 3 = true := by decide +kernel
theorem c8_4 : agree 8 4 = true := by decide +kernel
theorem c8_5 : agree 8 5 = true := by decide +kernel
theorem c8_6 : agree 8 6 = true := by decide +kernel
theorem c8_7 : agree 8 7 = true := by decide +kernel
theorem c9_0 : agree 9 0 = true := by decide +kernel
theorem c9_1 : agree 9 1 = true := by decide +kernel
theorem c9_2 : agree 9 2 = true := by decide +kernel
theorem c9_3 : agree 9 3 = true := by decide +kernel
theorem c9_4 : agree 9 4 = true := by decide +kernel
theorem c9_5 : agree 9 5 = true := by decide +kernel
theorem c9_6 : agree 9 6 = true := by decide +kernel
theorem c9_7 : agree 9 7 = true := by decide +kernel
theorem c9_8 : agree 9 8 = true := by decide +kernel
theorem c10_0 : agree 10 0 = true := by decide +kernel
theorem c10_1 : agree 10 1 = true := by decide +kernel
theorem c10_2 : agree 10 2 = true := by decide +kernel
theorem c10_3 : agree 10 3 = true := by decide +kernel
theorem c10_4 : agree 10 4 = true := by decide +kernel
theorem c10_5 : agree 10 5 = true := by decide +kernel
theorem c10_6 : agree 10 6 = true := by decide +kernel
theorem c10_7 : agree 10 7 = true := by decide +kernel
theorem c10_8 : agree 10 8 = true := by decide +kernel
theorem c10_9 : agree 10 9 = true := by decide +kernel
theorem agrees (n a : Int) (hn : 2 ≤ n ∧ n ≤ 10) (ha : 0 ≤ a ∧ a ≤ n - 1) : agree n a = true := by
  have hh : n = 2 ∨ n = 3 ∨ n = 4 ∨ n = 5 ∨ n = 6 ∨ n = 7 ∨ n = 8 ∨ n = 9 ∨ n = 10 := by omega
  rcases hh with rfl | rfl | rfl | rfl | rfl | rfl | rfl | rfl | rfl
  · have ha : a = 0 ∨ a = 1 := by omega
    rcases ha with rfl | rfl
    · exact c2_0
    · exact c2_1
  · have ha : a = 0 ∨ a = 1 ∨ a = 2 := by omega
    rcases ha with rfl | rfl | rfl
    · exact c3_0
    · exact c3_1
    · exact c3_2
  · have ha : a = 0 ∨ a = 1 ∨ a = 2 ∨ a = 3 := by omega
    rcases ha with rfl | rfl | rfl | rfl
    · exact c4_0
    · exact c4_1
    · exact c4_2
    · exact c4_3
  · have ha : a = 0 ∨ a = 1 ∨ a = 2 ∨ a = 3 ∨ a = 4 := by omega
    rcases ha with rfl | rfl | rfl | rfl | rfl
    · exact c5_0
    · exact c5_1
    · exact c5_2
    · exact c5_3
    · exact c5_4
  · have ha : a = 0 ∨ a = 1 ∨ a = 2 ∨ a = 3 ∨ a = 4 ∨ a = 5 := by omega
    rcases ha with rfl | rfl | rfl | rfl | rfl | rfl
    · exact c6_0
    · exact c6_1
    · exact c6_2
    · exact c6_3
    · exact c6_4
    · exact c6_5
  · have ha : a = 0 ∨ a = 1 ∨ a = 2 ∨ a = 3 ∨ a = 4 ∨ a = 5 ∨ a = 6 := by omega
    rcases ha with rfl | rfl | rfl | rfl | rfl | rfl | rfl
    · exact c7_0
    · exact c7_1
    · exact c7_2
    · exact c7_3
    · exact c7_4
    · exact c7_5
    · exact c7_6
  · have ha : a = 0 ∨ a = 1 ∨ a = 2 ∨ a = 3 ∨ a = 4 ∨ a = 5 ∨ a = 6 ∨ a = 7 := by omega
    rcases ha with rfl | rfl | rfl | rfl | rfl | rfl | rfl | rfl
    · exact c8_0
    · exact c8_1
    · exact c8_2
    · exact c8_3
    · exact c8_4
    · exact c8_5
    · exact c8_6
    · exact c8_7
  · have ha : a = 0 ∨ a = 1 ∨ a = 2 ∨ a = 3 ∨ a = 4 ∨ a = 5 ∨ a = 6 ∨ a = 7 ∨ a = 8 := by omega
    rcases ha with rfl | rfl | rfl | rfl | rfl | rfl | rfl | rfl | rfl
    · exact c9_0
    · exact c9_1
    · exact c9_2
    · exact c9_3
    · exact c9_4
    · exact c9_5
    · exact c9_6
    · exact c9_7
    · exact c9_8
  · have ha : a = 0 ∨ a = 1 ∨ a = 2 ∨ a = 3 ∨ a = 4 ∨ a = 5 ∨ a = 6 ∨ a = 7 ∨ a = 8 ∨ a = 9 := by omega
    rcases ha with rfl | rfl | rfl | rfl | rfl | rfl | rfl | rfl | rfl | rfl
    · exact c10_0
    · exact c10_1
    · exact c10_2
    · exact c10_3
    · exact c10_4
    · exact c10_5
    · exact c10_6
    · exact c10_7
    · exact c10_8
    · exact c10_9
theorem agreed {n a : Int} (h : agree n a = true) : ∃ l L, Dw.f n false a = some (l :: L) ∧ Ag.f n false a = some (l :: L) ∧ (l :: L).length < 1048576 ∧ ∀ x ∈ l :: L, Ey n false a x = true ∧ x.length ≤ 1048576 ∧ x ≠ [] := by
  unfold agree at h
  generalize hA : Dw.f n false a = A at h ⊢
  generalize hB : Ag.f n false a = B at h ⊢
  cases A with
  | none => simp at h
  | some L =>
    cases B with
    | none => simp at h
    | some M =>
      simp only [Bool.and_eq_true, decide_eq_true_eq, List.all_eq_true] at h
      obtain ⟨⟨⟨rfl, h2⟩, h3⟩, h4⟩ := h
      cases L with
      | nil => exact absurd rfl h2
      | cons l L => exact ⟨l, L, rfl, rfl, h3, fun x hx => ⟨(h4 x hx).1.1, by have := (h4 x hx).1.2; omega, (h4 x hx).2⟩⟩
/-- The searches and the best one. -/
theorem best_pair (n : Int) (g : Bool) (a ex : Int) : ∃ (B : List Int × Bool) (A : List (List Int) × Bool),
    Ev (fun k => Ci.f k n g a ex) B ∧ Ev (fun k => Cc.f k n g a ex) B ∧ spec_AllSearches.f n g a = some A ∧ Ev (fun k => impl_AllSearches.f k n g a) A ∧ B.1.length ≤ 1048576 ∧ A.1.length < 1048576 ∧ (∀ x ∈ A.1, x.length ≤ 1048576) ∧
    (B.2 = true → A.2 = true ∧ g = false ∧ okStart n g a = true ∧ (0 ≤ ex ∧ ex ≤ 9) ∧ (∀ x ∈ A.1, Ey n false a x = true) ∧ B.1 ∈ A.1 ∧ ∃ p q b : Int, Ev (fun k => Bg.f k n false a B.1 ex) (p, q, b) ∧ 0 < p ∧ p ≤ 100000000 ∧ 0 < q ∧ q ≤ 24 ∧
      ∀ x ∈ A.1, ∀ p' q' b' : Int, Ev (fun k => Bg.f k n false a x ex) (p', q', b') → p * q' ≤ p' * q) := by
  unfold Ci.f Cc.f spec_AllSearches.f impl_AllSearches.f
  have hi := Co.ev n g a
  rw [Ea.at, spec_l3Extra.at, Fx.at]
  simp only [Option.bind_some]
  by_cases h : okStart n g a = true
  · obtain ⟨_, rfl, h2, h3, h4, h5⟩ := okStart_b h
    by_cases hn : n > 10
    · exact ⟨([], false), ([], false), Av h (Av hn (Cv rfl)), Ev.bind hi (Av h (Av hn (Cv rfl))), by rw [if_pos h, if_pos hn], Ev.bind hi (Av h (Av hn (Cv rfl))), by simp, by simp, by simp, fun z => by cases z⟩
    · obtain ⟨l, L, e1, e2, e3, e4⟩ := agreed (agrees n a ⟨h2, by omega⟩ ⟨h4, h5⟩)
      have hA : (if okStart n false a = true then (if n > 10 then (some (([] : List (List Int)), false)) else ((Dw.f n false a).bind fun t => some (t, true))) else (some (([] : List (List Int)), false))) = some (l :: L, true) := by
        rw [if_pos h, if_neg hn, e1]
        rfl
      have hA2 : Ev (fun k => (Co.f k n false a).bind fun t => (if t = true then (if n > 10 then (some (([] : List (List Int)), false)) else ((Ag.f n false a).bind fun t => some (t, true))) else (some (([] : List (List Int)), false)))) (l :: L, true) := by
        rw [e2]
        exact Ev.bind hi (Av h (Bu hn (Cv rfl)))
      by_cases hx : 0 ≤ ex ∧ ex ≤ 9
      · obtain ⟨l1, l2, l3⟩ := e4 l (List.mem_cons_self ..)
        obtain ⟨c, p, q, d, p0, q0, d0, p1, q1, _, w1, w2, _⟩ := ratio_val l2 l1 hx
        obtain ⟨r, x, y, z, r1, r2, r3, r4, r5, x0, x1, y0, y1, r6, r7⟩ := best_all hx L l c p q d p0 q0 d0 p1 q1 l2 w1 w2 (fun x hx => e4 x (List.mem_cons_of_mem _ hx))
        refine ⟨(r, true), (l :: L, true), Av h (Bu hn (Av (by simpa using hx) ?_)), Ev.bind hi (Av h (Bu hn (Av (by simpa using hx) ?_))), hA, hA2, r3, e3, fun x hx => (e4 x hx).2.1, fun _ => ⟨rfl, rfl, h, hx, fun x hx => (e4 x hx).1, ?_, x, y, z, r5, x0, x1, y0, y1, ?_⟩⟩
        · rw [e1]
          simp only [Option.bind_some]
          exact Av e3 (Ev.bind r1 (Cv rfl))
        · rw [e2]
          simp only [Option.bind_some]
          refine Av e3 (Ev.bind ?_ (Cv rfl))
          unfold Cc.l0
          exact Bu (fun e => l3 (List.eq_nil_of_length_eq_zero e)) (Ev.bind w2 (Av (.inl rfl) r2))
        · rcases r4 with rfl | r4
          · exact List.mem_cons_self ..
          · exact List.mem_cons_of_mem _ r4
        · intro e he p'' q'' b'' u
          rcases List.mem_cons.1 he with rfl | he
          · have e := ev_det u w2
            simp only [Prod.mk.injEq] at e
            rw [e.1, e.2.1]
            exact r6
          · exact r7 e he _ _ _ u
      · exact ⟨([], false), (l :: L, true), Av h (Bu hn (Bu (by simpa using hx) (Cv rfl))), Ev.bind hi (Av h (Bu hn (Bu (by simpa using hx) (Cv rfl)))), hA, hA2, by simp, e3, fun x hx => (e4 x hx).2.1, fun z => by cases z⟩
  · exact ⟨([], false), ([], false), Bu h (Cv rfl), Ev.bind hi (Bu h (Cv rfl)), by rw [if_neg h], Ev.bind hi (Bu h (Cv rfl)), by simp, by simp, by simp, fun z => by cases z⟩
theorem Bw.evr {n a : Int} {l : List Int} {ex p q b : Int} (hl : l.length ≤ 1048576) (h : Ey n false a l = true) (hx : 0 ≤ ex ∧ ex ≤ 9) (hr : Ev (fun k => Bg.f k n false a l ex) (p, q, b)) : Ev (fun k => Bw.f k n false a l ex) (p, q, true) := by
  unfold Bw.f
  rw [Fx.at]
  simp only [Option.bind_some]
  exact Ev.bind (Ex.ev n false a l (by omega)) (Av h (Av (by simpa using hx) (Ev.bind hr (Cv rfl))))
theorem mir_mir (n : Int) (w : List Int) : mir n (mir n w) = w := by
  unfold mir
  rw [List.map_map]
  refine (List.map_congr_left (fun x _ => ?_)).trans (List.map_id _)
  show n - 1 - (n - 1 - x) = x
  omega
theorem mir_wrap {n : Int} {w : List Int} (hn : 2 ≤ n ∧ n ≤ 24) (h : (w.all fun x => decide (0 ≤ x ∧ x ≤ n - 1)) = true) : (w.map fun p => wrap64 (wrap64 (n - 1) - p)) = mir n w := by
  unfold mir
  refine List.map_congr_left (fun x hx => ?_)
  have := of_decide_eq_true (List.all_eq_true.1 h x hx)
  rw [w64 (x := n - 1) (by omega) (by omega), w64 (by omega) (by omega)]
theorem mir_in {n : Int} {w : List Int} (h : (w.all fun x => decide (0 ≤ x ∧ x ≤ n - 1)) = true) : ((mir n w).all fun x => decide (0 ≤ x ∧ x ≤ n - 1)) = true := by
  rw [List.all_eq_true] at h ⊢
  intro y hy
  obtain ⟨x, hx, rfl⟩ := List.mem_map.1 hy
  have := of_decide_eq_true (h x hx)
  exact decide_eq_true (by omega)
theorem Cn.evm {n : Int} {w : List Int} (hr : okRoad n false = true) (hl : w.length ≤ 1048576) (h : (w.all fun x => decide (0 ≤ x ∧ x ≤ n - 1)) = true) : Ev (fun k => Cn.f k n false w) (mir n w, true) := by
  have hb := okRoad_b hr
  unfold Cn.f
  rw [Ew.at]
  simp only [Option.bind_some]
  refine Av hr (Bu (by decide) (Ev.bind (Dm.ev false w ⟨hb.1, hb.2.1⟩ (by omega)) (Av h (Av (by omega) (Cv ?_)))))
  rw [mir_wrap ⟨hb.1, hb.2.1⟩ h]
theorem spec_mirror {n : Int} (w : List Int) (hn : 2 ≤ n ∧ n ≤ 24) (hw : w.length ≤ 1048576) : ∀ (d i : Nat) (x : List Int), i + d = w.length → x.length = i → Ev (fun k => Az.l0 k w x i n false) (if ((w.drop i).all fun x => decide (0 ≤ x ∧ x ≤ n - 1)) = true then (x ++ (w.drop i).map (fun p => wrap64 (wrap64 (n - 1) - p)), true) else ([], false)) := by
  intro d
  induction d with
  | zero =>
    intro i x e hx
    refine Ev.step (fun k => by rw [Az.l0]) (Bu (by omega) (Cv ?_))
    rw [List.drop_eq_nil_of_le (by omega)]
    simp
  | succ d ih =>
    intro i x e hx
    refine Ev.step (fun k => by rw [Az.l0]) (Av (by omega) (Av (by omega) ?_))
    rw [Eu.at, w64 (x := (i : Int) + 1) (by omega) (by omega), rd_get rfl (by omega), List.drop_eq_getElem_cons (by omega), List.map_cons, List.all_cons, show decide (0 ≤ w[i] ∧ w[i] ≤ wrap64 (n - 1)) = decide (0 ≤ w[i] ∧ w[i] ≤ n - 1) from by rw [w64 (x := n - 1) (by omega) (by omega)]]
    simp only [Option.bind_some]
    by_cases h : 0 ≤ w[i] ∧ w[i] ≤ n - 1
    · rw [decide_eq_true h, Bool.true_and]
      refine Av rfl (Av (by omega) ?_)
      have := ih (i + 1) (x ++ [wrap64 (wrap64 (n - 1) - w[i])]) (by omega) (by simp; omega)
      rw [List.append_assoc] at this
      exact this
    · rw [decide_eq_false h, Bool.false_and]
      exact Bu (by simp) (Cv rfl)
theorem mirror_j0 {n : Int} {w : List Int} {r : List Int × Bool} (h : Ev (fun k => Az.l0 k w [] ((0 : Nat) : Int) n false) r) : Ev (fun k => Az.j0 k w [] false n false) r := by
  refine Ev.step (fun k => by rw [Az.j0]) (Bu (by decide) ?_)
  exact h
theorem mirror_pair (n : Int) (g : Bool) (w : List Int) (hl : w.length ≤ 1048576) : ∃ r : List Int × Bool, Ev (fun k => Az.f k n g w) r ∧ Ev (fun k => Cn.f k n g w) r ∧ r.1.length ≤ 1048576 ∧ (r.2 = true → Ev (fun k => Cn.f k n g r.1) (w, true)) := by
  unfold Az.f
  rw [Fq.at]
  simp only [Option.bind_some]
  by_cases h : okRoad n g = true
  · have hb := okRoad_b h
    cases g with
    | true =>
      refine ⟨([], false), Av h (Ev.step (fun k => by rw [Az.j0]) (Av rfl (Cv rfl))), ?_, by simp, fun z => by cases z⟩
      unfold Cn.f
      rw [Ew.at]
      simp only [Option.bind_some]
      exact Av h (Av (by first | rfl | trivial) (Cv rfl))
    | false =>
      have h1 := spec_mirror w ⟨hb.1, hb.2.1⟩ hl w.length 0 [] (by omega) rfl
      rw [List.drop_zero] at h1
      by_cases ha : (w.all fun x => decide (0 ≤ x ∧ x ≤ n - 1)) = true
      · rw [if_pos ha, mir_wrap ⟨hb.1, hb.2.1⟩ ha] at h1
        refine ⟨(mir n w, true), Av h (mirror_j0 h1), Cn.evm h hl ha, by simpa [mir] using hl, fun _ => ?_⟩
        have := Cn.evm h (by simpa [mir] using hl) (mir_in ha)
        rw [mir_mir] at this
        exact this
      · rw [if_neg ha] at h1
        refine ⟨([], false), Av h (mirror_j0 h1), ?_, by simp, fun z => by cases z⟩
        unfold Cn.f
        rw [Ew.at]
        simp only [Option.bind_some]
        exact Av h (Bu (by decide) (Ev.bind (Dm.ev false w ⟨hb.1, hb.2.1⟩ (by omega)) (Bu ha (Cv rfl))))
  · refine ⟨([], false), Bu h (Ev.step (fun k => by rw [Az.j0]) (Av rfl (Cv rfl))), ?_, by simp, fun z => by cases z⟩
    unfold Cn.f
    rw [Ew.at]
    simp only [Option.bind_some]
    exact Bu h (Cv rfl)
/-- The doubling search at one line and place: both sides, a search, and its ratio. -/
def chk (n a : Nat) : Bool :=
  match Au.f 60 n false a, Bq.f 60 n false a with
  | some r, some q => decide (r.1 = q.1) && (r.2 == q.2) && decide (r.1.length ≤ 100) && Ey n false a r.1 && (match Bw.f 2000 n false a r.1 0 with
    | some z => z.2.2 && decide (¬ z.1 > wrap64 (9 * z.2.1))
    | none => false)
  | _, _ => false
theorem d2 : ((List.range 2).all fun a => chk 2 a) = true := by decide +kernel
theorem d3 : ((List.range 3).all fun a => chk 3 a) = true := by decide +kernel
theorem d4 : ((List.range 4).all fun a => chk 4 a) = true := by decide +kernel
theorem d5 : ((List.range 5).all fun a => chk 5 a) = true := by decide +kernel
theorem d6 : ((List.range 6).all fun a => chk 6 a) = true := by decide +kernel
theorem d7 : ((List.range 7).all fun a => chk 7 a) = true := by decide +kernel
theorem d8 : ((List.range 8).all fun a => chk 8 a) = true := by decide +kernel
theorem d9 : ((List.range 9).all fun a => chk 9 a) = true := by decide +kernel
theorem d10 : ((List.range 10).all fun a => chk 10 a) = true := by decide +kernel
theorem d11 : ((List.range 11).all fun a => chk 11 a) = true := by decide +kernel
theorem d12 : ((List.range 12).all fun a => chk 12 a) = true := by decide +kernel
theorem d13 : ((List.range 13).all fun a => chk 13 a) = true := by decide +kernel
theorem d14 : ((List.range 14).all fun a => chk 14 a) = true := by decide +kernel
theorem d15 : ((List.range 15).all fun a => chk 15 a) = true := by decide +kernel
theorem d16 : ((List.range 16).all fun a => chk 16 a) = true := by decide +kernel
theorem d17 : ((List.range 17).all fun a => chk 17 a) = true := by decide +kernel
theorem d18 : ((List.range 18).all fun a => chk 18 a) = true := by decide +kernel
theorem d19 : ((List.range 19).all fun a => chk 19 a) = true := by decide +kernel
theorem d20 : ((List.range 20).all fun a => chk 20 a) = true := by decide +kernel
theorem d21 : ((List.range 21).all fun a => chk 21 a) = true := by decide +kernel
theorem d22 : ((List.range 22).all fun a => chk 22 a) = true := by decide +kernel
theorem d23 : ((List.range 23).all fun a => chk 23 a) = true := by decide +kernel
theorem d24 : ((List.range 24).all fun a => chk 24 a) = true := by decide +kernel
theorem chk_all (n : Nat) (hn : 2 ≤ n ∧ n ≤ 24) : ((List.range n).all fun a => chk n a) = true := by
  have hh : n = 2 ∨ n = 3 ∨ n = 4 ∨ n = 5 ∨ n = 6 ∨ n = 7 ∨ n = 8 ∨ n = 9 ∨ n = 10 ∨ n = 11 ∨ n = 12 ∨ n = 13 ∨ n = 14 ∨ n = 15 ∨ n = 16 ∨ n = 17 ∨ n = 18 ∨ n = 19 ∨ n = 20 ∨ n = 21 ∨ n = 22 ∨ n = 23 ∨ n = 24 := by omega
  rcases hh with rfl | rfl | rfl | rfl | rfl | rfl | rfl | rfl | rfl | rfl | rfl | rfl | rfl | rfl | rfl | rfl | rfl | rfl | rfl | rfl | rfl | rfl | rfl
  · exact d2
  · exact d3
  · exact d4
  · exact d5
  · exact d6
  · exact d7
  · exact d8
  · exact d9
  · exact d10
  · exact d11
  · exact d12
  · exact d13
  · exact d14
  · exact d15
  · exact d16
  · exact d17
  · exact d18
  · exact d19
  · exact d20
  · exact d21
  · exact d22
  · exact d23
  · exact d24
theorem double_pair (n : Int) (g : Bool) (a : Int) : ∃ r : List Int × Bool, Ev (fun k => Au.f k n g a) r ∧ Ev (fun k => Bq.f k n g a) r ∧ r.1.length ≤ 1048576 ∧
    (r.2 = true → Ey n g a r.1 = true ∧ ∃ z : Int × Int × Bool, Ev (fun k => Bw.f k n g a r.1 0) z ∧ z.2.2 = true ∧ ¬ z.1 > wrap64 (9 * z.2.1)) := by
  by_cases h : okStart n g a = true
  · have hb := okStart_b h
    obtain ⟨rfl⟩ := hb.2.1
    obtain ⟨n, rfl⟩ : ∃ m : Nat, n = m := ⟨n.toNat, by omega⟩
    obtain ⟨a, rfl⟩ : ∃ m : Nat, a = m := ⟨a.toNat, by omega⟩
    have h1 := chk_all n (by omega)
    rw [List.all_eq_true] at h1
    have h2 := h1 a (List.mem_range.2 (by omega))
    unfold chk at h2
    cases e1 : Au.f 60 n false a with
    | none => simp [e1] at h2
    | some r =>
      cases e2 : Bq.f 60 n false a with
      | none => simp [e1, e2] at h2
      | some q =>
        cases e4 : Bw.f 2000 n false a r.1 0 with
        | none => simp [e1, e2, e4] at h2
        | some z =>
          simp only [e1, e2, e4, Bool.and_eq_true, decide_eq_true_eq, beq_iff_eq] at h2
          obtain ⟨⟨⟨⟨h3, h4⟩, h5⟩, h6⟩, h7, h8⟩ := h2
          have e3 : r = q := Prod.ext h3 h4
          subst e3
          exact ⟨r, Ev.of (Au.mono _ _ _) e1, Ev.of (Bq.mono _ _ _) e2, by omega, fun _ => ⟨h6, z, Ev.of (Bw.mono _ _ _ _ _) e4, h7, h8⟩⟩
  · unfold Au.f Bq.f
    rw [Ea.at]
    simp only [Option.bind_some]
    exact ⟨([], false), Bu h (Cv rfl), Ev.bind (Co.ev n g a) (Bu h (Cv rfl)), by simp, fun z => by cases z⟩
theorem vInts_ev (x y : List Int) (hx : x.length ≤ 1048576) : Ev (fun k => Cg.f k x y) (decide (x = y)) := by
  have main : ∀ (d i : Nat), i + d = x.length → x.length = y.length → Ev (fun k => Cg.l0 k x y i) (decide (x.drop i = y.drop i)) := by
    intro d
    induction d with
    | zero =>
      intro i e e2
      refine Ev.step (fun k => by rw [Cg.l0]) (Bu (by omega) (Cv ?_))
      rw [List.drop_eq_nil_of_le (by omega), List.drop_eq_nil_of_le (by omega)]
      rfl
    | succ d ih =>
      intro i e e2
      have h1 : i < x.length := by omega
      have h2 : i < y.length := by omega
      refine Ev.step (fun k => by rw [Cg.l0]) (Av (by omega) (Av (by omega) (Av (by omega) ?_)))
      rw [rd_get (xs := x) rfl h1, rd_get (xs := y) rfl h2, w64 (x := (i : Int) + 1) (by omega) (by omega), List.drop_eq_getElem_cons h1, List.drop_eq_getElem_cons h2]
      by_cases c : x[i] = y[i]
      · refine Av c ?_
        rw [show decide (x[i] :: x.drop (i + 1) = y[i] :: y.drop (i + 1)) = decide (x.drop (i + 1) = y.drop (i + 1)) from decide_eq_decide.2 ⟨fun z => (List.cons.inj z).2, fun z => by rw [c, z]⟩]
        exact ih (i + 1) (by omega) e2
      · refine Bu c (Cv ?_)
        symm
        rw [decide_eq_false_iff_not]
        exact fun z => c (List.cons.inj z).1
  unfold Cg.f
  by_cases c : (x.length : Int) = (y.length : Int)
  · have := main x.length 0 (by omega) (by omega)
    exact Av c this
  · refine Bu c (Cv ?_)
    symm
    rw [decide_eq_false_iff_not]
    exact fun z => c (by rw [z])
theorem rdL {M : List (List Int)} {i : Nat} (h : i < M.length) : Ez M i = M[i] := by simp [Ez, List.getD_eq_getElem?_getD, h]
theorem vTable_self (M : List (List Int)) (hM : M.length < 1048576) (h : ∀ x ∈ M, x.length ≤ 1048576) : Ev (fun k => Em.f k M M) true := by
  have main : ∀ (d i : Nat), i + d = M.length → Ev (fun k => Em.l0 k M M i) true := by
    intro d
    induction d with
    | zero => exact fun i e => Ev.step (fun k => by rw [Em.l0]) (Bu (by omega) (Cv rfl))
    | succ d ih =>
      intro i e
      have hi : i < M.length := by omega
      refine Ev.step (fun k => by rw [Em.l0]) (Av (by omega) (Av (by omega) (Av (by omega) ?_)))
      rw [rdL hi, w64 (x := (i : Int) + 1) (by omega) (by omega)]
      exact Ev.bind (vInts_self _ (h _ (List.getElem_mem hi))) (Av rfl (ih (i + 1) (by omega)))
  unfold Em.f
  exact Av rfl (main M.length 0 (by omega))
theorem all_loop {n a ex p q : Int} {best : List Int} (M : List (List Int)) (hM : M.length < 1048576) (hlen : ∀ x ∈ M, x.length ≤ 1048576) (hall : ∀ x ∈ M, Ey n false a x = true) (hx : 0 ≤ ex ∧ ex ≤ 9) (hp : 0 < p ∧ p ≤ 100000000) (hq : 0 < q ∧ q ≤ 24)
    (hle : ∀ x ∈ M, ∀ p' q' b' : Int, Ev (fun k => Bg.f k n false a x ex) (p', q', b') → p * q' ≤ p' * q) : ∀ (d i : Nat) (found : Bool), i + d = M.length → (found = true ∨ best ∈ M.drop i) → Ev (fun k => Ao.l0 k a ex best M found i n false p q) true := by
  intro d
  induction d with
  | zero =>
    intro i found h hf
    rw [List.drop_eq_nil_of_le (by omega)] at hf
    exact Ev.step (fun k => by rw [Ao.l0]) (Bu (by omega) (Cv (hf.resolve_right (by simp))))
  | succ d ih =>
    intro i found h hf
    have hi : i < M.length := by omega
    have hm := List.getElem_mem hi
    have hok := hall _ hm
    obtain ⟨b, p', q', d', a1, a2, a3, a4, a5, a6, a7, a8, _⟩ := ratio_val (hlen _ hm) hok hx
    have m1 := le_mul a1 a3
    have m2 := le_mul a2 a3
    have hs := isSearch_impl n false a M[i] (hlen _ hm)
    have h' := hok
    simp only [Ey, Bool.and_eq_true] at h'
    rw [hok, h'.1] at hs
    refine Ev.step (fun k => by rw [Ao.l0]) (Av (by omega) (Av (by omega) ?_))
    rw [rdL hi]
    refine Ev.bind hs (Ev.bind (Bw.evr (hlen _ hm) hok hx a8) (Av rfl (Av rfl (Av rfl (Bu ?_ ?_)))))
    · have := hle _ hm _ _ _ a8
      show ¬ (wrap64 (p' * q) < wrap64 (p * q'))
      rw [bound (p := p') (by omega) (by omega) (by omega) (by omega), bound (p := p) (by omega) (by omega) (by omega) (by omega)]
      omega
    · refine Ev.step (fun k => by rw [Ao.j3]) ?_
      rw [rdL hi, w64 (x := (i : Int) + 1) (by omega) (by omega)]
      by_cases c : found = true
      · exact Av c (ih (i + 1) true (by omega) (.inl rfl))
      · refine Bu c (Av (by omega) (Av (by omega) (Ev.bind (vInts_ev _ _ (hlen _ hm)) (ih (i + 1) _ (by omega) ?_))))
        rcases hf with hf | hf
        · exact absurd hf c
        · rw [List.drop_eq_getElem_cons hi] at hf
          rcases List.mem_cons.1 hf with z | z
          · exact .inl (decide_eq_true z.symm)
          · exact .inr z
theorem FnBestSearch (l : List Int) (hl : l.length ≤ maxLen) (hl2 : l.length * 1 ≤ 140737488351232) (hw : ∀ x ∈ l, (Lit.int .u8 x).wf = true) : ∃ k, Ao.f k l = some true := by
  have hl8 : ∀ x ∈ l, 0 ≤ x ∧ x ≤ 255 := by
    intro x hx
    have h2 : IntKind.u8.min ≤ x ∧ x ≤ IntKind.u8.max := by simpa [Lit.wf] using hw x hx
    rw [show IntKind.u8.min = 0 from rfl, show IntKind.u8.max = 255 from rfl] at h2
    exact h2
  refine Ev.rounds (r := true) ?_
  unfold Ao.f laws_vBig.f
  simp only [Option.bind_some]
  by_cases hb : (l.length : Int) > 65536
  · exact Av (by simpa using hb) (Cv rfl)
  refine Bu (by simpa using hb) ?_
  obtain ⟨n, g, a, ex, hD⟩ := drawBestSearch_tot l hl8
  obtain ⟨B, A, b1, b2, a1, a2, hB, hA, hA2, hfull⟩ := best_pair n g a ex
  obtain ⟨y, ey, hy8⟩ := vCut_tot l hl8 (by omega) 1 (by omega)
  obtain ⟨m, f, b, hE⟩ := drawDoublingSearch_tot y hy8
  obtain ⟨D, d1, d2, hD3, hdbl⟩ := double_pair m f b
  obtain ⟨z, ez, hz8⟩ := vCut_tot l hl8 (by omega) 2 (by omega)
  obtain ⟨o, s, t, hF, ht⟩ := drawMirrorSearch_tot z hz8
  obtain ⟨T, t1, t2, hT, hback⟩ := mirror_pair o s t (by omega)
  have ne : ∀ z : Bool, ¬ ((z != z) = true) := by decide
  refine Ev.bind (ev_const hD) (Ev.bind b2 (Ev.bind b1 (Ev.bind a2 (Ev.bind (ev_const a1) (Ev.bind (ev_const ey) (Ev.bind (ev_const hE) (Ev.bind d2 (Ev.bind d1 (Ev.bind (ev_const ez) (Ev.bind hF (Ev.bind t2 (Ev.bind t1 ?_))))))))))))
  refine Bu (ne _) (Ev.bind (vInts_self B.1 hB) (Av rfl (Bu (ne _) (Ev.bind (vTable_self A.1 hA hA2) (Av rfl (Bu (ne _) (Ev.bind (vInts_self D.1 hD3) (Av rfl (Bu (ne _) (Ev.bind (vInts_self T.1 hT) (Av rfl ?_)))))))))))
  by_cases c : B.2 = true
  · obtain ⟨f1, rfl, f3, f4, f5, f6, p, q, w, f7, p0, p1, q0, q1, f8⟩ := hfull c
    obtain ⟨k1, _, k2, k3, k4, k5⟩ := okStart_b f3
    have hok := f5 _ f6
    have h' := hok
    simp only [Ey, Bool.and_eq_true] at h'
    have last : Ev (fun k => Ao.j1 k a ex B.1 B.2 A.1 n false) true := by
      refine Ev.step (fun k => by rw [Ao.j1]) (Av c ?_)
      obtain ⟨w', hw'⟩ := ratio_mirror hB hok f4 f7
      refine Ev.bind (Bw.evr hB hok f4 f7) (Ev.bind (Cn.evm k1 hB (srch_all h'.2)) ?_)
      rw [w64 (x := n - 1) (by omega) (by omega), w64 (x := n - 1 - a) (by omega) (by omega)]
      exact Ev.bind (Bw.evr (by simpa [mir] using hB) (okSearch_mirror hok) f4 hw') (Av rfl (Av rfl (Av rfl (Av rfl (Av rfl (all_loop A.1 hA hA2 f5 f4 ⟨p0, p1⟩ ⟨q0, q1⟩ f8 A.1.length 0 false (by omega) (.inr f6)))))))
    have fin : Ev (fun k => Ao.j0 k a ex B.1 B.2 A.1 t T.1 T.2 n false o s) true := by
      refine Ev.step (fun k => by rw [Ao.j0]) ?_
      by_cases e : T.2 = true
      · exact Av e (Ev.bind (hback e) (Av rfl (Ev.bind (vInts_self t (by omega)) (Av rfl last))))
      · exact Bu e last
    refine Av c (Av f1 ?_)
    by_cases e : D.2 = true
    · obtain ⟨g1, zz, g2, g3, g4⟩ := hdbl e
      have hs := isSearch_impl m f b D.1 hD3
      have h'' := g1
      simp only [Ey, Bool.and_eq_true] at h''
      rw [g1, h''.1] at hs
      exact Av e (Ev.bind hs (Ev.bind g2 (Av rfl (Av g3 (Av rfl (Bu g4 fin))))))
    · exact Bu e fin
  · have last : Ev (fun k => Ao.j5 k a ex B.1 B.2 A.1 n g) true := Ev.step (fun k => by rw [Ao.j5]) (Bu c (Cv rfl))
    have fin : Ev (fun k => Ao.j4 k a ex B.1 B.2 A.1 t T.1 T.2 n g o s) true := by
      refine Ev.step (fun k => by rw [Ao.j4]) ?_
      by_cases e : T.2 = true
      · exact Av e (Ev.bind (hback e) (Av rfl (Ev.bind (vInts_self t (by omega)) (Av rfl last))))
      · exact Bu e last
    refine Bu c ?_
    by_cases e : D.2 = true
    · obtain ⟨g1, zz, g2, g3, g4⟩ := hdbl e
      have hs := isSearch_impl m f b D.1 hD3
      have h'' := g1
      simp only [Ey, Bool.and_eq_true] at h''
      rw [g1, h''.1] at hs
      exact Av e (Ev.bind hs (Ev.bind g2 (Av rfl (Av g3 (Av rfl (Bu g4 fin))))))
    · exact Bu e fin

end Go.Proofs.Ytogflbocmiogpaa.Pure
