/- The plain side of the law FnExactBestSearch: the printed law, whatever its input (within the form's bounds), comes to true. No other condition. -/
import Derived.Test.YtaomldgodfbokaaPFnExactBestSearchx13
import Derived.Test.YtaomldgodfbokaaBase
import Derived.Test.YtaomldgodfbokaaMath
namespace Go.Proofs.Ytaomldgodfbokaa.Pure
open Go.RowKit Go.Proofs.Ytaomldgodfbokaa.PFnExactBestSearch Go.Proofs.YtaomldgodfbokaaW.PrintWords Go.Proofs.YtaomldgodfbokaaW.PrintLast Go.Proofs.YtaomldgodfbokaaW.PrintMore Go.Proofs.Ytaomldgodfbokaa.Base Go.Proofs.Ytaomldgodfbokaa.M
set_option linter.unusedVariables false
set_option linter.unusedSimpArgs false

theorem laws_eqIntS.ev (a b : List Int) (hl : a.length ≤ 35184372088832) : Ev (fun k => laws_eqIntS.f k a b) (decide (a = b)) := by
  have main : ∀ (d i : Nat), i + d = a.length → a.length = b.length → Ev (fun k => laws_eqIntS.l0 k a b i) (decide (a.drop i = b.drop i)) := by
    intro d
    induction d with
    | zero =>
      intro i e he
      refine Ev.step (fun k => by rw [laws_eqIntS.l0]) ?_
      refine ev_neg (by omega) ?_
      refine ev_some ?_
      rw [List.drop_eq_nil_of_le (by omega), List.drop_eq_nil_of_le (by omega)]
      rfl
    | succ d ih =>
      intro i e he
      refine Ev.step (fun k => by rw [laws_eqIntS.l0]) ?_
      refine ev_pos (by omega) ?_
      refine ev_pos (by omega) ?_
      refine ev_pos (by omega) ?_
      rw [w64 (x := (i : Int) + 1) (by omega) (by omega), rd_get rfl (by omega), rd_get rfl (by omega), List.drop_eq_getElem_cons (by omega), List.drop_eq_getElem_cons (l := b) (by omega)]
      by_cases h : a[i] = b[i]
      · refine ev_pos h ?_
        rw [show decide (a[i] :: a.drop (i + 1) = b[i] :: b.drop (i + 1)) = decide (a.drop (i + 1) = b.drop (i + 1)) from decide_eq_decide.2 ⟨fun e => (List.cons.inj e).2, fun e => by rw [h, e]⟩]
        exact ih (i + 1) (by omega) he
      · refine ev_neg h (ev_some ?_)
        exact (decide_eq_false fun e => h (List.cons.inj e).1).symm
  unfold laws_eqIntS.f
  by_cases h : a.length = b.length
  · refine ev_pos (by omega) ?_
    exact main a.length 0 (by omega) h
  · refine ev_neg (by omega) (ev_some ?_)
    symm
    rw [decide_eq_false_iff_not]
    exact fun e => h (by rw [e])
def marks (n : Nat) (a : Int) : List Int := (List.range n).map fun (j : Nat) => a + (j : Int)
theorem marks_length (n : Nat) (a : Int) : (marks n a).length = n := by simp [marks]
theorem laws_markIntS.ev (l : List Int) (hl : l.length ≤ 35184372088832) (a : Int) (h0 : 0 ≤ a) (h1 : a ≤ 4611686018427387904) :
    Ev (fun k => laws_markIntS.f k l a) (a + l.length, marks l.length a) := by
  have main : ∀ (d i : Nat) (x : List Int), i + d = l.length → x.length = l.length → (∀ j, j < i → x[j]? = (marks l.length a)[j]?) →
      Ev (fun k => laws_markIntS.l0 k x (a + i) i) (a + l.length, marks l.length a) := by
    intro d
    induction d with
    | zero =>
      intro i x e hx hj
      refine Ev.step (fun k => by rw [laws_markIntS.l0]) ?_
      refine ev_neg (by omega) ?_
      have : x = marks l.length a := List.ext_getElem? fun j => by
        by_cases h : j < l.length
        · exact hj j (by omega)
        · rw [List.getElem?_eq_none (by omega), List.getElem?_eq_none (by rw [marks_length]; omega)]
      refine ev_some ?_
      rw [this, show (i : Int) = (l.length : Int) from by omega]
    | succ d ih =>
      intro i x e hx hj
      refine Ev.step (fun k => by rw [laws_markIntS.l0]) ?_
      refine ev_pos (by omega) ?_
      refine ev_pos (by omega) ?_
      rw [w64 (x := (i : Int) + 1) (by omega) (by omega), w64 (x := a + (i : Int) + 1) (by omega) (by omega), Int.add_assoc]
      refine ih (i + 1) _ (by omega) (by simpa using hx) (fun j hj' => ?_)
      rw [Int.toNat_natCast]
      by_cases h : j = i
      · subst h
        rw [List.getElem?_set_self (by omega)]
        simp [marks, List.getElem?_range (show j < l.length by omega)]
      · rw [List.getElem?_set_ne (by omega)]
        exact hj j (by omega)
  unfold laws_markIntS.f
  have := main l.length 0 l (by omega) rfl (fun j hj => by omega)
  simpa using this
theorem laws_heldIntS.ev (n : Nat) (hn : n ≤ 35184372088832) (a : Int) (h0 : 0 ≤ a) (h1 : a ≤ 4611686018427387904) :
    Ev (fun k => laws_heldIntS.f k (marks n a) a) (a + n) := by
  have main : ∀ (d i : Nat), i + d = n → Ev (fun k => laws_heldIntS.l0 k (marks n a) (a + i) i) (a + n) := by
    intro d
    induction d with
    | zero =>
      intro i e
      refine Ev.step (fun k => by rw [laws_heldIntS.l0]) ?_
      refine ev_neg (by rw [marks_length]; omega) ?_
      exact ev_some (by rw [show (i : Int) = (n : Int) from by omega])
    | succ d ih =>
      intro i e
      refine Ev.step (fun k => by rw [laws_heldIntS.l0]) ?_
      refine ev_pos (by rw [marks_length]; omega) ?_
      refine ev_pos (by omega) ?_
      refine ev_pos ?_ ?_
      · rw [rd_get rfl (by rw [marks_length]; omega)]
        simp [marks]
      · rw [w64 (x := (i : Int) + 1) (by omega) (by omega), w64 (x := a + (i : Int) + 1) (by omega) (by omega), Int.add_assoc]
        exact ih (i + 1) (by omega)
  unfold laws_heldIntS.f
  have := main n 0 (by omega)
  simpa using this
theorem spec_l1In.at (a b c : Int) : spec_l1In.f a b c = some (decide (b ≤ a ∧ a ≤ c)) := by
  unfold spec_l1In.f
  by_cases h : a ≥ b
  · rw [if_pos h]
    simp [show b ≤ a from h]
  · rw [if_neg h]
    simp [show ¬ b ≤ a from h]
theorem impl_within.at (a b c : Int) : impl_within.f a b c = some (decide (b ≤ a ∧ a ≤ c)) := by
  unfold impl_within.f
  by_cases h : a ≥ b
  · rw [if_pos h]
    simp [show b ≤ a from h]
  · rw [if_neg h]
    simp [show ¬ b ≤ a from h]
theorem spec_l2Road.at (n : Int) (g : Bool) : spec_l2Road.f n g = some (okRoad n g) := by
  unfold spec_l2Road.f okRoad
  rw [spec_l1In.at]
  simp only [Option.bind_some]
  by_cases h : 2 ≤ n ∧ n ≤ 24
  · rw [if_pos (by simpa using h)]
    cases g with
    | false => simp [h]
    | true =>
      simp only [if_true, h, true_and, Option.some.injEq]
      exact decide_eq_decide.2 (by simp; omega)
  · rw [if_neg (by simpa using h)]
    simp only [Option.some.injEq]
    exact (decide_eq_false (fun h' => h ⟨h'.1, h'.2.1⟩)).symm
theorem impl_IsRoad.at (n : Int) (g : Bool) : impl_IsRoad.f n g = some (okRoad n g) := by
  unfold impl_IsRoad.f okRoad
  rw [impl_within.at]
  simp only [Option.bind_some]
  by_cases h : 2 ≤ n ∧ n ≤ 24
  · rw [if_pos (by simpa using h)]
    cases g with
    | false => simp [h]
    | true =>
      simp only [if_true, h, true_and, Option.some.injEq]
      exact decide_eq_decide.2 (by simp)
  · rw [if_neg (by simpa using h)]
    simp only [Option.some.injEq]
    exact (decide_eq_false (fun h' => h ⟨h'.1, h'.2.1⟩)).symm
theorem laws_toRoad.at (n : Int) (g : Bool) : laws_toRoad.f n g = some (n, g) := rfl
theorem spec_l1Most.at (a b : Int) : spec_l1Most.f a b = some (max a b) := by
  unfold spec_l1Most.f
  by_cases h : a > b
  · rw [if_pos h, Int.max_eq_left (by omega)]
  · rw [if_neg h, Int.max_eq_right (by omega)]
theorem spec_l1Least.at (a b : Int) : spec_l1Least.f a b = some (min a b) := by
  unfold spec_l1Least.f
  by_cases h : a < b
  · rw [if_pos h, Int.min_eq_left (by omega)]
  · rw [if_neg h, Int.min_eq_right (by omega)]
theorem spec_l2Gap.at {n : Int} (g : Bool) {a b : Int} (hn : 2 ≤ n ∧ n ≤ 24) (ha : 0 ≤ a ∧ a ≤ n - 1) (hb : 0 ≤ b ∧ b ≤ n - 1) : spec_l2Gap.f n g a b = some (gap n g a b) := by
  unfold spec_l2Gap.f gap
  rw [w64 (x := a - b) (by omega) (by omega), w64 (x := b - a) (by omega) (by omega), spec_l1Most.at]
  simp only [Option.bind_some]
  cases g with
  | false => simp
  | true => rw [if_pos rfl, if_pos rfl, w64 (by omega) (by omega), spec_l1Least.at]; rfl
theorem impl_Road_gap.at {n : Int} (g : Bool) {a b : Int} (hn : 2 ≤ n ∧ n ≤ 24) (ha : 0 ≤ a ∧ a ≤ n - 1) (hb : 0 ≤ b ∧ b ≤ n - 1) : impl_Road_gap.f n g a b = some (gap n g a b) := by
  unfold impl_Road_gap.f gap
  rw [w64 (x := a - b) (by omega) (by omega), w64 (x := b - a) (by omega) (by omega)]
  simp only [mx_eq, mn_eq]
  cases g with
  | false => simp
  | true => rw [if_pos rfl, if_pos rfl, w64 (by omega) (by omega)]
theorem impl_allWithin.ev (l : List Int) (lo hi : Int) (hl : l.length ≤ 35184372088832) : Ev (fun k => impl_allWithin.f k l lo hi) (l.all fun x => decide (lo ≤ x ∧ x ≤ hi)) := by
  have main : ∀ (d i : Nat), i + d = l.length → Ev (fun k => impl_allWithin.l0 k lo hi l l.length i) ((l.drop i).all fun x => decide (lo ≤ x ∧ x ≤ hi)) := by
    intro d
    induction d with
    | zero =>
      intro i e
      refine Ev.step (fun k => by rw [impl_allWithin.l0]) ?_
      refine ev_neg (by omega) (ev_some ?_)
      rw [List.drop_eq_nil_of_le (by omega)]
      rfl
    | succ d ih =>
      intro i e
      refine Ev.step (fun k => by rw [impl_allWithin.l0]) ?_
      refine ev_pos (by omega) ?_
      refine ev_pos (by omega) ?_
      refine ev_pos (by omega) ?_
      rw [w64 (x := (i : Int) + 1) (by omega) (by omega), rd_get rfl (by omega), List.drop_eq_getElem_cons (by omega), List.all_cons, impl_within.at]
      simp only [Option.bind_some]
      by_cases h : lo ≤ l[i] ∧ l[i] ≤ hi
      · refine ev_pos (by simpa using h) ?_
        rw [decide_eq_true h, Bool.true_and]
        exact ih (i + 1) (by omega)
      · refine ev_neg (by simpa using h) (ev_some ?_)
        rw [decide_eq_false h, Bool.false_and]
  unfold impl_allWithin.f
  exact main l.length 0 (by omega)
theorem impl_Road_has.ev {n : Int} (g : Bool) (l : List Int) (hn : 2 ≤ n ∧ n ≤ 24) (hl : l.length ≤ 35184372088832) : Ev (fun k => impl_Road_has.f k n g l) (l.all fun x => decide (0 ≤ x ∧ x ≤ n - 1)) := by
  unfold impl_Road_has.f
  rw [w64 (x := n - 1) (by omega) (by omega)]
  exact Ev.bind (impl_allWithin.ev l 0 (n - 1) hl) (ev_some rfl)
theorem spec_l3Line.at (n : Int) (g : Bool) (a : Int) : spec_l3Line.f n g a = some (okStart n g a) := by
  unfold spec_l3Line.f okStart
  rw [spec_l2Road.at]
  simp only [Option.bind_some]
  by_cases h : okRoad n g = true
  · have hb := okRoad_b h
    rw [if_pos h, h]
    cases g with
    | false => rw [if_neg (by simp), w64 (by omega) (by omega), spec_l1In.at]; rfl
    | true => rfl
  · rw [if_neg h]
    rw [Bool.not_eq_true] at h
    rw [h]
    rfl
theorem impl_isStart.ev (n : Int) (g : Bool) (a : Int) : Ev (fun k => impl_isStart.f k n g a) (okStart n g a) := by
  unfold impl_isStart.f okStart
  rw [impl_IsRoad.at]
  simp only [Option.bind_some]
  by_cases h : okRoad n g = true
  · have hb := okRoad_b h
    refine ev_pos h ?_
    rw [h]
    cases g with
    | false =>
      refine ev_neg (by simp) ?_
      refine Ev.bind (impl_Road_has.ev false [a] ⟨hb.1, hb.2.1⟩ (by simp)) (ev_some ?_)
      simp
    | true => exact ev_pos rfl (ev_some rfl)
  · refine ev_neg h (ev_some ?_)
    rw [Bool.not_eq_true] at h
    rw [h]
    rfl
theorem spec_l3Extra.at (x : Int) : spec_l3Extra.f x = some (decide (0 ≤ x ∧ x ≤ 9)) := by
  unfold spec_l3Extra.f
  rw [spec_l1In.at]
  rfl
theorem impl_isExtra.at (x : Int) : impl_isExtra.f x = some (decide (0 ≤ x ∧ x ≤ 9)) := by
  unfold impl_isExtra.f
  rw [impl_within.at]
  rfl
/-- Unit steps from a place on. -/
def way (s : Int) : Int → Nat → List Int
  | _, 0 => []
  | a, m + 1 => (a + s) :: way s (a + s) m
theorem way_length (s : Int) : ∀ (m : Nat) (a : Int), (way s a m).length = m
  | 0, _ => rfl
  | m + 1, a => by rw [way, List.length_cons, way_length s m]
theorem straight_line {n : Int} (hn : 2 ≤ n ∧ n ≤ 24) {s tgt : Int} (hs : s = 1 ∨ s = -1) (hto : 0 ≤ tgt ∧ tgt ≤ n - 1) : ∀ (m : Nat) (at_ : Int) (x : List Int), (s = 1 ∧ tgt = at_ + m ∨ s = -1 ∧ tgt = at_ - m) → 0 ≤ at_ → at_ ≤ n - 1 → x.length + m ≤ 35184372088 →
    Ev (fun k => impl_Road_straight.l0 k x tgt at_ s n false) (x ++ way s at_ m) := by
  intro m
  induction m with
  | zero =>
    intro at_ x e h0 h1 hx
    refine Ev.step (fun k => by rw [impl_Road_straight.l0]) (ev_pos (by omega) (ev_some ?_))
    simp [way]
  | succ m ih =>
    intro at_ x e h0 h1 hx
    refine Ev.step (fun k => by rw [impl_Road_straight.l0]) (ev_neg (by omega) (ev_neg (by omega) (ev_pos (by omega) ?_)))
    have e1 : Int.tmod (wrap64 (wrap64 (at_ + s) + n)) n = at_ + s := by
      rw [w64 (x := at_ + s) (by omega) (by omega), w64 (by omega) (by omega), Int.tmod_eq_emod_of_nonneg (by omega), Int.add_emod_right, Int.emod_eq_of_lt (by omega) (by omega)]
    rw [e1, way]
    have := ih (at_ + s) (x ++ [at_ + s]) (by omega) (by omega) (by omega) (by simp; omega)
    simpa using this
/-- The way to a place: the steps and how many. -/
theorem straight_ev {n : Int} (hn : 2 ≤ n ∧ n ≤ 24) {tgt a : Int} (hto : 0 ≤ tgt ∧ tgt ≤ n - 1) (ha : 0 ≤ a ∧ a ≤ n - 1) (l : List Int) (hl : l.length ≤ 351843720) (h0 : l ≠ []) (hlast : l.getLast h0 = a) :
    ∃ (s : Int) (m : Nat), (s = 1 ∧ tgt = a + m ∨ s = -1 ∧ tgt = a - m) ∧ Ev (fun k => impl_Road_straight.f k n false l tgt) (l ++ way s a m) := by
  have hp : 0 < l.length := List.length_pos_iff.2 h0
  have e0 : wrap64 ((l.length : Int) - 1) = ((l.length - 1 : Nat) : Int) := by unfold wrap64; omega
  have e1 : rd l ((l.length - 1 : Nat) : Int) = a := by
    rw [rd_get rfl (by omega), ← List.getLast_eq_getElem (h := h0)]
    exact hlast
  unfold impl_Road_straight.f
  rw [e0, e1, w64 (x := tgt - a) (by omega) (by omega)]
  by_cases c : tgt - a < 0
  · refine ⟨-1, (a - tgt).toNat, .inr ⟨rfl, by omega⟩, ?_⟩
    refine ev_pos (by omega) (ev_pos (by omega) (ev_neg (by simp) (ev_pos c ?_)))
    refine Ev.step (fun k => by rw [impl_Road_straight.j0]) ?_
    exact straight_line hn (.inr rfl) hto _ _ _ (.inr ⟨rfl, by omega⟩) ha.1 ha.2 (by omega)
  · refine ⟨1, (tgt - a).toNat, .inl ⟨rfl, by omega⟩, ?_⟩
    refine ev_pos (by omega) (ev_pos (by omega) (ev_neg (by simp) (ev_neg c ?_)))
    refine Ev.step (fun k => by rw [impl_Road_straight.j0]) ?_
    exact straight_line hn (.inl rfl) hto _ _ _ (.inl ⟨rfl, by omega⟩) ha.1 ha.2 (by omega)
theorem rd_set (l : List Int) {i q v : Int} (hi : 0 ≤ i ∧ i < l.length) (hq : 0 ≤ q) : rd (l.set i.toNat v) q = if q = i then v else rd l q := by
  unfold rd
  rw [List.getD_eq_getElem?_getD, List.getD_eq_getElem?_getD]
  by_cases c : q = i
  · subst c
    rw [if_pos rfl, List.getElem?_set_self (by omega)]
    rfl
  · rw [if_neg c, List.getElem?_set_ne (by omega)]
theorem rd_ext {a b : List Int} (hl : a.length = b.length) (h : ∀ q : Int, 0 ≤ q → q < a.length → rd a q = rd b q) : a = b := by
  refine List.ext_getElem hl fun j h1 h2 => ?_
  have := h (j : Int) (by omega) (by omega)
  rwa [rd_get rfl h1, rd_get rfl h2] at this
theorem srch_cons {n a : Int} {pr : Option Bool} {low high p : Int} {t : List Int} (h : srch n a pr low high (p :: t) = true) :
    0 ≤ p ∧ p ≤ n - 1 ∧ (p > a → p > high) ∧ (¬ p > a → p < low) ∧ srch n a (some (decide (p > a))) (if p > a then low else p) (if p > a then p else high) t = true := by
  unfold srch at h
  by_cases c : 0 ≤ p ∧ p ≤ n - 1 ∧ p ≠ a ∧ pr ≠ some (decide (p > a)) ∧ (p > a → p > high) ∧ (¬ p > a → p < low)
  · rw [if_pos c] at h
    exact ⟨c.1, c.2.1, c.2.2.2.2.1, c.2.2.2.2.2, h⟩
  · rw [if_neg c] at h
    cases h
theorem srch_nil {n a : Int} {pr : Option Bool} {low high : Int} (h : srch n a pr low high [] = true) : low = 0 ∧ high = n - 1 := by
  unfold srch at h
  simpa using h
theorem spec_l3Times.right {n : Int} (l : List Int) (x3 now at_ low p : Int) (i : Nat) (hi : i < l.length) (hp : rd l i = p) (hn : 2 ≤ n ∧ n ≤ 24) (hpn : 0 ≤ p ∧ p ≤ n - 1) (hat : 0 ≤ at_ ∧ at_ ≤ n - 1) (hnow : 0 ≤ now ∧ now ≤ 1000000000000) :
    ∀ (d : Nat) (high : Int) (S : List Int), high + d = p → 0 ≤ high → S.length = n →
      ∃ S' : List Int, S'.length = n ∧ (∀ q, 0 ≤ q → q < n → (high < q ∧ q ≤ p → rd S' q = now + q - at_) ∧ (¬ (high < q ∧ q ≤ p) → rd S' q = rd S q)) ∧
        ∀ r, Ev (fun k => spec_l3Times.l2 k l x3 S' now at_ low p i) r → Ev (fun k => spec_l3Times.l1 k l x3 S now at_ low high i) r := by
  intro d
  induction d with
  | zero =>
    intro high S e h0 hS
    refine ⟨S, hS, fun q h1 h2 => ⟨fun c => by omega, fun _ => rfl⟩, fun r hr => ?_⟩
    refine Ev.step (fun k => by rw [spec_l3Times.l1]) (ev_pos (by omega) (ev_pos (by omega) ?_))
    rw [hp]
    refine ev_neg (by omega) ?_
    rw [show high = p from by omega]
    exact hr
  | succ d ih =>
    intro high S e h0 hS
    obtain ⟨S', h1, h2, h3⟩ := ih (high + 1) (S.set (high + 1).toNat (now + (high + 1) - at_)) (by omega) (by omega) (by simpa using hS)
    refine ⟨S', h1, fun q hq hq2 => ?_, fun r hr => ?_⟩
    · have h2 := h2 q hq hq2
      have := rd_set S (i := high + 1) (q := q) (v := now + (high + 1) - at_) ⟨by omega, by omega⟩ hq
      by_cases c : q = high + 1
      · rw [if_pos c] at this
        refine ⟨fun _ => ?_, fun c2 => by omega⟩
        rw [h2.2 (by omega), this, c]
      · rw [if_neg c] at this
        refine ⟨fun c2 => h2.1 (by omega), fun c2 => ?_⟩
        rw [h2.2 (by omega), this]
    · refine Ev.step (fun k => by rw [spec_l3Times.l1]) (ev_pos (by omega) (ev_pos (by omega) ?_))
      rw [hp, w64 (x := high + 1) (by omega) (by omega), w64 (x := now + (high + 1)) (by omega) (by omega), w64 (x := now + (high + 1) - at_) (by omega) (by omega)]
      refine ev_pos (by omega) (ev_pos (by omega) (ev_pos (by omega) ?_))
      exact h3 r hr
theorem spec_l3Times.left {n : Int} (l : List Int) (x3 now at_ high p : Int) (i : Nat) (hl : l.length ≤ 35184372088832) (hi : i < l.length) (hp : rd l i = p) (hn : 2 ≤ n ∧ n ≤ 24) (hpn : 0 ≤ p ∧ p ≤ n - 1) (hat : 0 ≤ at_ ∧ at_ ≤ n - 1) (hnow : 0 ≤ now ∧ now ≤ 1000000000000) (h3 : 0 ≤ x3 ∧ x3 ≤ 9) :
    ∀ (d : Nat) (low : Int) (S : List Int), low = p + d → low ≤ n → S.length = n →
      ∃ S' : List Int, S'.length = n ∧ (∀ q, 0 ≤ q → q < n → (p ≤ q ∧ q < low → rd S' q = now + at_ - q) ∧ (¬ (p ≤ q ∧ q < low) → rd S' q = rd S q)) ∧
        ∀ r, Ev (fun k => spec_l3Times.l0 k l x3 S' (now + max (p - at_) (at_ - p) + x3) p p high ((i + 1 : Nat) : Int)) r → Ev (fun k => spec_l3Times.l2 k l x3 S now at_ low high i) r := by
  intro d
  induction d with
  | zero =>
    intro low S e h0 hS
    refine ⟨S, hS, fun q h1 h2 => ⟨fun c => by omega, fun _ => rfl⟩, fun r hr => ?_⟩
    refine Ev.step (fun k => by rw [spec_l3Times.l2]) (ev_pos (by omega) (ev_pos (by omega) ?_))
    rw [hp]
    refine ev_neg (by omega) ?_
    rw [show low = p from by omega, w64 (x := p - at_) (by omega) (by omega), w64 (x := at_ - p) (by omega) (by omega), spec_l1Most.at, w64 (x := (i : Int) + 1) (by omega) (by omega)]
    simp only [Option.bind_some]
    rw [w64 (x := now + max (p - at_) (at_ - p)) (by omega) (by omega), w64 (x := now + max (p - at_) (at_ - p) + x3) (by omega) (by omega)]
    exact hr
  | succ d ih =>
    intro low S e h0 hS
    obtain ⟨S', h1, h2, h3⟩ := ih (low - 1) (S.set (low - 1).toNat (now + at_ - (low - 1))) (by omega) (by omega) (by simpa using hS)
    refine ⟨S', h1, fun q hq hq2 => ?_, fun r hr => ?_⟩
    · have h2 := h2 q hq hq2
      have := rd_set S (i := low - 1) (q := q) (v := now + at_ - (low - 1)) ⟨by omega, by omega⟩ hq
      by_cases c : q = low - 1
      · rw [if_pos c] at this
        refine ⟨fun _ => ?_, fun c2 => by omega⟩
        rw [h2.2 (by omega), this, c]
      · rw [if_neg c] at this
        refine ⟨fun c2 => h2.1 (by omega), fun c2 => ?_⟩
        rw [h2.2 (by omega), this]
    · refine Ev.step (fun k => by rw [spec_l3Times.l2]) (ev_pos (by omega) (ev_pos (by omega) ?_))
      rw [hp, w64 (x := low - 1) (by omega) (by omega), w64 (x := now + at_) (by omega) (by omega), w64 (x := now + at_ - (low - 1)) (by omega) (by omega)]
      refine ev_pos (by omega) (ev_pos (by omega) (ev_pos (by omega) ?_))
      exact h3 r hr
/-- The program's way: it marks what is not marked yet. -/
theorem impl_times.go {n : Int} (l y : List Int) (x3 tgt s : Int) (i : Nat) (hl : l.length ≤ 35184372088832) (hi : i < l.length) (hn : 2 ≤ n ∧ n ≤ 24) (hs : s = 1 ∨ s = -1) (hy : y.length ≤ 1000) :
    ∀ (d j : Nat) (at_ time : Int) (M : List Int), j + d = y.length → y.drop j = way s at_ d → 0 ≤ at_ → at_ ≤ n - 1 → (s = 1 ∧ at_ + d ≤ n - 1 ∨ s = -1 ∧ 0 ≤ at_ - d) → 0 ≤ time → time + d ≤ 1000000000000 → M.length = n →
      ∃ M' : List Int, M'.length = n ∧ (∀ q, 0 ≤ q → q < n → ((s = 1 ∧ at_ < q ∧ q ≤ at_ + d ∨ s = -1 ∧ at_ - d ≤ q ∧ q < at_) ∧ rd M q < 0 → rd M' q = time + max (q - at_) (at_ - q)) ∧ (¬ ((s = 1 ∧ at_ < q ∧ q ≤ at_ + d ∨ s = -1 ∧ at_ - d ≤ q ∧ q < at_) ∧ rd M q < 0) → rd M' q = rd M q)) ∧
        ∀ r, Ev (fun k => impl_Road_times.l1 k x3 M' (time + d) tgt l l.length ((i + 1 : Nat) : Int) n false) r → Ev (fun k => impl_Road_times.l2 k x3 M time tgt l l.length i y y.length j n false) r := by
  intro d
  induction d with
  | zero =>
    intro j at_ time M e ey h0 h1 hb ht ht2 hM
    refine ⟨M, hM, fun q h1 h2 => ⟨fun c => by omega, fun _ => rfl⟩, fun r hr => ?_⟩
    refine Ev.step (fun k => by rw [impl_Road_times.l2]) (ev_neg (by omega) ?_)
    rw [w64 (x := (i : Int) + 1) (by omega) (by omega)]
    simpa using hr
  | succ d ih =>
    intro j at_ time M e ey h0 h1 hb ht ht2 hM
    have hj : j < y.length := by omega
    rw [List.drop_eq_getElem_cons hj, way] at ey
    have ey1 := (List.cons.inj ey).1
    have ey2 := (List.cons.inj ey).2
    have hrd : rd y j = at_ + s := by rw [rd_get rfl hj]; exact ey1
    by_cases c : rd M (at_ + s) < 0
    · obtain ⟨M', h2, h3, h4⟩ := ih (j + 1) (at_ + s) (time + 1) (M.set (at_ + s).toNat (time + 1)) (by omega) ey2 (by omega) (by omega) (by omega) (by omega) (by omega) (by simpa using hM)
      refine ⟨M', h2, fun q hq hq2 => ?_, fun r hr => ?_⟩
      · have h3 := h3 q hq hq2
        have := rd_set M (i := at_ + s) (q := q) (v := time + 1) ⟨by omega, by omega⟩ hq
        by_cases c2 : q = at_ + s
        · rw [if_pos c2] at this
          subst c2
          have h5 := h3.2 (by omega)
          exact ⟨fun _ => by omega, fun c3 => by omega⟩
        · rw [if_neg c2] at this
          rw [this] at h3
          exact ⟨fun c3 => by rw [h3.1 (by omega)]; omega, fun c3 => h3.2 (by omega)⟩
      · refine Ev.step (fun k => by rw [impl_Road_times.l2]) (ev_pos (by omega) (ev_pos (by omega) (ev_pos (by omega) ?_)))
        rw [hrd, w64 (x := time + 1) (by omega) (by omega), w64 (x := (j : Int) + 1) (by omega) (by omega)]
        refine ev_pos (by omega) (ev_pos (by omega) (ev_pos c ?_))
        exact h4 r (by rw [show time + 1 + (d : Int) = time + ((d + 1 : Nat) : Int) from by omega]; exact hr)
    · obtain ⟨M', h2, h3, h4⟩ := ih (j + 1) (at_ + s) (time + 1) M (by omega) ey2 (by omega) (by omega) (by omega) (by omega) (by omega) hM
      refine ⟨M', h2, fun q hq hq2 => ?_, fun r hr => ?_⟩
      · have h3 := h3 q hq hq2
        by_cases c2 : q = at_ + s
        · subst c2
          have h5 := h3.2 (by omega)
          exact ⟨fun _ => by omega, fun c3 => by omega⟩
        · exact ⟨fun c3 => by rw [h3.1 (by omega)]; omega, fun c3 => h3.2 (by omega)⟩
      · refine Ev.step (fun k => by rw [impl_Road_times.l2]) (ev_pos (by omega) (ev_pos (by omega) (ev_pos (by omega) ?_)))
        rw [hrd, w64 (x := time + 1) (by omega) (by omega), w64 (x := (j : Int) + 1) (by omega) (by omega)]
        refine ev_pos (by omega) (ev_pos (by omega) (ev_neg c ?_))
        exact h4 r (by rw [show time + 1 + (d : Int) = time + ((d + 1 : Nat) : Int) from by omega]; exact hr)
theorem times_both {n : Int} {a : Int} (l : List Int) (x3 : Int) (hl : l.length ≤ 1048576) (hn : 2 ≤ n ∧ n ≤ 24) (hx3 : 0 ≤ x3 ∧ x3 ≤ 9) :
    ∀ (d i : Nat) (pr : Option Bool) (low high at_ now time : Int) (S M : List Int), i + d = l.length → srch n a pr low high (l.drop i) = true → 0 ≤ low → low ≤ at_ → at_ ≤ high → high ≤ n - 1 → low ≤ a → a ≤ high → S.length = n → M.length = n →
      (∀ q, low ≤ q → q ≤ high → rd S q = rd M q ∧ 0 ≤ rd M q ∧ rd M q ≤ 100000000 ∧ (q ≠ a → 0 < rd M q)) → (∀ q, 0 ≤ q → q < n → ¬ (low ≤ q ∧ q ≤ high) → rd M q < 0) → (i = 0 ∧ now = time ∨ 0 < i ∧ now = time + x3) → 0 ≤ time → 0 ≤ now → now ≤ 40 * i →
      ∃ r : List Int, Ev (fun k => spec_l3Times.l0 k l x3 S now at_ low high i) r ∧ Ev (fun k => impl_Road_times.l1 k x3 M time at_ l l.length i n false) r ∧ r.length = n ∧ ∀ q, 0 ≤ q → q < n → q ≠ a → 0 < rd r q ∧ rd r q ≤ 100000000 := by
  intro d
  induction d with
  | zero =>
    intro i pr low high at_ now time S M e hs h0 h1 h2 h3 h4 h5 hS hM hin hout hnow ht hw hw2
    rw [List.drop_eq_nil_of_le (by omega)] at hs
    have hs := srch_nil hs
    refine ⟨S, Ev.step (fun k => by rw [spec_l3Times.l0]) (ev_neg (by omega) (ev_some rfl)), Ev.step (fun k => by rw [impl_Road_times.l1]) (ev_neg (by omega) (ev_some ?_)), hS, fun q hq hq2 hqa => by
      have h6 := hin q (by omega) (by omega)
      have h7 := h6.2.2.2 hqa
      omega⟩
    exact (rd_ext (by omega) fun q hq hq2 => (hin q (by omega) (by omega)).1).symm
  | succ d ih =>
    intro i pr low high at_ now time S M e hs h0 h1 h2 h3 h4 h5 hS hM hin hout hnow ht hw hw2
    have hi : i < l.length := by omega
    rw [List.drop_eq_getElem_cons hi] at hs
    obtain ⟨p0, p1, p2, p3, hs⟩ := srch_cons hs
    have hrd : rd l i = l[i] := rd_get rfl hi
    generalize hp : l[i] = p at *
    -- the program's turn
    obtain ⟨s, m, hsm, hway⟩ := straight_ev hn (tgt := p) (a := at_) ⟨p0, p1⟩ (by omega) [at_] (by simp) (by simp) rfl
    obtain ⟨M', m1, m2, m3⟩ := impl_times.go (n := n) l (way s at_ m) x3 p s i (by omega) hi hn (by omega) (by rw [way_length]; omega) m 0 at_ now M (by rw [way_length]; omega) rfl (by omega) (by omega) (by omega) hw (by omega) hM
    have himpl : ∀ r, Ev (fun k => impl_Road_times.l1 k x3 M' (now + m) p l l.length ((i + 1 : Nat) : Int) n false) r → Ev (fun k => impl_Road_times.l1 k x3 M time at_ l l.length i n false) r := by
      intro r hr
      have hj : Ev (fun k => impl_Road_times.j2 k x3 M now at_ p l l.length i n false) r := by
        refine Ev.step (fun k => by rw [impl_Road_times.j2]) (Ev.bind hway ?_)
        refine ev_pos (by simp; omega) ?_
        simp only [Option.bind_some, List.singleton_append, List.drop_succ_cons, List.drop_zero]
        exact m3 r hr
      refine Ev.step (fun k => by rw [impl_Road_times.l1]) (ev_pos (by omega) (ev_pos (by omega) (ev_pos (by omega) ?_)))
      rw [hrd]
      by_cases c : (i : Int) > 0
      · refine ev_pos c ?_
        rw [w64 (x := time + x3) (by omega) (by omega), show time + x3 = now from by omega]
        exact hj
      · refine ev_neg c ?_
        rw [show time = now from by omega]
        exact hj
    by_cases hpa : p > a
    · have hph := p2 hpa
      rw [if_pos hpa, if_pos hpa] at hs
      obtain ⟨S1, s1, s2, s3⟩ := spec_l3Times.right (n := n) l x3 now at_ low p i hi hrd hn ⟨p0, p1⟩ (by omega) ⟨hw, by omega⟩ (p - high).toNat high S (by omega) (by omega) hS
      have s4 : ∀ r, Ev (fun k => spec_l3Times.l0 k l x3 S1 (now + max (p - at_) (at_ - p) + x3) p low p ((i + 1 : Nat) : Int)) r → Ev (fun k => spec_l3Times.l2 k l x3 S1 now at_ low p i) r := by
        intro r hr
        refine Ev.step (fun k => by rw [spec_l3Times.l2]) (ev_pos (by omega) (ev_pos (by omega) ?_))
        rw [hrd]
        refine ev_neg (by omega) ?_
        rw [w64 (x := p - at_) (by omega) (by omega), w64 (x := at_ - p) (by omega) (by omega), spec_l1Most.at, w64 (x := (i : Int) + 1) (by omega) (by omega)]
        simp only [Option.bind_some]
        rw [w64 (x := now + max (p - at_) (at_ - p)) (by omega) (by omega), w64 (x := now + max (p - at_) (at_ - p) + x3) (by omega) (by omega)]
        exact hr
      have hmax : now + max (p - at_) (at_ - p) + x3 = now + m + x3 := by omega
      rw [hmax] at s4
      obtain ⟨r, r1, r2, r3⟩ := ih (i + 1) _ low p p (now + m + x3) (now + m) S1 M' (by omega) hs h0 (by omega) (by omega) p1 h4 (by omega) s1 m1
        (fun q q1 q2 => by
          have a1 := s2 q (by omega) (by omega)
          have a2 := m2 q (by omega) (by omega)
          by_cases c : q ≤ high
          · have b1 := hin q q1 c
            rw [a1.2 (by omega), a2.2 (by omega)]
            exact b1
          · have b1 := hout q (by omega) (by omega) (by omega)
            rw [a1.1 (by omega), a2.1 (by omega)]
            omega)
        (fun q q1 q2 q3 => by
          have a2 := m2 q (by omega) (by omega)
          rw [a2.2 (by omega)]
          exact hout q q1 q2 (by omega))
        (.inr ⟨by omega, rfl⟩) (by omega) (by omega) (by omega)
      refine ⟨r, ?_, himpl r r2, r3⟩
      refine Ev.step (fun k => by rw [spec_l3Times.l0]) (ev_pos (by omega) ?_)
      exact s3 r (s4 r r1)
    · have hpl := p3 hpa
      rw [if_neg hpa, if_neg hpa] at hs
      obtain ⟨S1, s1, s2, s3⟩ := spec_l3Times.left (n := n) l x3 now at_ high p i (by omega) hi hrd hn ⟨p0, p1⟩ (by omega) ⟨hw, by omega⟩ hx3 (low - p).toNat low S (by omega) (by omega) hS
      have hmax : now + max (p - at_) (at_ - p) + x3 = now + m + x3 := by omega
      rw [hmax] at s3
      obtain ⟨r, r1, r2, r3⟩ := ih (i + 1) _ p high p (now + m + x3) (now + m) S1 M' (by omega) hs p0 (by omega) (by omega) h3 (by omega) h5 s1 m1
        (fun q q1 q2 => by
          have a1 := s2 q (by omega) (by omega)
          have a2 := m2 q (by omega) (by omega)
          by_cases c : low ≤ q
          · have b1 := hin q c q2
            rw [a1.2 (by omega), a2.2 (by omega)]
            exact b1
          · have b1 := hout q (by omega) (by omega) (by omega)
            rw [a1.1 (by omega), a2.1 (by omega)]
            omega)
        (fun q q1 q2 q3 => by
          have a2 := m2 q (by omega) (by omega)
          rw [a2.2 (by omega)]
          exact hout q q1 q2 (by omega))
        (.inr ⟨by omega, rfl⟩) (by omega) (by omega) (by omega)
      refine ⟨r, ?_, himpl r r2, r3⟩
      refine Ev.step (fun k => by rw [spec_l3Times.l0]) (ev_pos (by omega) ?_)
      refine Ev.step (fun k => by rw [spec_l3Times.l1]) (ev_pos (by omega) (ev_pos (by omega) ?_))
      rw [hrd]
      refine ev_neg (by omega) ?_
      exact s3 r r1
/-- Both times of a search are the same list, greater than 0 but at the start. -/
theorem times_evp {n a : Int} {l : List Int} {x3 : Int} (hl : l.length ≤ 1048576) (h : okSearch n false a l = true) (hx3 : 0 ≤ x3 ∧ x3 ≤ 9) :
    ∃ r : List Int, Ev (fun k => spec_l3Times.f k n false a l x3) r ∧ Ev (fun k => impl_Road_times.f k n false a l x3) r ∧ r.length = n ∧ ∀ q, 0 ≤ q → q < n → q ≠ a → 0 < rd r q ∧ rd r q ≤ 100000000 := by
  simp only [okSearch, Bool.and_eq_true] at h
  have hb := okStart_b h.1
  have hn : 2 ≤ n ∧ n ≤ 24 := ⟨hb.2.2.1, hb.2.2.2.1⟩
  have ha : 0 ≤ a ∧ a ≤ n - 1 := hb.2.2.2.2
  have hrep : (List.replicate n.toNat (0 : Int)).length = n.toNat := by simp
  have hz : ∀ q : Int, rd (List.replicate n.toNat (0 : Int)) q = 0 := by
    intro q
    simp [rd, List.getD_eq_getElem?_getD, List.getElem?_replicate]
    split <;> rfl
  have hmin : ∀ (d i : Nat) (M : List Int), i + d = n.toNat → M.length = n → (∀ q : Int, 0 ≤ q → q < i → rd M q = -1) →
      ∃ M' : List Int, M'.length = n ∧ (∀ q, 0 ≤ q → q < n → rd M' q = if q = a then 0 else -1) ∧
        ∀ r, Ev (fun k => impl_Road_times.l1 k x3 M' 0 a l l.length 0 n false) r → Ev (fun k => impl_Road_times.l0 k a l x3 M (n.toNat : Int) i n false) r := by
    intro d
    induction d with
    | zero =>
      intro i M e hM hq
      refine ⟨M.set a.toNat 0, by simpa using hM, fun q h1 h2 => ?_, fun r hr => ?_⟩
      · rw [rd_set M ⟨ha.1, by omega⟩ h1, hq q h1 (by omega)]
      · refine Ev.step (fun k => by rw [impl_Road_times.l0]) (ev_neg (by omega) (ev_pos (by omega) (ev_pos (by omega) ?_)))
        exact hr
    | succ d ih =>
      intro i M e hM hq
      obtain ⟨M', h1, h2, h3⟩ := ih (i + 1) (M.set ((i : Nat) : Int).toNat (-1)) (by omega) (by simpa using hM) (fun q q1 q2 => by
        rw [rd_set M (by omega) q1]
        by_cases c : q = i
        · rw [if_pos c]
        · rw [if_neg c]
          exact hq q q1 (by omega))
      refine ⟨M', h1, h2, fun r hr => ?_⟩
      refine Ev.step (fun k => by rw [impl_Road_times.l0]) (ev_pos (by omega) (ev_pos (by omega) (ev_pos (by omega) ?_)))
      rw [w64 (x := (i : Int) + 1) (by omega) (by omega)]
      exact h3 r hr
  obtain ⟨M', m1, m2, m3⟩ := hmin n.toNat 0 (List.replicate n.toNat 0) (by omega) (by rw [hrep]; omega) (fun q q1 q2 => by omega)
  obtain ⟨r, r1, r2, r3⟩ := times_both (n := n) (a := a) l x3 hl hn hx3 l.length 0 none a a a 0 0 (List.replicate n.toNat 0) M' (by omega) (by simpa using h.2) ha.1 (by omega) (by omega) ha.2 (by omega) (by omega) (by rw [hrep]; omega) m1
    (fun q q1 q2 => by
      rw [hz, m2 q (by omega) (by omega), if_pos (by omega)]
      omega)
    (fun q q1 q2 q3 => by
      rw [m2 q q1 q2, if_neg (by omega)]
      omega)
    (.inl ⟨rfl, rfl⟩) (by omega) (by omega) (by omega)
  refine ⟨r, ?_, ?_, r3⟩
  · unfold spec_l3Times.f
    exact ev_pos (by omega) (ev_pos (by omega) r1)
  · unfold impl_Road_times.f
    refine ev_pos (by omega) (ev_pos (by omega) ?_)
    simp only [Option.bind_some]
    rw [hrep]
    exact m3 r r2
theorem gap_line (n a b : Int) : gap n false a b = max (a - b) (b - a) := by
  unfold gap
  rw [if_neg (by simp)]
/-- The worst place of some times: both sides go the same way. -/
theorem worst_both {n a : Int} (t : List Int) (hn : 2 ≤ n ∧ n ≤ 24) (ha : 0 ≤ a ∧ a ≤ n - 1) (ht : t.length = n) (hpos : ∀ q, 0 ≤ q → q < n → q ≠ a → 0 < rd t q ∧ rd t q ≤ 100000000) :
    ∀ (d i : Nat) (b pl x y : Int), i + d = n.toNat → (i = 0 ∨ i = 1 ∧ a = 0) ∧ x = 0 ∧ y = 1 ∨ b = pl ∧ 0 < x ∧ x ≤ 100000000 ∧ 0 < y ∧ y ≤ 24 →
      ∃ b' x' y' : Int, Ev (fun k => spec_l3Worst.l0 k a t b x y i n false) (b', x', y') ∧ 0 < x' ∧ x' ≤ 100000000 ∧ 0 < y' ∧ y' ≤ 24 ∧
        ∀ r, Ev (fun k => (impl_fraction.f k x' y').bind fun bt => some (bt.1, bt.2, b')) r → Ev (fun k => impl_Road_worst.l0 k a pl t t.length i n false x y) r := by
  intro d
  induction d with
  | zero =>
    intro i b pl x y e h
    refine ⟨b, x, y, Ev.step (fun k => by rw [spec_l3Worst.l0]) (ev_neg (by omega) (ev_some rfl)), by omega, by omega, by omega, by omega, fun r hr => ?_⟩
    refine Ev.step (fun k => by rw [impl_Road_worst.l0]) (ev_neg (by omega) ?_)
    rw [show pl = b from by omega]
    exact hr
  | succ d ih =>
    intro i b pl x y e h
    have e1 : wrap64 ((i : Int) + 1) = ((i + 1 : Nat) : Int) := by unfold wrap64; omega
    have hs : ∀ r, Ev (fun k => (if max (a - (i : Int)) ((i : Int) - a) > 0 then (if wrap64 (rd t i * y) > wrap64 (x * max (a - (i : Int)) ((i : Int) - a)) then spec_l3Worst.l0 k a t i (rd t i) (max (a - (i : Int)) ((i : Int) - a)) ((i + 1 : Nat) : Int) n false else spec_l3Worst.l0 k a t b x y ((i + 1 : Nat) : Int) n false) else spec_l3Worst.l0 k a t b x y ((i + 1 : Nat) : Int) n false)) r → Ev (fun k => spec_l3Worst.l0 k a t b x y i n false) r := by
      intro r hr
      refine Ev.step (fun k => by rw [spec_l3Worst.l0]) (ev_pos (by omega) ?_)
      rw [spec_l2Gap.at false hn ha (by omega), gap_line, e1]
      simp only [Option.bind_some]
      by_cases c : max (a - (i : Int)) ((i : Int) - a) > 0
      · exact ev_pos c (ev_pos (by omega) (ev_pos (by omega) (by simpa only [c, if_true] using hr)))
      · exact ev_neg c (by simpa only [c, if_false] using hr)
    have hi : ∀ r, Ev (fun k => (if (i : Int) = a then impl_Road_worst.l0 k a pl t t.length ((i + 1 : Nat) : Int) n false x y else (if wrap64 (rd t i * y) > wrap64 (x * max (a - (i : Int)) ((i : Int) - a)) then impl_Road_worst.l0 k a i t t.length ((i + 1 : Nat) : Int) n false (rd t i) (max (a - (i : Int)) ((i : Int) - a)) else impl_Road_worst.l0 k a pl t t.length ((i + 1 : Nat) : Int) n false x y))) r → Ev (fun k => impl_Road_worst.l0 k a pl t t.length i n false x y) r := by
      intro r hr
      refine Ev.step (fun k => by rw [impl_Road_worst.l0]) (ev_pos (by omega) (ev_pos (by omega) (ev_pos (by omega) ?_)))
      rw [impl_Road_gap.at false hn ha (by omega), gap_line, e1]
      simp only [Option.bind_some]
      exact hr
    by_cases c : (i : Int) = a
    · obtain ⟨b', x', y', r1, r2, r3, r4, r5, r6⟩ := ih (i + 1) b pl x y (by omega) (by omega)
      refine ⟨b', x', y', hs _ ?_, r2, r3, r4, r5, fun r hr => hi _ ?_⟩
      · exact ev_neg (by omega) r1
      · exact ev_pos c (r6 r hr)
    · have hp := hpos i (by omega) (by omega) c
      by_cases c2 : wrap64 (rd t i * y) > wrap64 (x * max (a - (i : Int)) ((i : Int) - a))
      · obtain ⟨b', x', y', r1, r2, r3, r4, r5, r6⟩ := ih (i + 1) i i (rd t i) (max (a - (i : Int)) ((i : Int) - a)) (by omega) (.inr (by omega))
        refine ⟨b', x', y', hs _ ?_, r2, r3, r4, r5, fun r hr => hi _ ?_⟩
        · exact ev_pos (by omega) (ev_pos c2 r1)
        · exact ev_neg c (ev_pos c2 (r6 r hr))
      · have h2 : b = pl ∧ 0 < x ∧ x ≤ 100000000 ∧ 0 < y ∧ y ≤ 24 := by
          rcases h with ⟨_, h0, h1⟩ | h
          · refine absurd ?_ c2
            rw [h0, h1, Int.mul_one, Int.zero_mul, w64 (x := rd t i) (by omega) (by omega), w64 (x := 0) (by omega) (by omega)]
            exact hp.1
          · exact h
        obtain ⟨b', x', y', r1, r2, r3, r4, r5, r6⟩ := ih (i + 1) b pl x y (by omega) (.inr h2)
        refine ⟨b', x', y', hs _ ?_, r2, r3, r4, r5, fun r hr => hi _ ?_⟩
        · exact ev_pos (by omega) (ev_neg c2 r1)
        · exact ev_neg c (ev_neg c2 (r6 r hr))
/-- What both sides find: the place, its time and its gap. -/
theorem worst_ev {n a : Int} {l : List Int} {x3 : Int} (hl : l.length ≤ 1048576) (h : okSearch n false a l = true) (hx3 : 0 ≤ x3 ∧ x3 ≤ 9) :
    ∃ b x y : Int, Ev (fun k => spec_l3Worst.f k n false a l x3) (b, x, y) ∧ 0 < x ∧ x ≤ 100000000 ∧ 0 < y ∧ y ≤ 24 ∧
      ∀ r, Ev (fun k => (impl_fraction.f k x y).bind fun bt => some (bt.1, bt.2, b)) r → Ev (fun k => impl_Road_worst.f k n false a l x3) r := by
  have h' := h
  simp only [okSearch, Bool.and_eq_true] at h'
  have hb := okStart_b h'.1
  obtain ⟨t, t1, t2, t3, t4⟩ := times_evp hl h hx3
  obtain ⟨b, x, y, r1, r2, r3, r4, r5, r6⟩ := worst_both t ⟨hb.2.2.1, hb.2.2.2.1⟩ hb.2.2.2.2 t3 t4 n.toNat 0 0 a 0 1 (by omega) (.inl ⟨.inl rfl, rfl, rfl⟩)
  refine ⟨b, x, y, ?_, r2, r3, r4, r5, fun r hr => ?_⟩
  · unfold spec_l3Worst.f
    exact Ev.bind t1 r1
  · unfold impl_Road_worst.f
    exact Ev.bind t2 (r6 r hr)
/-- The greatest common divisor, by both sides. -/
theorem impl_divisor.pos : ∀ (m : Nat) (a b : Int), b.toNat ≤ m → 0 ≤ b → 0 < a → ∃ g, 0 < g ∧ Ev (fun k => impl_divisor.l0 k a b) g := by
  intro m
  induction m with
  | zero =>
    intro a b h1 h2 h3
    exact ⟨a, h3, Ev.step (fun k => by rw [impl_divisor.l0]) (ev_pos (by omega) (ev_some rfl))⟩
  | succ m ih =>
    intro a b h1 h2 h3
    by_cases c : b = 0
    · exact ⟨a, h3, Ev.step (fun k => by rw [impl_divisor.l0]) (ev_pos c (ev_some rfl))⟩
    · have e : Int.tmod a b = a % b := Int.tmod_eq_emod_of_nonneg (by omega)
      have e0 := Int.emod_nonneg a c
      have e1 := Int.emod_lt_of_pos a (show 0 < b by omega)
      obtain ⟨g, g0, g1⟩ := ih b (a % b) (by omega) e0 (by omega)
      exact ⟨g, g0, Ev.step (fun k => by rw [impl_divisor.l0]) (ev_neg c (by rw [e]; exact g1))⟩
theorem gcd_dvd : ∀ (m : Nat) (a b : Int), b.toNat ≤ m → 0 ≤ b → 0 < a → ∃ g, 0 < g ∧ g ∣ a ∧ g ∣ b ∧ Ev (fun k => impl_divisor.l0 k a b) g := by
  intro m
  induction m with
  | zero =>
    intro a b h1 h2 h3
    exact ⟨a, h3, Int.dvd_refl a, by rw [show b = 0 by omega]; exact Int.dvd_zero a, Ev.step (fun k => by rw [impl_divisor.l0]) (ev_pos (by omega) (ev_some rfl))⟩
  | succ m ih =>
    intro a b h1 h2 h3
    by_cases c : b = 0
    · exact ⟨a, h3, Int.dvd_refl a, by rw [c]; exact Int.dvd_zero a, Ev.step (fun k => by rw [impl_divisor.l0]) (ev_pos c (ev_some rfl))⟩
    · have e : Int.tmod a b = a % b := Int.tmod_eq_emod_of_nonneg (by omega)
      have e0 := Int.emod_nonneg a c
      have e1 := Int.emod_lt_of_pos a (show 0 < b by omega)
      obtain ⟨g, g0, g2, g3, g1⟩ := ih b (a % b) (by omega) e0 (by omega)
      refine ⟨g, g0, ?_, g2, Ev.step (fun k => by rw [impl_divisor.l0]) (ev_neg c (by rw [e]; exact g1))⟩
      rw [← Int.emod_add_mul_ediv a b]
      exact Int.dvd_add g3 (Int.dvd_mul_of_dvd_left g2)
/-- The worst place's time and gap, and the two shortened by one divisor. -/
theorem worst_frac {n a : Int} {l : List Int} {ex : Int} (hl : l.length ≤ 1048576) (h : okSearch n false a l = true) (hx : 0 ≤ ex ∧ ex ≤ 9) :
    ∃ b p q h : Int, 0 < p ∧ 0 < q ∧ 0 < h ∧ p * h ≤ 100000000 ∧ q * h ≤ 24 ∧ Ev (fun k => spec_l3Worst.f k n false a l ex) (b, p * h, q * h) ∧ Ev (fun k => impl_Road_worst.f k n false a l ex) (p, q, b) := by
  obtain ⟨b, x, y, r1, r2, r3, r4, r5, r6⟩ := worst_ev (x3 := ex) hl h hx
  obtain ⟨c, c0, ⟨p, hp⟩, ⟨q, hq⟩, c3⟩ := gcd_dvd y.toNat x y (by omega) (by omega) r2
  have p0 : 0 < p := by
    rcases Int.lt_or_le 0 p with h | h
    · exact h
    · have := Int.mul_le_mul_of_nonneg_left h (Int.le_of_lt c0)
      omega
  have q0 : 0 < q := by
    rcases Int.lt_or_le 0 q with h | h
    · exact h
    · have := Int.mul_le_mul_of_nonneg_left h (Int.le_of_lt c0)
      omega
  have c1 : 1 ≤ c := by omega
  have pb := Int.mul_le_mul_of_nonneg_right c1 (Int.le_of_lt p0)
  have qb := Int.mul_le_mul_of_nonneg_right c1 (Int.le_of_lt q0)
  have ep : Int.tdiv x c = p := by rw [hp]; exact Int.mul_tdiv_cancel_left p (by omega)
  have eq : Int.tdiv y c = q := by rw [hq]; exact Int.mul_tdiv_cancel_left q (by omega)
  refine ⟨b, p, q, c, p0, q0, c0, by rw [Int.mul_comm]; omega, by rw [Int.mul_comm]; omega, by rw [Int.mul_comm p c, Int.mul_comm q c, ← hp, ← hq]; exact r1, r6 _ ?_⟩
  unfold impl_fraction.f impl_divisor.f
  refine Ev.bind (a := (p, q)) (Ev.bind c3 (ev_neg (by omega) (ev_some ?_))) (ev_some rfl)
  rw [ep, eq, w64 (by omega) (by omega), w64 (by omega) (by omega)]
/-- The order of two fractions, with and without their divisors. -/
theorem cross {p q h p' q' h' : Int} (h0 : 0 < h) (h1 : 0 < h') : p * h * (q' * h') < p' * h' * (q * h) ↔ p * q' < p' * q := by
  have e1 : p * h * (q' * h') = (p * q') * (h * h') := by rw [Int.mul_assoc, Int.mul_assoc, Int.mul_left_comm h q' h']
  have e2 : p' * h' * (q * h) = (p' * q) * (h * h') := by rw [Int.mul_assoc, Int.mul_assoc, Int.mul_left_comm h' q h, Int.mul_comm h' h]
  rw [e1, e2]
  exact Int.mul_lt_mul_right (Int.mul_pos h0 h1)
theorem bound {p q : Int} (hp : 0 < p) (hp1 : p ≤ 100000000) (hq : 0 < q) (hq1 : q ≤ 24) : wrap64 (p * q) = p * q := by
  have h1 := Int.mul_pos hp hq
  have h2 := Int.mul_le_mul hp1 hq1 (Int.le_of_lt hq) (by omega)
  exact w64 (by omega) (by omega)
theorem le_mul {p h : Int} (hp : 0 < p) (hh : 0 < h) : p ≤ p * h := by
  have h2 := Int.mul_le_mul_of_nonneg_left (show 1 ≤ h by omega) (Int.le_of_lt hp)
  omega
theorem best_both {n a ex : Int} (hx : 0 ≤ ex ∧ ex ≤ 9) : ∀ (L : List (List Int)) (b : List Int) (c p q h : Int), 0 < p → 0 < q → 0 < h → p * h ≤ 100000000 → q * h ≤ 24 → b.length ≤ 1048576 →
    Ev (fun k => spec_l3Worst.f k n false a b ex) (c, p * h, q * h) → (∀ l ∈ L, okSearch n false a l = true ∧ l.length ≤ 1048576 ∧ l ≠ []) →
    ∃ r, Ev (fun k => spec_BestSearch.l0 k n false a ex L b) r ∧ Ev (fun k => impl_BestSearch.l0 k n false a ex L (some b) p q) r ∧ r.length ≤ 1048576 := by
  intro L
  induction L with
  | nil =>
    intro b c p q h _ _ _ _ _ hb _ _
    exact ⟨b, by unfold spec_BestSearch.l0; exact ev_some rfl, by unfold impl_BestSearch.l0; exact ev_some rfl, hb⟩
  | cons l L ih =>
    intro b c p q h p0 q0 h0 p1 q1 hb hw hL
    obtain ⟨l1, l2, l3⟩ := hL l (List.mem_cons_self ..)
    obtain ⟨c', p', q', h', p0', q0', h0', p1', q1', w1, w2⟩ := worst_frac l2 l1 hx
    have hL' : ∀ l ∈ L, okSearch n false a l = true ∧ l.length ≤ 1048576 ∧ l ≠ [] := fun x hx => hL x (List.mem_cons_of_mem _ hx)
    have m1 := le_mul p0 h0
    have m2 := le_mul q0 h0
    have m3 := le_mul p0' h0'
    have m4 := le_mul q0' h0'
    have cs : wrap64 (p' * h' * (q * h)) < wrap64 (p * h * (q' * h')) ↔ wrap64 (p' * q) < wrap64 (p * q') := by
      rw [bound (by omega) p1' (by omega) q1, bound (by omega) p1 (by omega) q1', bound (p := p') (by omega) (by omega) q0 (by omega), bound (p := p) (by omega) (by omega) q0' (by omega)]
      exact cross h0' h0
    have hl0 : ¬ (l.length = 0) := fun e => l3 (List.eq_nil_of_length_eq_zero e)
    by_cases d : wrap64 (p' * q) < wrap64 (p * q')
    · obtain ⟨r, r1, r2, r3⟩ := ih l c' p' q' h' p0' q0' h0' p1' q1' l2 w1 hL'
      refine ⟨r, ?_, ?_, r3⟩
      · unfold spec_BestSearch.l0
        exact Ev.bind w1 (Ev.bind hw (ev_pos (cs.2 d) r1))
      · unfold impl_BestSearch.l0
        exact ev_neg hl0 (Ev.bind w2 (ev_pos (.inr d) r2))
    · obtain ⟨r, r1, r2, r3⟩ := ih b c p q h p0 q0 h0 p1 q1 hb hw hL'
      refine ⟨r, ?_, ?_, r3⟩
      · unfold spec_BestSearch.l0
        exact Ev.bind w1 (Ev.bind hw (ev_neg (fun z => d (cs.1 z)) r1))
      · unfold impl_BestSearch.l0
        refine ev_neg hl0 (Ev.bind w2 (ev_neg ?_ r2))
        rintro (z | z)
        · exact absurd z (by simp)
        · exact d z
/-- Both sides name the same searches, and each is one. -/
def agree (n a : Int) : Bool := match spec_l3All.f n false a, impl_Road_searches.f n false a with
  | some L, some M => decide (L = M) && decide (L ≠ []) && decide (L.length < 1048576) && L.all fun l => okSearch n false a l && decide (l.length ≤ 100) && decide (l ≠ [])
  | _, _ => false
set_option maxRecDepth 100000
theorem c2_0 : agree 2 0 = true := by decide +kernel
theorem c2_1 : agree 2 1 = true := by decide +kernel
theorem c3_0 : agree 3 0 = true := by decide +kernel
theorem c3_1 : agree 3 1 = true := by decide +kernel
theorem c3_2 : agree 3 2 = true := by decide +kernel
theorem c4_0 : agree 4 0 = true := by decide +kernel
theorem c4_1 : agree 4 1 = true := by decide +kernel
theorem c4_2 : agree 4 2 = true := by decide +kernel
theorem c4_3 : agree 4 3 = true := by decide +kernel
theorem c5_0 : agree 5 0 = true := by decide +kernel
theorem c5_1 : agree 5 1 = true := by decide +kernel
theorem c5_2 : agree 5 2 = true := by decide +kernel
theorem c5_3 : agree 5 3 = true := by decide +kernel
theorem c5_4 : agree 5 4 = true := by decide +kernel
theorem c6_0 : agree 6 0 = true := by decide +kernel
theorem c6_1 : agree 6 1 = true := by decide +kernel
theorem c6_2 : agree 6 2 = true := by decide +kernel
theorem c6_3 : agree 6 3 = true := by decide +kernel
theorem c6_4 : agree 6 4 = true := by decide +kernel
theorem c6_5 : agree 6 5 = true := by decide +kernel
theorem c7_0 : agree 7 0 = true := by decide +kernel
theorem c7_1 : agree 7 1 = true := by decide +kernel
theorem c7_2 : agree 7 2 = true := by decide +kernel
theorem c7_3 : agree 7 3 = true := by decide +kernel
theorem c7_4 : agree 7 4 = true := by decide +kernel
theorem c7_5 : agree 7 5 = true := by decide +kernel
theorem c7_6 : agree 7 6 = true := by decide +kernel
theorem c8_0 : agree 8 0 = true := by decide +kernel
theorem c8_1 : agree 8 1 = true := by decide +kernel
theorem c8_2 : agree 8 2 = true := by decide +kernel
theorem c8_3 : agree 8 3 = true := by decide +kernel
theorem c8_4 : agree 8 4 = true := by decide +kernel
theorem c8_5 : agree 8 5 = true := by decide +kernel
theorem c8_6 : agree 8 6 = true := by decide +kernel
theorem c8_7 : agree 8 7 = true := by decide +kernel
theorem c9_0 : agree 9 0 = true := by decide +kernel
theorem c9_1 : agree 9 1 = true := by decide +kernel
theorem c9_2 : agree 9 2 = true := by decide +kernel
theorem c9_3 : agree 9 3 = true := by decide +kernel
theorem c9_4 : agree 9 4 = true := by decide +kernel
theorem c9_5 : agree 9 5 = true := by decide +kernel
theorem c9_6 : agree 9 6 = true := by decide +kernel
theorem c9_7 : agree 9 7 = true := by decide +kernel
theorem c9_8 : agree 9 8 = true := by decide +kernel
theorem c10_0 : agree 10 0 = true := by decide +kernel
theorem c10_1 : agree 10 1 = true := by decide +kernel
theorem c10_2 : agree 10 2 = true := by decide +kernel
theorem c10_3 : agree 10 3 = true := by decide +kernel
theorem c10_4 : agree 10 4 = true := by decide +kernel
theorem c10_5 : agree 10 5 = true := by decide +kernel
theorem c10_6 : agree 10 6 = true := by decide +kernel
theorem c10_7 : agree 10 7 = true := by decide +kernel
theorem c10_8 : agree 10 8 = true := by decide +kernel
theorem c10_9 : agree 10 9 = true := by decide +kernel
theorem agrees (n a : Int) (hn : 2 ≤ n ∧ n ≤ 10) (ha : 0 ≤ a ∧ a ≤ n - 1) : agree n a = true := by
  have hh : n = 2 ∨ n = 3 ∨ n = 4 ∨ n = 5 ∨ n = 6 ∨ n = 7 ∨ n = 8 ∨ n = 9 ∨ n = 10 := by omega
  rcases hh with rfl | rfl | rfl | rfl | rfl | rfl | rfl | rfl | rfl
  · have ha : a = 0 ∨ a = 1 := by omega
    rcases ha with rfl | rfl
    · exact c2_0
    · exact c2_1
  · have ha : a = 0 ∨ a = 1 ∨ a = 2 := by omega
    rcases ha with rfl | rfl | rfl
    · exact c3_0
    · exact c3_1
    · exact c3_2
  · have ha : a = 0 ∨ a = 1 ∨ a = 2 ∨ a = 3 := by omega
    rcases ha with rfl | rfl | rfl | rfl
    · exact c4_0
    · exact c4_1
    · exact c4_2
    · exact c4_3
  · have ha : a = 0 ∨ a = 1 ∨ a = 2 ∨ a = 3 ∨ a = 4 := by omega
    rcases ha with rfl | rfl | rfl | rfl | rfl
    · exact c5_0
    · exact c5_1
    · exact c5_2
    · exact c5_3
    · exact c5_4
  · have ha : a = 0 ∨ a = 1 ∨ a = 2 ∨ a = 3 ∨ a = 4 ∨ a = 5 := by omega
    rcases ha with rfl | rfl | rfl | rfl | rfl | rfl
    · exact c6_0
    · exact c6_1
    · exact c6_2
    · exact c6_3
    · exact c6_4
    · exact c6_5
  · have ha : a = 0 ∨ a = 1 ∨ a = 2 ∨ a = 3 ∨ a = 4 ∨ a = 5 ∨ a = 6 := by omega
    rcases ha with rfl | rfl | rfl | rfl | rfl | rfl | rfl
    · exact c7_0
    · exact c7_1
    · exact c7_2
    · exact c7_3
    · exact c7_4
    · exact c7_5
    · exact c7_6
  · have ha : a = 0 ∨ a = 1 ∨ a = 2 ∨ a = 3 ∨ a = 4 ∨ a = 5 ∨ a = 6 ∨ a = 7 := by omega
    rcases ha with rfl | rfl | rfl | rfl | rfl | rfl | rfl | rfl
    · exact c8_0
    · exact c8_1
    · exact c8_2
    · exact c8_3
    · exact c8_4
    · exact c8_5
    · exact c8_6
    · exact c8_7
  · have ha : a = 0 ∨ a = 1 ∨ a = 2 ∨ a = 3 ∨ a = 4 ∨ a = 5 ∨ a = 6 ∨ a = 7 ∨ a = 8 := by omega
    rcases ha with rfl | rfl | rfl | rfl | rfl | rfl | rfl | rfl | rfl
    · exact c9_0
    · exact c9_1
    · exact c9_2
    · exact c9_3
    · exact c9_4
    · exact c9_5
    · exact c9_6
    · exact c9_7
    · exact c9_8
  · have ha : a = 0 ∨ a = 1 ∨ a = 2 ∨ a = 3 ∨ a = 4 ∨ a = 5 ∨ a = 6 ∨ a = 7 ∨ a = 8 ∨ a = 9 := by omega
    rcases ha with rfl | rfl | rfl | rfl | rfl | rfl | rfl | rfl | rfl | rfl
    · exact c10_0
    · exact c10_1
    · exact c10_2
    · exact c10_3
    · exact c10_4
    · exact c10_5
    · exact c10_6
    · exact c10_7
    · exact c10_8
    · exact c10_9
theorem agreed {n a : Int} (h : agree n a = true) : ∃ l L, spec_l3All.f n false a = some (l :: L) ∧ impl_Road_searches.f n false a = some (l :: L) ∧ (l :: L).length < 1048576 ∧ ∀ x ∈ l :: L, okSearch n false a x = true ∧ x.length ≤ 1048576 ∧ x ≠ [] := by
  unfold agree at h
  generalize hA : spec_l3All.f n false a = A at h ⊢
  generalize hB : impl_Road_searches.f n false a = B at h ⊢
  cases A with
  | none => simp at h
  | some L =>
    cases B with
    | none => simp at h
    | some M =>
      simp only [Bool.and_eq_true, decide_eq_true_eq, List.all_eq_true] at h
      obtain ⟨⟨⟨rfl, h2⟩, h3⟩, h4⟩ := h
      cases L with
      | nil => exact absurd rfl h2
      | cons l L => exact ⟨l, L, rfl, rfl, h3, fun x hx => ⟨(h4 x hx).1.1, by have := (h4 x hx).1.2; omega, (h4 x hx).2⟩⟩
theorem both (n : Int) (g : Bool) (a ex : Int) (_ : -9223372036854775808 ≤ a) (_ : a ≤ 9223372036854775807) (_ : -9223372036854775808 ≤ ex) (_ : ex ≤ 9223372036854775807) : ∃ r, Ev (fun k => spec_BestSearch.f k n g a ex) r ∧ Ev (fun k => impl_BestSearch.f k n g a ex) r ∧ r.1.length ≤ 1048576 := by
  unfold spec_BestSearch.f impl_BestSearch.f
  have hi := impl_isStart.ev n g a
  rw [spec_l3Line.at, spec_l3Extra.at, impl_isExtra.at]
  simp only [Option.bind_some]
  by_cases h : okStart n g a = true
  · obtain ⟨_, rfl, h2, h3, h4, h5⟩ := okStart_b h
    by_cases hn : n > 10
    · exact ⟨([], false), ev_pos h (ev_pos hn (ev_some rfl)), Ev.bind hi (ev_pos h (ev_pos hn (ev_some rfl))), by simp⟩
    · by_cases hx : 0 ≤ ex ∧ ex ≤ 9
      · obtain ⟨l, L, e1, e2, e3, e4⟩ := agreed (agrees n a ⟨h2, by omega⟩ ⟨h4, h5⟩)
        obtain ⟨l1, l2, l3⟩ := e4 l (List.mem_cons_self ..)
        obtain ⟨c, p, q, d, p0, q0, d0, p1, q1, w1, w2⟩ := worst_frac l2 l1 hx
        obtain ⟨r, r1, r2, r3⟩ := best_both hx L l c p q d p0 q0 d0 p1 q1 l2 w1 (fun x hx => e4 x (List.mem_cons_of_mem _ hx))
        refine ⟨(r, true), ev_pos h (ev_neg hn (ev_pos (by simpa using hx) ?_)), Ev.bind hi (ev_pos h (ev_neg hn (ev_pos (by simpa using hx) ?_))), r3⟩
        · rw [e1]
          simp only [Option.bind_some]
          exact ev_pos e3 (Ev.bind r1 (ev_some rfl))
        · rw [e2]
          simp only [Option.bind_some]
          refine ev_pos e3 (Ev.bind ?_ (ev_some rfl))
          unfold impl_BestSearch.l0
          exact ev_neg (fun e => l3 (List.eq_nil_of_length_eq_zero e)) (Ev.bind w2 (ev_pos (.inl rfl) r2))
      · exact ⟨([], false), ev_pos h (ev_neg hn (ev_neg (by simpa using hx) (ev_some rfl))), Ev.bind hi (ev_pos h (ev_neg hn (ev_neg (by simpa using hx) (ev_some rfl)))), by simp⟩
  · exact ⟨([], false), ev_neg h (ev_some rfl), Ev.bind hi (ev_neg h (ev_some rfl)), by simp⟩
theorem FnExactBestSearch (n : Int) (g : Bool) (a : Int) (ex : Int) (_ : -9223372036854775808 ≤ n) (_ : n ≤ 9223372036854775807) (h0a : -9223372036854775808 ≤ a) (h1a : a ≤ 9223372036854775807) (h0ex : -9223372036854775808 ≤ ex) (h1ex : ex ≤ 9223372036854775807) : ∃ k, laws_FnExactBestSearch.f k n g a ex = some true := by
  refine Ev.rounds (r := true) ?_
  unfold laws_FnExactBestSearch.f
  obtain ⟨r, hs, hi, hd⟩ := both n g a ex h0a h1a h0ex h1ex
  obtain ⟨r, b⟩ := r
  simp only at hd
  simp only [laws_toRoad.at, Option.bind_some]
  repeat' (first
    | with_reducible exact ev_some rfl
    | with_reducible refine Ev.bind hs ?_
    | with_reducible refine Ev.bind hi ?_
    | with_reducible refine Ev.bind (ev_const (laws_toRoad.at _ _)) ?_
    | ((with_reducible refine Ev.bind (laws_eqIntS.ev _ _ ?h1_) ?_); (case h1_ => (first | omega | (simp only []; omega) | (simp only [marks_length]; omega))))
    | ((with_reducible refine Ev.bind (laws_markIntS.ev _ ?h1_ _ (by first | omega | (simp only []; omega)) (by first | omega | (simp only []; omega))) ?_); (case h1_ => (first | omega | (simp only []; omega) | (simp only [marks_length]; omega))))
    | ((with_reducible refine Ev.bind (laws_heldIntS.ev _ ?h1_ 1 (by omega) (by omega)) ?_); (case h1_ => (first | omega | (simp only []; omega) | (simp only [marks_length]; omega))))
    | ((with_reducible refine ev_pos ?h1_ ?_); (case h1_ => (first | rfl | assumption | (simp; done))))
    | ((with_reducible refine ev_neg ?h1_ ?_); (case h1_ => (first | assumption | (simp; done) | (first | omega | (simp only []; omega) | (simp only [marks_length]; omega)) | (simp; omega))))
    | (with_reducible refine Ev.step (g := fun k => laws_FnExactBestSearch.j0 k _ _ _ _ _ _ _ _) (fun k => by rw [laws_FnExactBestSearch.j0]) ?_)
    | (with_reducible refine Ev.step (g := fun k => laws_FnExactBestSearch.j1 k _ _ _) (fun k => by rw [laws_FnExactBestSearch.j1]) ?_)
    )

end Go.Proofs.Ytaomldgodfbokaa.Pure
