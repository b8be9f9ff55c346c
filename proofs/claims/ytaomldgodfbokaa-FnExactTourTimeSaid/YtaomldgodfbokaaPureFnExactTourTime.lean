/- The plain side of the law FnExactTourTime: the printed law, whatever its input (within the form's bounds), comes to true. No other condition. -/
import Derived.Test.YtaomldgodfbokaaPFnExactTourTimex4
import Derived.Test.YtaomldgodfbokaaBase
import Derived.Test.YtaomldgodfbokaaMath
namespace Go.Proofs.Ytaomldgodfbokaa.Pure
open Go.RowKit Go.Proofs.Ytaomldgodfbokaa.PFnExactTourTime Go.Proofs.YtaomldgodfbokaaW.PrintWords Go.Proofs.YtaomldgodfbokaaW.PrintLast Go.Proofs.YtaomldgodfbokaaW.PrintMore Go.Proofs.Ytaomldgodfbokaa.Base Go.Proofs.Ytaomldgodfbokaa.M
set_option linter.unusedVariables false
set_option linter.unusedSimpArgs false

theorem laws_toIntS.ev (l : List Int) (hl : l.length ≤ 35184372088832) : Ev (fun k => laws_toIntS.f k l) l := by
  have main : ∀ (d i : Nat) (x : List Int), i + d = l.length → x.length = l.length → (∀ j, j < i → x[j]? = l[j]?) →
      Ev (fun k => laws_toIntS.l0 k l x i) l := by
    intro d
    induction d with
    | zero =>
      intro i x e hx hj
      refine Ev.step (fun k => by rw [laws_toIntS.l0]) ?_
      refine ev_neg (by omega) ?_
      refine ev_some (List.ext_getElem? fun j => ?_)
      by_cases h : j < l.length
      · exact hj j (by omega)
      · rw [List.getElem?_eq_none (by omega), List.getElem?_eq_none (by omega)]
    | succ d ih =>
      intro i x e hx hj
      refine Ev.step (fun k => by rw [laws_toIntS.l0]) ?_
      refine ev_pos (by omega) ?_
      refine ev_pos (by omega) ?_
      refine ev_pos (by omega) ?_
      rw [w64 (x := (i : Int) + 1) (by omega) (by omega)]
      refine ih (i + 1) _ (by omega) (by simpa using hx) (fun j hj' => ?_)
      rw [Int.toNat_natCast, rd_get rfl (by omega)]
      by_cases h : j = i
      · subst h
        rw [List.getElem?_set_self (by omega), List.getElem?_eq_getElem (by omega)]
      · rw [List.getElem?_set_ne (by omega)]
        exact hj j (by omega)
  unfold laws_toIntS.f
  refine ev_pos (by omega) ?_
  refine ev_pos (by omega) ?_
  exact main l.length 0 _ (by omega) (by simp) (fun j hj => by omega)
theorem laws_eqIntS.ev (a b : List Int) (hl : a.length ≤ 35184372088832) : Ev (fun k => laws_eqIntS.f k a b) (decide (a = b)) := by
  have main : ∀ (d i : Nat), i + d = a.length → a.length = b.length → Ev (fun k => laws_eqIntS.l0 k a b i) (decide (a.drop i = b.drop i)) := by
    intro d
    induction d with
    | zero =>
      intro i e he
      refine Ev.step (fun k => by rw [laws_eqIntS.l0]) ?_
      refine ev_neg (by omega) ?_
      refine ev_some ?_
      rw [List.drop_eq_nil_of_le (by omega), List.drop_eq_nil_of_le (by omega)]
      rfl
    | succ d ih =>
      intro i e he
      refine Ev.step (fun k => by rw [laws_eqIntS.l0]) ?_
      refine ev_pos (by omega) ?_
      refine ev_pos (by omega) ?_
      refine ev_pos (by omega) ?_
      rw [w64 (x := (i : Int) + 1) (by omega) (by omega), rd_get rfl (by omega), rd_get rfl (by omega), List.drop_eq_getElem_cons (by omega), List.drop_eq_getElem_cons (l := b) (by omega)]
      by_cases h : a[i] = b[i]
      · refine ev_pos h ?_
        rw [show decide (a[i] :: a.drop (i + 1) = b[i] :: b.drop (i + 1)) = decide (a.drop (i + 1) = b.drop (i + 1)) from decide_eq_decide.2 ⟨fun e => (List.cons.inj e).2, fun e => by rw [h, e]⟩]
        exact ih (i + 1) (by omega) he
      · refine ev_neg h (ev_some ?_)
        exact (decide_eq_false fun e => h (List.cons.inj e).1).symm
  unfold laws_eqIntS.f
  by_cases h : a.length = b.length
  · refine ev_pos (by omega) ?_
    exact main a.length 0 (by omega) h
  · refine ev_neg (by omega) (ev_some ?_)
    symm
    rw [decide_eq_false_iff_not]
    exact fun e => h (by rw [e])
theorem spec_l1In.at (a b c : Int) : spec_l1In.f a b c = some (decide (b ≤ a ∧ a ≤ c)) := by
  unfold spec_l1In.f
  by_cases h : a ≥ b
  · rw [if_pos h]
    simp [show b ≤ a from h]
  · rw [if_neg h]
    simp [show ¬ b ≤ a from h]
theorem impl_within.at (a b c : Int) : impl_within.f a b c = some (decide (b ≤ a ∧ a ≤ c)) := by
  unfold impl_within.f
  by_cases h : a ≥ b
  · rw [if_pos h]
    simp [show b ≤ a from h]
  · rw [if_neg h]
    simp [show ¬ b ≤ a from h]
theorem spec_l2Road.at (n : Int) (g : Bool) : spec_l2Road.f n g = some (okRoad n g) := by
  unfold spec_l2Road.f okRoad
  rw [spec_l1In.at]
  simp only [Option.bind_some]
  by_cases h : 2 ≤ n ∧ n ≤ 24
  · rw [if_pos (by simpa using h)]
    cases g with
    | false => simp [h]
    | true =>
      simp only [if_true, h, true_and, Option.some.injEq]
      exact decide_eq_decide.2 (by simp; omega)
  · rw [if_neg (by simpa using h)]
    simp only [Option.some.injEq]
    exact (decide_eq_false (fun h' => h ⟨h'.1, h'.2.1⟩)).symm
theorem impl_IsRoad.at (n : Int) (g : Bool) : impl_IsRoad.f n g = some (okRoad n g) := by
  unfold impl_IsRoad.f okRoad
  rw [impl_within.at]
  simp only [Option.bind_some]
  by_cases h : 2 ≤ n ∧ n ≤ 24
  · rw [if_pos (by simpa using h)]
    cases g with
    | false => simp [h]
    | true =>
      simp only [if_true, h, true_and, Option.some.injEq]
      exact decide_eq_decide.2 (by simp)
  · rw [if_neg (by simpa using h)]
    simp only [Option.some.injEq]
    exact (decide_eq_false (fun h' => h ⟨h'.1, h'.2.1⟩)).symm
theorem laws_toRoad.at (n : Int) (g : Bool) : laws_toRoad.f n g = some (n, g) := rfl
theorem spec_l2Place.at (n : Int) (g : Bool) (p : Int) : spec_l2Place.f n g p = some (okRoad n g && decide (0 ≤ p ∧ p ≤ n - 1)) := by
  unfold spec_l2Place.f
  rw [spec_l2Road.at]
  simp only [Option.bind_some]
  by_cases h : okRoad n g = true
  · have hb := okRoad_b h
    rw [if_pos h, w64 (x := n - 1) (by omega) (by omega), spec_l1In.at, h]
    rfl
  · rw [if_neg h]
    rw [Bool.not_eq_true] at h
    rw [h]
    rfl
theorem spec_l1Most.at (a b : Int) : spec_l1Most.f a b = some (max a b) := by
  unfold spec_l1Most.f
  by_cases h : a > b
  · rw [if_pos h, Int.max_eq_left (by omega)]
  · rw [if_neg h, Int.max_eq_right (by omega)]
theorem spec_l1Least.at (a b : Int) : spec_l1Least.f a b = some (min a b) := by
  unfold spec_l1Least.f
  by_cases h : a < b
  · rw [if_pos h, Int.min_eq_left (by omega)]
  · rw [if_neg h, Int.min_eq_right (by omega)]
theorem impl_allWithin.ev (l : List Int) (lo hi : Int) (hl : l.length ≤ 35184372088832) : Ev (fun k => impl_allWithin.f k l lo hi) (l.all fun x => decide (lo ≤ x ∧ x ≤ hi)) := by
  have main : ∀ (d i : Nat), i + d = l.length → Ev (fun k => impl_allWithin.l0 k lo hi l l.length i) ((l.drop i).all fun x => decide (lo ≤ x ∧ x ≤ hi)) := by
    intro d
    induction d with
    | zero =>
      intro i e
      refine Ev.step (fun k => by rw [impl_allWithin.l0]) ?_
      refine ev_neg (by omega) (ev_some ?_)
      rw [List.drop_eq_nil_of_le (by omega)]
      rfl
    | succ d ih =>
      intro i e
      refine Ev.step (fun k => by rw [impl_allWithin.l0]) ?_
      refine ev_pos (by omega) ?_
      refine ev_pos (by omega) ?_
      refine ev_pos (by omega) ?_
      rw [w64 (x := (i : Int) + 1) (by omega) (by omega), rd_get rfl (by omega), List.drop_eq_getElem_cons (by omega), List.all_cons, impl_within.at]
      simp only [Option.bind_some]
      by_cases h : lo ≤ l[i] ∧ l[i] ≤ hi
      · refine ev_pos (by simpa using h) ?_
        rw [decide_eq_true h, Bool.true_and]
        exact ih (i + 1) (by omega)
      · refine ev_neg (by simpa using h) (ev_some ?_)
        rw [decide_eq_false h, Bool.false_and]
  unfold impl_allWithin.f
  exact main l.length 0 (by omega)
theorem impl_Road_has.ev {n : Int} (g : Bool) (l : List Int) (hn : 2 ≤ n ∧ n ≤ 24) (hl : l.length ≤ 35184372088832) : Ev (fun k => impl_Road_has.f k n g l) (l.all fun x => decide (0 ≤ x ∧ x ≤ n - 1)) := by
  unfold impl_Road_has.f
  rw [w64 (x := n - 1) (by omega) (by omega)]
  exact Ev.bind (impl_allWithin.ev l 0 (n - 1) hl) (ev_some rfl)
def leastOf (F : Nat → Int) : Nat → Nat → Int → Int
  | 0, _, b => b
  | d + 1, k, b => leastOf F d (k + 1) (min b (F k))
theorem le_leastOf (F : Nat → Int) (x : Int) : ∀ (d k : Nat) (b : Int), leastOf F d k b ≤ x ↔ b ≤ x ∨ ∃ j, (k ≤ j ∧ j < k + d) ∧ F j ≤ x := by
  intro d
  induction d with
  | zero =>
    intro k b
    unfold leastOf
    exact ⟨.inl, fun h => h.elim id (fun ⟨j, hj, _⟩ => by omega)⟩
  | succ d ih =>
    intro k b
    unfold leastOf
    rw [ih]
    constructor
    · rintro (h | ⟨j, hj, h⟩)
      · by_cases c : b ≤ x
        · exact .inl c
        · exact .inr ⟨k, by omega, by omega⟩
      · exact .inr ⟨j, by omega, h⟩
    · rintro (h | ⟨j, hj, h⟩)
      · exact .inl (by omega)
      · by_cases c : j = k
        · subst c
          exact .inl (by omega)
        · exact .inr ⟨j, by omega, h⟩
def upAt (ups : List Int) (k : Nat) : Int := if k = 0 then 0 else rd ups ((k : Int) - 1)
def downAt (n : Int) (ups : List Int) (k : Nat) : Int := if k < ups.length then n - rd ups k else 0
theorem ring_eq (n : Int) (ups : List Int) : ∀ (d k : Nat) (b : Int), impl_Road_tour.ring n ups d k b = leastOf (fun k => impl_Road_tour.reach (upAt ups k) (downAt n ups k)) d k b := by
  intro d
  induction d with
  | zero => intro k b; rfl
  | succ d ih =>
    intro k b
    rw [impl_Road_tour.ring, leastOf, ih]
    rfl
def leftOf (n a r : Int) : List Int → Int → Int
  | [], x => x
  | p :: t, x => leftOf n a r t (if (p - a + n) % n > r then max x (n - (p - a + n) % n) else x)
theorem leftOf_le (n a r D : Int) : ∀ (l : List Int) (x : Int), leftOf n a r l x ≤ D ↔ x ≤ D ∧ ∀ p, p ∈ l → (p - a + n) % n > r → n - (p - a + n) % n ≤ D := by
  intro l
  induction l with
  | nil =>
    intro x
    unfold leftOf
    exact ⟨fun h => ⟨h, fun p hp => absurd hp (by simp)⟩, fun h => h.1⟩
  | cons p t ih =>
    intro x
    unfold leftOf
    rw [ih]
    constructor
    · rintro ⟨h1, h2⟩
      split at h1
      · refine ⟨by omega, fun q hq => ?_⟩
        rcases List.mem_cons.1 hq with rfl | hq
        · intro _; omega
        · exact h2 q hq
      · refine ⟨h1, fun q hq => ?_⟩
        rcases List.mem_cons.1 hq with rfl | hq
        · intro h; omega
        · exact h2 q hq
    · rintro ⟨h1, h2⟩
      refine ⟨?_, fun q hq => h2 q (List.mem_cons_of_mem _ hq)⟩
      split
      · have := h2 p (List.mem_cons_self ..) (by assumption)
        omega
      · exact h1
theorem leftOf_ge (n a r : Int) (l : List Int) (x : Int) : x ≤ leftOf n a r l x := ((leftOf_le n a r _ l x).1 (Int.le_refl _)).1
theorem spec_l2Far.at {n : Int} (g : Bool) {a p : Int} (hn : 2 ≤ n ∧ n ≤ 24) (ha : 0 ≤ a ∧ a ≤ n - 1) (hp : 0 ≤ p ∧ p ≤ n - 1) : spec_l2Far.f n g a p = some ((p - a + n) % n) := by
  unfold spec_l2Far.f
  rw [if_neg (by omega), w64 (x := p - a) (by omega) (by omega), w64 (by omega) (by omega), Int.tmod_eq_emod_of_nonneg (by omega)]
theorem spec_l2Tour.at {x y : Int} (hx : 0 ≤ x ∧ x ≤ 100) (hy : 0 ≤ y ∧ y ≤ 100) : spec_l2Tour.f x y = some (x + y + min x y) := by
  unfold spec_l2Tour.f
  rw [spec_l1Least.at]
  simp only [Option.bind_some]
  rw [w64 (x := x + y) (by omega) (by omega), w64 (by omega) (by omega)]
theorem spec_left {n : Int} {a : Int} {l : List Int} (hn : 2 ≤ n ∧ n ≤ 24) (ha : 0 ≤ a ∧ a ≤ n - 1) (hp : ∀ p, p ∈ l → 0 ≤ p ∧ p ≤ n - 1) (hl : l.length ≤ 1048576) (b r : Int) (hr : 0 ≤ r ∧ r ≤ 23) (res : Int × Bool) :
    ∀ (d i : Nat) (x : Int), i + d = l.length → 0 ≤ x ∧ x ≤ n → Ev (fun k => spec_TourTime.l2 k a l (min b (leftOf n a r (l.drop i) x + r + min (leftOf n a r (l.drop i) x) r)) (r + 1) n true) res → Ev (fun k => spec_TourTime.l3 k a l b r x i n true) res := by
  intro d
  induction d with
  | zero =>
    intro i x e hx h
    rw [List.drop_eq_nil_of_le (by omega)] at h
    unfold leftOf at h
    refine Ev.step (fun k => by rw [spec_TourTime.l3]) ?_
    refine ev_neg (by omega) ?_
    rw [spec_l2Tour.at (by omega) (by omega)]
    simp only [Option.bind_some]
    rw [spec_l1Least.at]
    simp only [Option.bind_some]
    rw [w64 (x := r + 1) (by omega) (by omega)]
    exact h
  | succ d ih =>
    intro i x e hx h
    have hi : i < l.length := by omega
    have hpi := hp l[i] (List.getElem_mem hi)
    have h1 := Int.emod_nonneg (l[i] - a + n) (show n ≠ 0 by omega)
    have h2 := Int.emod_lt_of_pos (l[i] - a + n) (show 0 < n by omega)
    rw [List.drop_eq_getElem_cons hi] at h
    unfold leftOf at h
    refine Ev.step (fun k => by rw [spec_TourTime.l3]) ?_
    refine ev_pos (by omega) (ev_pos (by omega) ?_)
    rw [rd_get rfl hi, spec_l2Far.at true hn ha hpi, w64 (x := (i : Int) + 1) (by omega) (by omega)]
    simp only [Option.bind_some]
    by_cases c : (l[i] - a + n) % n > r
    · rw [if_pos c] at h
      refine ev_pos c ?_
      rw [w64 (x := n - (l[i] - a + n) % n) (by omega) (by omega), spec_l1Most.at]
      simp only [Option.bind_some]
      exact ih (i + 1) _ (by omega) (by omega) h
    · rw [if_neg c] at h
      exact ev_neg c (ih (i + 1) _ (by omega) hx h)
def tourAt (n a : Int) (l : List Int) (r : Nat) : Int := impl_Road_tour.reach (leftOf n a r l 0) r
theorem spec_ring {n : Int} {a : Int} {l : List Int} (hn : 2 ≤ n ∧ n ≤ 24) (ha : 0 ≤ a ∧ a ≤ n - 1) (hp : ∀ p, p ∈ l → 0 ≤ p ∧ p ≤ n - 1) (hl : l.length ≤ 1048576) :
    ∀ (d r : Nat) (b : Int), r + d = n.toNat → Ev (fun k => spec_TourTime.l2 k a l b r n true) (leastOf (tourAt n a l) d r b, true) := by
  intro d
  induction d with
  | zero =>
    intro r b e
    refine Ev.step (fun k => by rw [spec_TourTime.l2]) ?_
    exact ev_neg (by omega) (ev_some rfl)
  | succ d ih =>
    intro r b e
    refine Ev.step (fun k => by rw [spec_TourTime.l2]) ?_
    refine ev_pos (by omega) ?_
    refine spec_left hn ha hp hl b r (by omega) _ l.length 0 0 (by omega) (by omega) ?_
    exact ih (r + 1) _ (by omega)
def linA (a : Int) : List Int → Int → Int
  | [], x => x
  | p :: t, x => linA a t (max x (a - p))
def linB (a : Int) : List Int → Int → Int
  | [], x => x
  | p :: t, x => linB a t (max x (p - a))
theorem linA_le (a D : Int) : ∀ (l : List Int) (x : Int), linA a l x ≤ D ↔ x ≤ D ∧ ∀ p, p ∈ l → a - p ≤ D := by
  intro l
  induction l with
  | nil => intro x; unfold linA; simp
  | cons p t ih =>
    intro x
    unfold linA
    rw [ih, List.forall_mem_cons, ← and_assoc]
    exact and_congr (by omega) Iff.rfl
theorem linB_le (a D : Int) : ∀ (l : List Int) (x : Int), linB a l x ≤ D ↔ x ≤ D ∧ ∀ p, p ∈ l → p - a ≤ D := by
  intro l
  induction l with
  | nil => intro x; unfold linB; simp
  | cons p t ih =>
    intro x
    unfold linB
    rw [ih, List.forall_mem_cons, ← and_assoc]
    exact and_congr (by omega) Iff.rfl
theorem line1_le (D : Int) : ∀ (l : List Int) (s : Int × Int), (impl_Road_tour.line s l).1 ≤ D ↔ s.1 ≤ D ∧ ∀ p, p ∈ l → p ≤ D := by
  intro l
  induction l with
  | nil => intro s; unfold impl_Road_tour.line; simp
  | cons p t ih =>
    intro s
    unfold impl_Road_tour.line
    rw [ih, List.forall_mem_cons, ← and_assoc]
    exact and_congr (by simp only []; omega) Iff.rfl
theorem line2_le (D : Int) : ∀ (l : List Int) (s : Int × Int), (impl_Road_tour.line s l).2 ≤ D ↔ s.2 ≤ D ∧ ∀ p, p ∈ l → -p ≤ D := by
  intro l
  induction l with
  | nil => intro s; unfold impl_Road_tour.line; simp
  | cons p t ih =>
    intro s
    unfold impl_Road_tour.line
    rw [ih, List.forall_mem_cons, ← and_assoc]
    exact and_congr (by simp only []; omega) Iff.rfl
theorem eq_of_le {A B : Int} (h : ∀ D, A ≤ D ↔ B ≤ D) : A = B := by
  have h1 := (h A).1 (Int.le_refl _)
  have h2 := (h B).2 (Int.le_refl _)
  omega
theorem spec_line {n : Int} {a : Int} {l : List Int} (hn : 2 ≤ n ∧ n ≤ 24) (ha : 0 ≤ a ∧ a ≤ n - 1) (hp : ∀ p, p ∈ l → 0 ≤ p ∧ p ≤ n - 1) (hl : l.length ≤ 1048576) :
    ∀ (d i : Nat) (x y : Int), i + d = l.length → 0 ≤ x ∧ x ≤ 24 → 0 ≤ y ∧ y ≤ 24 → Ev (fun k => spec_TourTime.l1 k a l x y i) (impl_Road_tour.reach (linB a (l.drop i) y) (linA a (l.drop i) x), true) := by
  intro d
  induction d with
  | zero =>
    intro i x y e hx hy
    rw [List.drop_eq_nil_of_le (by omega)]
    unfold linA linB
    refine Ev.step (fun k => by rw [spec_TourTime.l1]) ?_
    refine ev_neg (by omega) ?_
    rw [spec_l2Tour.at (by omega) (by omega)]
    refine ev_some ?_
    rw [show x + y + min x y = impl_Road_tour.reach y x by unfold impl_Road_tour.reach; omega]
  | succ d ih =>
    intro i x y e hx hy
    have hi : i < l.length := by omega
    have hpi := hp l[i] (List.getElem_mem hi)
    rw [List.drop_eq_getElem_cons hi]
    unfold linA linB
    refine Ev.step (fun k => by rw [spec_TourTime.l1]) ?_
    refine ev_pos (by omega) (ev_pos (by omega) ?_)
    rw [rd_get rfl hi, w64 (x := (i : Int) + 1) (by omega) (by omega), w64 (x := a - l[i]) (by omega) (by omega), w64 (x := l[i] - a) (by omega) (by omega), spec_l1Most.at, spec_l1Most.at]
    simp only [Option.bind_some]
    exact ih (i + 1) _ _ (by omega) (by omega) (by omega)
theorem line_same (n a : Int) (l : List Int) : impl_Road_tour.reach (linB a l 0) (linA a l 0) = impl_Road_tour.reach (impl_Road_tour.line (0, 0) (impl_Road_tour.ups n false a l)).1 (impl_Road_tour.line (0, 0) (impl_Road_tour.ups n false a l)).2 := by
  have hm : ∀ y, y ∈ impl_Road_tour.ups n false a l ↔ ∃ p, p ∈ l ∧ p - a = y := by
    intro y
    unfold impl_Road_tour.ups
    rw [if_neg (by decide), List.mem_mergeSort, List.mem_map]
    rfl
  have e1 : linB a l 0 = (impl_Road_tour.line (0, 0) (impl_Road_tour.ups n false a l)).1 := eq_of_le fun D => by
    rw [linB_le, line1_le]
    refine and_congr Iff.rfl ⟨fun h y hy => ?_, fun h p hp => ?_⟩
    · obtain ⟨p, hp, rfl⟩ := (hm y).1 hy
      exact h p hp
    · exact h _ ((hm _).2 ⟨p, hp, rfl⟩)
  have e2 : linA a l 0 = (impl_Road_tour.line (0, 0) (impl_Road_tour.ups n false a l)).2 := eq_of_le fun D => by
    rw [linA_le, line2_le]
    refine and_congr Iff.rfl ⟨fun h y hy => ?_, fun h p hp => ?_⟩
    · obtain ⟨p, hp, rfl⟩ := (hm y).1 hy
      have := h p hp
      omega
    · have := h _ ((hm _).2 ⟨p, hp, rfl⟩)
      omega
  rw [e1, e2]
theorem ring_same {n : Int} {a : Int} {l : List Int} (hn : 2 ≤ n ∧ n ≤ 24) : leastOf (tourAt n a l) n.toNat 0 n = impl_Road_tour.ring n (impl_Road_tour.ups n true a l) ((impl_Road_tour.ups n true a l).length + 1) 0 60 := by
  have hm : ∀ y, y ∈ impl_Road_tour.ups n true a l ↔ (∃ p, p ∈ l ∧ (p - a + n) % n = y) ∧ y ≠ 0 := by
    intro y
    unfold impl_Road_tour.ups
    rw [if_pos rfl, List.mem_filter, List.mem_mergeSort, List.mem_map]
    unfold impl_Road_tour.phi
    simp
  have hs : (impl_Road_tour.ups n true a l).Pairwise (fun x y => x ≤ y) := by
    unfold impl_Road_tour.ups
    rw [if_pos rfl]
    have := List.pairwise_mergeSort (le := fun (x y : Int) => decide (x ≤ y)) (fun a b c h1 h2 => by simp at *; omega) (fun a b => by simp; omega) (l.map (impl_Road_tour.phi n true a))
    exact (this.imp (fun h => by simpa using h)).filter _
  have hb : ∀ y, y ∈ impl_Road_tour.ups n true a l → 1 ≤ y ∧ y ≤ n - 1 := by
    intro y hy
    obtain ⟨⟨p, _, e⟩, h0⟩ := (hm y).1 hy
    have h1 := Int.emod_nonneg (p - a + n) (show n ≠ 0 by omega)
    have h2 := Int.emod_lt_of_pos (p - a + n) (show 0 < n by omega)
    omega
  generalize impl_Road_tour.ups n true a l = U at *
  rw [ring_eq]
  have hge : ∀ j : Nat, (hj : j < U.length) → rd U (j : Int) = U[j] := fun j hj => rd_get rfl hj
  have hmono : ∀ i j : Nat, (hi : i < U.length) → (hj : j < U.length) → i ≤ j → U[i] ≤ U[j] := by
    intro i j hi hj hij
    by_cases c : i = j
    · subst c; exact Int.le_refl _
    · exact (List.pairwise_iff_getElem.1 hs) i j hi hj (by omega)
  have hup : ∀ k, k ≤ U.length → 0 ≤ upAt U k ∧ upAt U k ≤ n - 1 := by
    intro k hk
    unfold upAt
    split
    · omega
    · have hj : k - 1 < U.length := by omega
      rw [show (k : Int) - 1 = ((k - 1 : Nat) : Int) by omega, hge _ hj]
      have := hb _ (List.getElem_mem hj)
      omega
  have hdown : ∀ k, 0 ≤ downAt n U k := by
    intro k
    unfold downAt
    split
    · rename_i hj
      rw [hge _ hj]
      have := hb _ (List.getElem_mem hj)
      omega
    · omega
  refine eq_of_le fun D => ?_
  rw [le_leastOf, le_leastOf]
  constructor
  · rintro (h | ⟨r, hr, h⟩)
    · refine .inr ⟨U.length, by omega, ?_⟩
      have h1 := hup U.length (Nat.le_refl _)
      have h2 : downAt n U U.length = 0 := by unfold downAt; rw [if_neg (by omega)]
      rw [h2]
      unfold impl_Road_tour.reach
      omega
    · have hx : ∃ k, k ≤ U.length ∧ (∀ j, (hj : j < U.length) → j < k → U[j] ≤ (r : Int)) ∧ (∀ hk : k < U.length, (r : Int) < U[k]) := by
        have main : ∀ d k, k + d = U.length → (∀ j, (hj : j < U.length) → j < k → U[j] ≤ (r : Int)) → ∃ k, k ≤ U.length ∧ (∀ j, (hj : j < U.length) → j < k → U[j] ≤ (r : Int)) ∧ (∀ hk : k < U.length, (r : Int) < U[k]) := by
          intro d
          induction d with
          | zero => exact fun k e hk => ⟨k, by omega, hk, fun h => by omega⟩
          | succ d ih =>
            intro k e hk
            have hk' : k < U.length := by omega
            by_cases c : U[k] ≤ (r : Int)
            · refine ih (k + 1) (by omega) (fun j hj hjk => ?_)
              by_cases cj : j = k
              · subst cj; exact c
              · exact hk j hj (by omega)
            · exact ⟨k, by omega, hk, fun _ => by omega⟩
        exact main U.length 0 (by omega) (fun j _ h => by omega)
      obtain ⟨k, hk, hk1, hk2⟩ := hx
      refine .inr ⟨k, by omega, ?_⟩
      have h1 := hup k hk
      have h2 := hdown k
      have h3 : upAt U k ≤ r := by
        unfold upAt
        split
        · omega
        · have hj : k - 1 < U.length := by omega
          rw [show (k : Int) - 1 = ((k - 1 : Nat) : Int) by omega, hge _ hj]
          exact hk1 _ hj (by omega)
      have h0 := leftOf_ge n a r l 0
      have h4 : downAt n U k ≤ leftOf n a r l 0 := by
        unfold downAt
        split
        · rename_i hj
          rw [hge _ hj]
          obtain ⟨⟨p, hp, e⟩, _⟩ := (hm _).1 (List.getElem_mem hj)
          have h5 := ((leftOf_le n a r _ l 0).1 (Int.le_refl _)).2 p hp (by rw [e]; exact hk2 hj)
          rw [e] at h5
          exact h5
        · exact h0
      unfold tourAt impl_Road_tour.reach at h
      show impl_Road_tour.reach (upAt U k) (downAt n U k) ≤ D
      unfold impl_Road_tour.reach
      omega
  · rintro (h | ⟨k, hk, h⟩)
    · exact .inl (by omega)
    · have h1 := hup k (by omega)
      have h2 := hdown k
      refine .inr ⟨(upAt U k).toNat, by omega, ?_⟩
      have h3 : leftOf n a (upAt U k) l 0 ≤ downAt n U k := by
        rw [leftOf_le]
        refine ⟨h2, fun p hp hgt => ?_⟩
        have hy := (hm _).2 ⟨⟨p, hp, rfl⟩, by omega⟩
        generalize (p - a + n) % n = y at *
        obtain ⟨j, hj, rfl⟩ := List.getElem_of_mem hy
        have hjk : ¬ j < k := by
          intro c
          unfold upAt at hgt
          rw [if_neg (by omega)] at hgt
          have hj' : k - 1 < U.length := by omega
          rw [show (k : Int) - 1 = ((k - 1 : Nat) : Int) by omega, hge _ hj'] at hgt
          have := hmono j (k - 1) hj hj' (by omega)
          omega
        unfold downAt
        have hk' : k < U.length := by omega
        rw [if_pos hk', hge _ hk']
        have := hmono k j hk' hj (by omega)
        omega
      have h0 := leftOf_ge n a (upAt U k) l 0
      unfold impl_Road_tour.reach at h
      unfold tourAt impl_Road_tour.reach
      rw [Int.toNat_of_nonneg h1.1]
      omega
theorem both (n : Int) (g : Bool) (a : Int) (l : List Int) (hl : l.length ≤ 1048576) (_ : -9223372036854775808 ≤ a) (_ : a ≤ 9223372036854775807) : ∃ r, Ev (fun k => spec_TourTime.f k n g a l) r ∧ Ev (fun k => impl_TourTime.f k n g a l) r := by
  have hs : ∀ (d i : Nat) (res : Int × Bool), i + d = l.length → okRoad n g = true → ((l.drop i).all (fun x => decide (0 ≤ x ∧ x ≤ n - 1)) = false → res = (0, false)) → ((l.drop i).all (fun x => decide (0 ≤ x ∧ x ≤ n - 1)) = true → Ev (fun k => if g = true then spec_TourTime.l2 k a l n 0 n g else spec_TourTime.l1 k a l 0 0 0) res) → Ev (fun k => spec_TourTime.l0 k a l i n g) res := by
    intro d
    induction d with
    | zero =>
      intro i res e hr hf ht
      refine Ev.step (fun k => by rw [spec_TourTime.l0]) ?_
      refine ev_neg (by omega) ?_
      exact ht (by rw [List.drop_eq_nil_of_le (by omega)]; rfl)
    | succ d ih =>
      intro i res e hr hf ht
      have hi : i < l.length := by omega
      rw [List.drop_eq_getElem_cons hi, List.all_cons] at hf ht
      refine Ev.step (fun k => by rw [spec_TourTime.l0]) ?_
      refine ev_pos (by omega) (ev_pos (by omega) ?_)
      rw [rd_get rfl hi, spec_l2Place.at, w64 (x := (i : Int) + 1) (by omega) (by omega), hr, Bool.true_and]
      simp only [Option.bind_some]
      by_cases c : 0 ≤ l[i] ∧ l[i] ≤ n - 1
      · rw [decide_eq_true c, Bool.true_and] at hf ht
        exact ev_pos (decide_eq_true c) (ih (i + 1) res (by omega) hr hf ht)
      · rw [decide_eq_false c, Bool.false_and] at hf
        exact ev_neg (by simpa using c) (ev_some (hf rfl).symm)
  unfold spec_TourTime.f impl_TourTime.f
  rw [spec_l2Place.at, impl_IsRoad.at]
  simp only [Option.bind_some]
  by_cases hr : okRoad n g = true
  · have hb := okRoad_b hr
    have hn : 2 ≤ n ∧ n ≤ 24 := ⟨hb.1, hb.2.1⟩
    have h1 := impl_Road_has.ev g [a] hn (by simp)
    have h2 := impl_Road_has.ev g l hn (by omega)
    rw [List.all_cons, List.all_nil, Bool.and_true] at h1
    rw [hr, Bool.true_and]
    by_cases ha : 0 ≤ a ∧ a ≤ n - 1
    · rw [decide_eq_true ha] at h1 ⊢
      by_cases hp : (l.all fun x => decide (0 ≤ x ∧ x ≤ n - 1)) = true
      · rw [hp] at h2
        have hp' : ∀ p, p ∈ l → 0 ≤ p ∧ p ≤ n - 1 := fun p hq => by
          have := List.all_eq_true.1 hp p hq
          simpa using this
        have hf : ∀ v, impl_Road_tour.f n g a l = some v → Ev (fun k => (impl_Road_has.f k n g [a]).bind fun t143 => if t143 = true then (impl_Road_has.f k n g l).bind fun t144 => if t144 = true then (impl_Road_tour.f n g a l).bind fun t145 => some (t145, true) else some (0, false) else some (0, false)) (v, true) := by
          intro v hv
          refine Ev.bind h1 (ev_pos rfl (Ev.bind h2 (ev_pos rfl ?_)))
          rw [hv]
          exact ev_some rfl
        cases g with
        | false =>
          refine ⟨(impl_Road_tour.reach (linB a l 0) (linA a l 0), true), ev_pos rfl (hs l.length 0 _ (by omega) hr (fun h => ?_) (fun _ => ev_neg (by decide) (spec_line hn ha hp' hl l.length 0 0 0 (by omega) (by omega) (by omega)))), ev_pos rfl (hf _ ?_)⟩
          · rw [List.drop_zero, hp] at h
            cases h
          · rw [line_same n]
            unfold impl_Road_tour.f
            rw [if_pos ⟨hn, ha, hp', hl⟩, if_neg (by decide)]
        | true =>
          refine ⟨(leastOf (tourAt n a l) n.toNat 0 n, true), ev_pos rfl (hs l.length 0 _ (by omega) hr (fun h => ?_) (fun _ => ev_pos rfl (spec_ring hn ha hp' hl n.toNat 0 n (by omega)))), ev_pos rfl (hf _ ?_)⟩
          · rw [List.drop_zero, hp] at h
            cases h
          · rw [ring_same hn]
            unfold impl_Road_tour.f
            rw [if_pos ⟨hn, ha, hp', hl⟩, if_pos rfl]
      · rw [Bool.not_eq_true] at hp
        rw [hp] at h2
        refine ⟨(0, false), ev_pos rfl (hs l.length 0 _ (by omega) hr (fun _ => rfl) (fun h => ?_)), ev_pos rfl (Ev.bind h1 (ev_pos rfl (Ev.bind h2 (ev_neg (by decide) (ev_some rfl)))))⟩
        rw [List.drop_zero, hp] at h
        cases h
    · rw [decide_eq_false ha] at h1 ⊢
      exact ⟨(0, false), ev_neg (by decide) (ev_some rfl), ev_pos rfl (Ev.bind h1 (ev_neg (by decide) (ev_some rfl)))⟩
  · rw [Bool.not_eq_true] at hr
    rw [hr, Bool.false_and]
    exact ⟨(0, false), ev_neg (by decide) (ev_some rfl), ev_neg (by decide) (ev_some rfl)⟩
theorem FnExactTourTime (n : Int) (g : Bool) (a : Int) (l : List Int) (_ : -9223372036854775808 ≤ n) (_ : n ≤ 9223372036854775807) (h0a : -9223372036854775808 ≤ a) (h1a : a ≤ 9223372036854775807) (_ : l.length * 8 ≤ 140737488351232) (_ : ∀ x ∈ l, (Lit.int .i64 x).wf = true) : ∃ k, laws_FnExactTourTime.f k n g a l = some true := by
  refine Ev.rounds (r := true) ?_
  unfold laws_FnExactTourTime.f
  by_cases hl0 : (l.length : Int) > 1048576
  · exact ev_pos hl0 (ev_some rfl)
  refine ev_neg hl0 ?_
  obtain ⟨r, hs, hi⟩ := both n g a l (by omega) h0a h1a
  simp only [laws_toRoad.at, Option.bind_some]
  repeat' (first
    | with_reducible exact ev_some rfl
    | with_reducible refine Ev.bind hs ?_
    | with_reducible refine Ev.bind hi ?_
    | with_reducible refine Ev.bind (ev_const (laws_toRoad.at _ _)) ?_
    | ((with_reducible refine Ev.bind (laws_toIntS.ev _ ?h1_) ?_); (case h1_ => (first | omega | (simp only []; omega))))
    | ((with_reducible refine Ev.bind (laws_eqIntS.ev _ _ ?h1_) ?_); (case h1_ => (first | omega | (simp only []; omega))))
    | ((with_reducible refine ev_pos ?h1_ ?_); (case h1_ => (first | rfl | assumption | (simp; done))))
    | ((with_reducible refine ev_neg ?h1_ ?_); (case h1_ => (first | assumption | (simp; done) | (first | omega | (simp only []; omega)) | (simp; omega))))
    | (with_reducible refine Ev.step (g := fun k => laws_FnExactTourTime.j0 k _ _ _) (fun k => by rw [laws_FnExactTourTime.j0]) ?_)
    )

end Go.Proofs.Ytaomldgodfbokaa.Pure
