/- The plain words of this session: what the program's functions compute, over whole numbers and lists. -/
import Derived.Test.YtogflbocmiogpaaBase
namespace Go.Proofs.Ytogflbocmiogpaa.M

def okRoad (n : Int) (g : Bool) : Bool := decide (2 ≤ n ∧ n ≤ 24 ∧ (g = true → 3 ≤ n))
theorem okRoad_b {n : Int} {g : Bool} (h : okRoad n g = true) : 2 ≤ n ∧ n ≤ 24 ∧ (g = true → 3 ≤ n) := of_decide_eq_true h
def gap (n : Int) (g : Bool) (a b : Int) : Int := if g = true then min (max (a - b) (b - a)) (n - max (a - b) (b - a)) else max (a - b) (b - a)
/-- Each step of a list goes at most to a neighbor. -/
def steps (n : Int) (g : Bool) : List Int → Bool
  | a :: b :: t => decide (gap n g a b ≤ 1) && steps n g (b :: t)
  | _ => true
def okWalk (n : Int) (g : Bool) (w : List Int) : Bool := okRoad n g && decide (1 ≤ (w.length : Int) ∧ (w.length : Int) ≤ 61) && (w.all fun x => decide (0 ≤ x ∧ x ≤ n - 1)) && steps n g w
theorem okWalk_b {n : Int} {g : Bool} {w : List Int} (h : okWalk n g w = true) : okRoad n g = true ∧ 1 ≤ w.length ∧ w.length ≤ 61 ∧ (∀ x ∈ w, 0 ≤ x ∧ x ≤ n - 1) ∧ steps n g w = true := by
  simp only [okWalk, Bool.and_eq_true, decide_eq_true_eq, List.all_eq_true] at h
  exact ⟨h.1.1.1, by omega, by omega, h.1.2, h.2⟩
theorem in_of_all {n : Int} {l : List Int} (h : (l.all fun x => decide (0 ≤ x ∧ x ≤ n - 1)) = true) {i : Nat} (hi : i < l.length) : 0 ≤ l[i] ∧ l[i] ≤ n - 1 := by
  rw [List.all_eq_true] at h
  exact of_decide_eq_true (h _ (List.getElem_mem hi))

def okStart (n : Int) (g : Bool) (a : Int) : Bool := okRoad n g && !g && decide (0 ≤ a ∧ a ≤ n - 1)
theorem okStart_b {n : Int} {g : Bool} {a : Int} (h : okStart n g a = true) : okRoad n g = true ∧ g = false ∧ 2 ≤ n ∧ n ≤ 24 ∧ 0 ≤ a ∧ a ≤ n - 1 := by
  simp only [okStart, Bool.and_eq_true, Bool.not_eq_true', decide_eq_true_eq] at h
  have := okRoad_b h.1.1
  exact ⟨h.1.1, h.1.2, this.1, this.2.1, h.2.1, h.2.2⟩
/-- The rest of a search, behind a turn to this side (right: true), with this range visited. -/
def srch (n a : Int) : Option Bool → Int → Int → List Int → Bool
  | _, low, high, [] => decide (low = 0) && decide (high = n - 1)
  | pr, low, high, p :: t =>
    if 0 ≤ p ∧ p ≤ n - 1 ∧ p ≠ a ∧ pr ≠ some (decide (p > a)) ∧ (p > a → p > high) ∧ (¬ p > a → p < low) then
      srch n a (some (decide (p > a))) (if p > a then low else p) (if p > a then p else high) t
    else false
def okSearch (n : Int) (g : Bool) (a : Int) (l : List Int) : Bool := okStart n g a && srch n a none a a l
theorem srch_all {n a : Int} : ∀ {l : List Int} {pr : Option Bool} {low high : Int}, srch n a pr low high l = true → (l.all fun x => decide (0 ≤ x ∧ x ≤ n - 1)) = true
  | [], _, _, _, _ => rfl
  | p :: t, pr, low, high, h => by
    unfold srch at h
    by_cases c : 0 ≤ p ∧ p ≤ n - 1 ∧ p ≠ a ∧ pr ≠ some (decide (p > a)) ∧ (p > a → p > high) ∧ (¬ p > a → p < low)
    · rw [if_pos c] at h
      rw [List.all_cons, decide_eq_true ⟨c.1, c.2.1⟩, Bool.true_and]
      exact srch_all h
    · rw [if_neg c] at h
      cases h

/-- Where a number first stands, counted from i on; -1 if it does not. -/
def fst (p : Int) : List Int → Int → Int
  | [], _ => -1
  | x :: t, i => if x = p then i else fst p t (i + 1)
theorem fst_cases (p : Int) : ∀ (l : List Int) (i : Int), fst p l i = -1 ∨ (i ≤ fst p l i ∧ fst p l i < i + l.length)
  | [], _ => .inl rfl
  | x :: t, i => by
    unfold fst
    by_cases h : x = p
    · rw [if_pos h]
      exact .inr ⟨Int.le_refl _, by simp; omega⟩
    · rw [if_neg h]
      rcases fst_cases p t (i + 1) with e | ⟨e1, e2⟩
      · exact .inl e
      · exact .inr ⟨by omega, by simp; omega⟩
theorem fst_none {p : Int} : ∀ {l : List Int} {i : Int}, 0 ≤ i → (fst p l i = -1 ↔ p ∉ l)
  | [], _, _ => by simp [fst]
  | x :: t, i, hi => by
    unfold fst
    by_cases h : x = p
    · rw [if_pos h]
      exact ⟨fun e => by omega, fun e => absurd (by simp [h]) e⟩
    · rw [if_neg h, fst_none (by omega : 0 ≤ i + 1)]
      simp [show ¬ p = x from fun e => h e.symm]
def visits (n : Int) (w : List Int) : List Int := (List.range' 0 n.toNat).map fun (p : Nat) => fst (p : Int) w 0
theorem visits_length (n : Int) (w : List Int) : (visits n w).length = n.toNat := by simp [visits]

end Go.Proofs.Ytogflbocmiogpaa.M
