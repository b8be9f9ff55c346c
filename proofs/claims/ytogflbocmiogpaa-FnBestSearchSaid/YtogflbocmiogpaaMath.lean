/- The plain words of this session: what the program's functions compute, over whole numbers and lists. -/
import Derived.Test.YtogflbocmiogpaaBase
namespace Go.Proofs.Ytogflbocmiogpaa.M

def okRoad (n : Int) (g : Bool) : Bool := decide (2 ≤ n ∧ n ≤ 24 ∧ (g = true → 3 ≤ n))
theorem okRoad_b {n : Int} {g : Bool} (h : okRoad n g = true) : 2 ≤ n ∧ n ≤ 24 ∧ (g = true → 3 ≤ n) := of_decide_eq_true h
def gap (n : Int) (g : Bool) (a b : Int) : Int := if g = true then min (max (a - b) (b - a)) (n - max (a - b) (b - a)) else max (a - b) (b - a)
theorem in_of_all {n : Int} {l : List Int} (h : (l.all fun x => decide (0 ≤ x ∧ x ≤ n - 1)) = true) {i : Nat} (hi : i < l.length) : 0 ≤ l[i] ∧ l[i] ≤ n - 1 := by
  rw [List.all_eq_true] at h
  exact of_decide_eq_true (h _ (List.getElem_mem hi))

def okStart (n : Int) (g : Bool) (a : Int) : Bool := okRoad n g && !g && decide (0 ≤ a ∧ a ≤ n - 1)
theorem okStart_b {n : Int} {g : Bool} {a : Int} (h : okStart n g a = true) : okRoad n g = true ∧ g = false ∧ 2 ≤ n ∧ n ≤ 24 ∧ 0 ≤ a ∧ a ≤ n - 1 := by
  simp only [okStart, Bool.and_eq_true, Bool.not_eq_true', decide_eq_true_eq] at h
  have := okRoad_b h.1.1
  exact ⟨h.1.1, h.1.2, this.1, this.2.1, h.2.1, h.2.2⟩
/-- The rest of a search, behind a turn to this side (right: true), with this range visited. -/
def srch (n a : Int) : Option Bool → Int → Int → List Int → Bool
  | _, low, high, [] => decide (low = 0) && decide (high = n - 1)
  | pr, low, high, p :: t =>
    if 0 ≤ p ∧ p ≤ n - 1 ∧ p ≠ a ∧ pr ≠ some (decide (p > a)) ∧ (p > a → p > high) ∧ (¬ p > a → p < low) then
      srch n a (some (decide (p > a))) (if p > a then low else p) (if p > a then p else high) t
    else false
def Ey (n : Int) (g : Bool) (a : Int) (l : List Int) : Bool := okStart n g a && srch n a none a a l
theorem srch_all {n a : Int} : ∀ {l : List Int} {pr : Option Bool} {low high : Int}, srch n a pr low high l = true → (l.all fun x => decide (0 ≤ x ∧ x ≤ n - 1)) = true
  | [], _, _, _, _ => rfl
  | p :: t, pr, low, high, h => by
    unfold srch at h
    by_cases c : 0 ≤ p ∧ p ≤ n - 1 ∧ p ≠ a ∧ pr ≠ some (decide (p > a)) ∧ (p > a → p > high) ∧ (¬ p > a → p < low)
    · rw [if_pos c] at h
      rw [List.all_cons, decide_eq_true ⟨c.1, c.2.1⟩, Bool.true_and]
      exact srch_all h
    · rw [if_neg c] at h
      cases h

end Go.Proofs.Ytogflbocmiogpaa.M
