/- The plain words of this session: what the program's functions compute, over whole numbers and lists. -/
import Derived.Test.YtjjooadehkageaaBase
namespace Go.Proofs.Ytjjooadehkageaa.M

def okRoad (n : Int) (g : Bool) : Bool := decide (2 ≤ n ∧ n ≤ 24 ∧ (g = true → 3 ≤ n))
theorem okRoad_b {n : Int} {g : Bool} (h : okRoad n g = true) : 2 ≤ n ∧ n ≤ 24 ∧ (g = true → 3 ≤ n) := of_decide_eq_true h
def gap (n : Int) (g : Bool) (a b : Int) : Int := if g = true then min (max (a - b) (b - a)) (n - max (a - b) (b - a)) else max (a - b) (b - a)
/-- Each step of a list goes at most to a neighbor. -/
def steps (n : Int) (g : Bool) : List Int → Bool
  | a :: b :: t => decide (gap n g a b ≤ 1) && steps n g (b :: t)
  | _ => true
def okWalk (n : Int) (g : Bool) (w : List Int) : Bool := okRoad n g && decide (1 ≤ (w.length : Int) ∧ (w.length : Int) ≤ 61) && (w.all fun x => decide (0 ≤ x ∧ x ≤ n - 1)) && steps n g w
theorem okWalk_b {n : Int} {g : Bool} {w : List Int} (h : okWalk n g w = true) : okRoad n g = true ∧ 1 ≤ w.length ∧ w.length ≤ 61 ∧ (∀ x ∈ w, 0 ≤ x ∧ x ≤ n - 1) ∧ steps n g w = true := by
  simp only [okWalk, Bool.and_eq_true, decide_eq_true_eq, List.all_eq_true] at h
  exact ⟨h.1.1.1, by omega, by omega, h.1.2, h.2⟩
theorem in_of_all {n : Int} {l : List Int} (h : (l.all fun x => decide (0 ≤ x ∧ x ≤ n - 1)) = true) {i : Nat} (hi : i < l.length) : 0 ≤ l[i] ∧ l[i] ≤ n - 1 := by
  rw [List.all_eq_true] at h
  exact of_decide_eq_true (h _ (List.getElem_mem hi))

end Go.Proofs.Ytjjooadehkageaa.M
