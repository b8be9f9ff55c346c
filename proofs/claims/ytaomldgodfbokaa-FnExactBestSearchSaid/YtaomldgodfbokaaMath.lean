/- The plain words of this session: what the program's functions compute, over whole numbers and lists. -/
import Derived.Test.YtaomldgodfbokaaBase
namespace Go.Proofs.Ytaomldgodfbokaa.M

def okRoad (n : Int) (g : Bool) : Bool := decide (2 ≤ n ∧ n ≤ 24 ∧ (g = true → 3 ≤ n))
theorem okRoad_b {n : Int} {g : Bool} (h : okRoad n g = true) : 2 ≤ n ∧ n ≤ 24 ∧ (g = true → 3 ≤ n) := of_decide_eq_true h
def gap (n : Int) (g : Bool) (a b : Int) : Int := if g = true then min (max (a - b) (b - a)) (n - max (a - b) (b - a)) else max (a - b) (b - a)

def okStart (n : Int) (g : Bool) (a : Int) : Bool := okRoad n g && !g && decide (0 ≤ a ∧ a ≤ n - 1)
theorem okStart_b {n : Int} {g : Bool} {a : Int} (h : okStart n g a = true) : okRoad n g = true ∧ g = false ∧ 2 ≤ n ∧ n ≤ 24 ∧ 0 ≤ a ∧ a ≤ n - 1 := by
  simp only [okStart, Bool.and_eq_true, Bool.not_eq_true', decide_eq_true_eq] at h
  have := okRoad_b h.1.1
  exact ⟨h.1.1, h.1.2, this.1, this.2.1, h.2.1, h.2.2⟩
/-- The rest of a search, behind a turn to this side (right: true), with this range visited. -/
def srch (n a : Int) : Option Bool → Int → Int → List Int → Bool
  | _, low, high, [] => decide (low = 0) && decide (high = n - 1)
  | pr, low, high, p :: t =>
    if 0 ≤ p ∧ p ≤ n - 1 ∧ p ≠ a ∧ pr ≠ some (decide (p > a)) ∧ (p > a → p > high) ∧ (¬ p > a → p < low) then
      srch n a (some (decide (p > a))) (if p > a then low else p) (if p > a then p else high) t
    else false
def okSearch (n : Int) (g : Bool) (a : Int) (l : List Int) : Bool := okStart n g a && srch n a none a a l

end Go.Proofs.Ytaomldgodfbokaa.M
