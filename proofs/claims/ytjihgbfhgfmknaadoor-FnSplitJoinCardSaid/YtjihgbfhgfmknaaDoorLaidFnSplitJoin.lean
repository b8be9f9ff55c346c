/- What the variables hold that the row of FnSplitJoin lists (and the library's own integer that its world's shape gives), and that it stays. No condition. -/
import Derived.Test.YtjihgbfhgfmknaaDoorShelf
import Derived.Below
import Derived.RowKit
import Derived.Lib.SmallJoins
import Derived.Lib.AppendIntMem
import Derived.Lib.AtoiBound
import Derived.Lib.ConvBytes
namespace Go.Proofs.YtjihgbfhgfmknaaDoor.LaidFnSplitJoin
open Go.Proofs Go.RowKit
def LaidW (w : World) : Prop := True ∧ (∃ m, w.cell? ⟨0, 0, none⟩ = some (.int .i64 m)) ∧ True
theorem var_below {P : Program} {W W' : World} {n : String} {cs : Array Value} (h : W.var? P n = some cs) (hb : Below W.heap.size W W') : W'.var? P n = some cs := by
  cases hg : P.globalNamed n with
  | none => simp [World.var?, hg] at h
  | some g => exact Go.Joins.var_stays hg h hb (Nat.le_refl _)
theorem below {w w' : World} (h : LaidW w) (hb : Below w.heap.size w w') : LaidW w' := by
  obtain ⟨h1, h2, h3⟩ := h
  refine ⟨?_, ?_, ?_⟩
  · trivial
  · obtain ⟨m, hm⟩ := h2
    refine ⟨m, ?_⟩
    have hlt : 0 < w.heap.size := by
      rcases Nat.lt_or_ge 0 w.heap.size with h | h
      · exact h
      · simp [World.cell?, Array.getElem?_eq_none h] at hm
    exact (hb.cell (p := ⟨0, 0, none⟩) hlt).trans hm
  · trivial
end Go.Proofs.YtjihgbfhgfmknaaDoor.LaidFnSplitJoin
