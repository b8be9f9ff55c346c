/- The plain side of the law FnExactChecksum: the printed law, whatever its input (within the form's bounds), comes to true. No other condition. -/
import Derived.Test.YtjjooadehkageaaPFnExactChecksumx1
import Derived.Test.YtjjooadehkageaaBase
namespace Go.Proofs.Ytjjooadehkageaa.Pure
open Go.RowKit Go.Proofs.Ytjjooadehkageaa.PFnExactChecksum Go.Proofs.YtjjooadehkageaaW.PrintWords Go.Proofs.YtjjooadehkageaaW.PrintLast Go.Proofs.YtjjooadehkageaaW.PrintMore Go.Proofs.Ytjjooadehkageaa.Base
set_option linter.unusedVariables false
set_option linter.unusedSimpArgs false

def next (s : ByteArray) (i : Nat) (h : Int) : Int := Int.tmod (wrap64 ((wrap64 ((wrap64 (41 * h)) + (wrap64 (bt s i)))) + 1)) 999979
theorem both (s : ByteArray) (hs : s.size ≤ 4000) : ∀ (d i : Nat) (h : Int), i + d = s.size →
    ∃ r, Ev (fun k => spec_l1Sum.l0 k s h i) r ∧ Ev (fun k => impl_checksum.l0 k s h s.size i) r := by
  intro d
  induction d with
  | zero =>
    intro i h e
    refine ⟨h, ?_, ?_⟩
    · refine Ev.step (fun k => by rw [spec_l1Sum.l0]) ?_
      refine ev_neg (by omega) ?_
      exact ev_some rfl
    · refine Ev.step (fun k => by rw [impl_checksum.l0]) ?_
      refine ev_neg (by omega) ?_
      exact ev_some rfl
  | succ d ih =>
    intro i h e
    obtain ⟨r, h1, h2⟩ := ih (i + 1) (next s i h) (by omega)
    refine ⟨r, ?_, ?_⟩
    · refine Ev.step (fun k => by rw [spec_l1Sum.l0]) ?_
      refine ev_pos (by omega) ?_
      refine ev_pos (by omega) ?_
      rw [w64 (x := (i : Int) + 1) (by omega) (by omega)]
      exact h1
    · refine Ev.step (fun k => by rw [impl_checksum.l0]) ?_
      refine ev_pos (by omega) ?_
      refine ev_pos (by omega) ?_
      refine ev_pos (by omega) ?_
      rw [w64 (x := (i : Int) + 1) (by omega) (by omega)]
      exact h2

theorem FnExactChecksum : laws_FnExactChecksum.Pure := by
  intro s hs
  refine Ev.rounds (r := true) ?_
  unfold laws_FnExactChecksum.f spec_Checksum.f impl_Checksum.f spec_l1Sum.f impl_checksum.f
  by_cases h : (s.size : Int) > 1048576
  · exact ev_pos h (ev_some rfl)
  refine ev_neg h ?_
  by_cases h4 : (s.size : Int) > 4000
  · refine Ev.bind (ev_pos h4 (ev_some rfl)) ?_
    refine Ev.bind (ev_pos h4 (ev_some rfl)) ?_
    exact ev_some rfl
  · obtain ⟨r, h1, h2⟩ := both s (by omega) s.size 0 7 (by omega)
    refine Ev.bind (ev_neg h4 (Ev.bind h1 (ev_some rfl))) ?_
    refine Ev.bind (ev_neg h4 (Ev.bind h2 (ev_some rfl))) ?_
    refine ev_pos rfl ?_
    refine ev_neg (by simp) ?_
    exact ev_some rfl

end Go.Proofs.Ytjjooadehkageaa.Pure
