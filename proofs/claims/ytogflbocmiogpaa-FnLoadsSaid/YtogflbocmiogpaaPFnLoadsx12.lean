-- Written for this claim by this session's turned copy of the printer.
import Derived.Test.YtogflbocmiogpaaPFnLoadsx0
import Derived.Test.YtogflbocmiogpaaPFnLoadsx1
import Derived.Test.YtogflbocmiogpaaPFnLoadsx2
import Derived.Test.YtogflbocmiogpaaPFnLoadsx8
import Derived.Test.YtogflbocmiogpaaPFnLoadsx11
namespace Go.Proofs.Ytogflbocmiogpaa.PFnLoads
open Go.RowKit Go.Proofs.YtogflbocmiogpaaW.PrintWords Go.Proofs.YtogflbocmiogpaaW.PrintLast Go.Proofs.YtogflbocmiogpaaW.PrintMore
attribute [local go_sem] max2_int min2_int max_two min_two max_three min_three max_four min_four   -- for this text's walks alone
set_option linter.unusedVariables false
set_option linter.unusedSimpArgs false

/-! ### spec_LeastLoad: function 28 -/
/-- What the table says at low, high and a side. -/
def spec_LeastLoad.F (n : Int) (l : List Int) (i j s : Nat) : Int := impl_LeastLoad.L n l i j (if s = 0 then (i : Int) else (j : Int))
def spec_LeastLoad.enc (n : Int) (g : Nat) : Value := .slice (some ⟨g, 0, none⟩) n.toNat n.toNat
theorem spec_LeastLoad.one (n : Int) (g : Nat) : (spec_LeastLoad.enc n g).oneCell' = true := rfl
abbrev spec_LeastLoad.kd (n : Int) : Kd Nat := Kd.scalar (spec_LeastLoad.enc n) (spec_LeastLoad.one n)
/-- A row of the table: cells of which those that are done hold what they should. -/
def spec_LeastLoad.Row (n : Int) (l : List Int) (W : World) (i g : Nat) (done : Nat → Nat → Prop) : Prop :=
 ∃ cs : Array Value, W.heap[g]? = some (.cells cs 56 (0, 0)) ∧ cs.size = n.toNat * 2 ∧ (∀ q, q < n.toNat * 2 → ∃ x, cs[q]? = some (.int .i64 x)) ∧ ∀ j s, j < n.toNat → s < 2 → done j s → cs[j * 2 + s]? = some (.int .i64 (spec_LeastLoad.F n l i j s))
structure spec_LeastLoad.T (n : Int) (l : List Int) (w0 W : World) (v : Value) (xs : List Nat) (done : Nat → Nat → Nat → Prop) : Prop where
 out : Kd.R (spec_LeastLoad.kd n) 91 W w0.heap.size (fun _ => True) v xs
 rows : ∀ i g, xs[i]? = some g → w0.heap.size ≤ g ∧ spec_LeastLoad.Row n l W i g (done i)
 apart : xs.Nodup
 below : Below w0.heap.size w0 W
theorem spec_LeastLoad.Row.mono {n : Int} {l : List Int} {W W' : World} {i g : Nat} {done done' : Nat → Nat → Prop} (h : spec_LeastLoad.Row n l W i g done) (hW : W'.heap[g]? = W.heap[g]?) (hd : ∀ j s, j < n.toNat → s < 2 → done' j s → done j s) : spec_LeastLoad.Row n l W' i g done' := by
 obtain ⟨cs, h1, h2, h3, h4⟩ := h
 exact ⟨cs, hW.trans h1, h2, h3, fun j s hj hs h => h4 j s hj hs (hd j s hj hs h)⟩
theorem spec_LeastLoad.Row.lt {n : Int} {l : List Int} {W : World} {i g : Nat} {done : Nat → Nat → Prop} (h : spec_LeastLoad.Row n l W i g done) : g < W.heap.size := by
 obtain ⟨cs, h1, -⟩ := h
 exact blk_lt h1
theorem spec_LeastLoad.T.mono {n : Int} {l : List Int} {w0 W : World} {v : Value} {xs : List Nat} {done done' : Nat → Nat → Nat → Prop} (h : spec_LeastLoad.T n l w0 W v xs done) (hd : ∀ i j s, i < xs.length → j < n.toNat → s < 2 → done' i j s → done i j s) : spec_LeastLoad.T n l w0 W v xs done' :=
 ⟨h.out, fun i g hi => ⟨(h.rows i g hi).1, (h.rows i g hi).2.mono rfl (fun j s hj hs => hd i j s ((List.getElem?_eq_some_iff.1 hi).1) hj hs)⟩, h.apart, h.below⟩
/-- Blocks that were there are as they were. -/
theorem spec_LeastLoad.T.later {n : Int} {l : List Int} {w0 W W' : World} {v : Value} {xs : List Nat} {done : Nat → Nat → Nat → Prop} (h : spec_LeastLoad.T n l w0 W v xs done) (hb : Below W.heap.size W W') : spec_LeastLoad.T n l w0 W' v xs done :=
 ⟨Kd.R_below h.out hb, fun i g hi => ⟨(h.rows i g hi).1, (h.rows i g hi).2.mono (hb.block g (h.rows i g hi).2.lt) (fun _ _ _ _ => id)⟩, h.apart, below_step h.below hb⟩
/-- A row more. -/
theorem spec_LeastLoad.T.more {n : Int} {l : List Int} {w0 W W2 : World} {v v' : Value} {xs : List Nat} {zs : Array Value} (h : spec_LeastLoad.T n l w0 W v xs (fun _ _ _ => False)) (hz : zs.size = n.toNat * 2 ∧ ∀ q, q < n.toNat * 2 → ∃ x, zs[q]? = some (.int .i64 x))
  (hR : Kd.R (spec_LeastLoad.kd n) 91 W2 w0.heap.size (fun _ => True) v' (xs ++ [W.heap.size])) (hb : Below w0.heap.size w0 W2) (hg : (W.alloc (.cells zs 56)).grownBy W2 v.ownBlock) : spec_LeastLoad.T n l w0 W2 v' (xs ++ [W.heap.size]) (fun _ _ _ => False) := by
 obtain ⟨inner, ho⟩ := Kd.R_own h.out
 have hne : ∀ g cs, (W.alloc (.cells zs 56)).heap[g]? = some (.cells cs 56 (0, 0)) → some g ≠ v.ownBlock := fun g cs hg' e => by
  obtain ⟨cells, hc⟩ := own_typed ho g e.symm
  have hc' := blk_alloc hc (.cells zs 56)
  rw [hg'] at hc'
  simp at hc'
 refine ⟨hR, fun i g hi => ?_, ?_, hb⟩
 ·by_cases c : i < xs.length
  ·rw [List.getElem?_append_left c] at hi
   have hr := h.rows i g hi
   refine ⟨hr.1, ?_⟩
   obtain ⟨cs, h1, h2, h3, h4⟩ := hr.2
   exact ⟨cs, blk_grown (blk_alloc h1 _) hg (hne g cs (blk_alloc h1 _)), h2, h3, fun _ _ _ _ hf => hf.elim⟩
  rw [List.getElem?_append_right (by omega)] at hi
  have hi0 : i - xs.length = 0 := by
   by_cases c0 : i - xs.length = 0
   ·exact c0
   rw [List.getElem?_eq_none (by simp; omega)] at hi
   cases hi
  rw [hi0] at hi
  cases hi
  exact ⟨below_size h.below, zs, blk_grown (blk_new W _) hg (hne _ zs (blk_new W _)), hz.1, hz.2, fun _ _ _ _ hf => hf.elim⟩
 ·refine List.nodup_append.2 ⟨h.apart, by simp, fun x hx y hy => ?_⟩
  obtain ⟨i, hi, rfl⟩ := List.getElem_of_mem hx
  have := (h.rows i _ (List.getElem?_eq_getElem hi)).2.lt
  have e := List.mem_singleton.1 hy
  omega
/-- A cell is written. -/
theorem spec_LeastLoad.T.put {n : Int} {l : List Int} {w0 W : World} {v : Value} {xs : List Nat} {done done' : Nat → Nat → Nat → Prop} (h : spec_LeastLoad.T n l w0 W v xs done) {i j s g : Nat} (hi : xs[i]? = some g) (hj : j < n.toNat) (hs : s < 2) (hd : ∀ i' j' s', i' < xs.length → j' < n.toNat → s' < 2 → done' i' j' s' → done i' j' s' ∨ (i' = i ∧ j' = j ∧ s' = s)) :
  spec_LeastLoad.T n l w0 (W.setCell ⟨g, j * 2 + s, none⟩ (.int .i64 (spec_LeastLoad.F n l i j s))) v xs done' := by
 obtain ⟨hb, cs, h1, h2, h3, h4⟩ := h.rows i g hi
 have ho := Kd.own_of_R h.out
 have hne : ∀ k, v.ownBlock = some k → k ≠ g := fun k hk e => by
  obtain ⟨cells, hc⟩ := own_typed ho k hk
  subst e
  rw [h1] at hc
  simp at hc
 have hset := blk_set h1 (j * 2 + s) (.int .i64 (spec_LeastLoad.F n l i j s))
 refine ⟨Kd.R_of_own (own_move ho fun k hk => Below.heap_setCell _ _ _ _ (hne k hk)) h.out.1, fun i' g' hi' => ?_, h.apart, below_set h.below hb⟩
 by_cases c : i' = i
 rotate_left
 ·have hr := h.rows i' g' hi'
  have hgne : g' ≠ g := fun e => by
   subst e
   obtain ⟨hl1, e1⟩ := List.getElem?_eq_some_iff.1 hi
   obtain ⟨hl2, e2⟩ := List.getElem?_eq_some_iff.1 hi'
   have hp := List.pairwise_iff_getElem.1 h.apart
   rcases Nat.lt_or_gt_of_ne c with lt | gt
   rotate_left
   ·exact hp i i' hl1 hl2 gt (e1.trans e2.symm)
   exact hp i' i hl2 hl1 lt (e2.trans e1.symm)
  obtain ⟨cs', k1, k2, k3, k4⟩ := hr.2
  refine ⟨hr.1, cs', blk_far k1 hgne _, k2, k3, fun j' s' hj' hs' hdn => k4 j' s' hj' hs' ?_⟩
  rcases hd i' j' s' (List.getElem?_eq_some_iff.1 hi').1 hj' hs' hdn with h | ⟨e, _⟩
  ·exact h
  exact absurd e c
 subst c
 rw [hi] at hi'
 cases hi'
 refine ⟨hb, _, hset, by simp [h2], fun q hq => ?_, fun j' s' hj' hs' hdn => ?_⟩
 ·by_cases e : j * 2 + s = q
  ·subst e
   exact ⟨_, Array.getElem?_setIfInBounds_self_of_lt (by omega)⟩
  obtain ⟨x, hx⟩ := h3 q hq
  exact ⟨x, (Array.getElem?_setIfInBounds_ne e).trans hx⟩
 ·by_cases e : j * 2 + s = j' * 2 + s'
  ·have e1 : j' = j := by omega
   have e2 : s' = s := by omega
   subst e1
   subst e2
   exact Array.getElem?_setIfInBounds_self_of_lt (by omega)
  refine (Array.getElem?_setIfInBounds_ne e).trans (h4 j' s' hj' hs' ?_)
  rcases hd i' j' s' (List.getElem?_eq_some_iff.1 hi).1 hj' hs' hdn with h | ⟨_, rfl, rfl⟩
  ·exact h
  exact absurd rfl e
theorem spec_l3Left.sum {l : List Int} {lo hi : Int} (hl : l.length ≤ 100) (hx : ∀ x, x ∈ l → 0 ≤ x ∧ x ≤ 99) : ∀ (d i : Nat) (s : Int), i + d = l.length → 0 ≤ s ∧ s ≤ 99 * (i : Int) → spec_l3Left.l0 (d + 1) l lo hi s i = some (impl_LeastLoad.left lo hi (l.drop i) i s) := by
 intro d
 induction d with
 | zero =>
  intro i s e hs
  rw [spec_l3Left.l0, if_neg (by omega), List.drop_eq_nil_of_le (by omega), impl_LeastLoad.left]
 | succ d ih =>
  intro i s e hs
  have hlt : i < l.length := by omega
  have hr : rd l (i : Int) = l[i] := by
   unfold rd
   rw [Int.toNat_natCast, List.getD_eq_getElem?_getD, List.getElem?_eq_getElem hlt]
   rfl
  have hb := hx l[i] (List.getElem_mem hlt)
  have w1 : wrap64 ((i : Int) + 1) = ((i + 1 : Nat) : Int) := by unfold wrap64; omega
  have w2 : wrap64 (s + l[i]) = s + l[i] := by unfold wrap64; omega
  rw [spec_l3Left.l0, if_pos (by omega), hr, w1, w2, List.drop_eq_getElem_cons hlt, impl_LeastLoad.left]
  rw [show (i : Int) + 1 = ((i + 1 : Nat) : Int) by omega]
  by_cases c1 : (i : Int) < lo
  ·rw [if_pos c1, if_pos (by omega), if_pos (Or.inl c1)]
   exact ih (i + 1) _ (by omega) (by omega)
  rw [if_neg c1]
  by_cases c2 : (i : Int) > hi
  rotate_left
  ·rw [if_neg c2, if_neg (fun h => h.elim c1 c2)]
   exact ih (i + 1) _ (by omega) (by omega)
  rw [if_pos c2, if_pos (by omega), if_pos (Or.inr c2)]
  exact ih (i + 1) _ (by omega) (by omega)
def spec_LeastLoad.zs (n : Int) : Array Value := madeCells #[.int .i64 0, .int .i64 0] (n.toNat * 2)
theorem spec_LeastLoad.zs_ok (n : Int) : (spec_LeastLoad.zs n).size = n.toNat * 2 ∧ ∀ q, q < n.toNat * 2 → ∃ x, (spec_LeastLoad.zs n)[q]? = some (.int .i64 x) := by
 have hs : (spec_LeastLoad.zs n).size = n.toNat * 2 := by simp [spec_LeastLoad.zs, madeCells]
 refine ⟨hs, fun q hq => ⟨0, ?_⟩⟩
 rw [Array.getElem?_eq_getElem (by omega)]
 unfold spec_LeastLoad.zs madeCells
 simp
 rcases Nat.mod_two_eq_zero_or_one q with e | e <;> simp [e]
theorem spec_LeastLoad.made (n : Int) (hn : 2 ≤ n ∧ n ≤ 24) (W : World) : (Instr.makeSlice 91 (.int .i64 n) (.int .i64 n)).run Try.prog W = .ok (.slice (some ⟨W.heap.size, 0, none⟩) n.toNat n.toNat) (W.alloc (.cells (spec_LeastLoad.zs n) 56)) := by
 have hinfo : (Try.prog.info? 56).map (fun i => (i.zero, i.size, i.bytes)) = some (some (.agg #[.int .i64 0, .int .i64 0]), 2, 16) := by kernel_rfl
 obtain ⟨i0, hi, hz0, hz1, hz2⟩ := info_parts hinfo
 have hr := run_make (P := Try.prog) W 91 56 i0 (.agg #[.int .i64 0, .int .i64 0]) Try.underlying91 hi hz0 .i64 .i64 n n (by omega) (by omega) (by rw [hz2]; omega) (by omega)
 rw [hz1] at hr
 exact hr
theorem spec_LeastLoad.info : (Try.prog.info? 91).map (fun i => (i.zero, i.size, i.bytes)) = some (some (.slice none 0 0), 1, 24) := by kernel_rfl
def spec_LeastLoad.f (k : Nat) (a0_0 : Int) (a0_1 : Bool) (a1 : Int) (l2 : List Int) : Option (Int × Bool) :=
 (spec_l3Line.f a0_0 a0_1 a1).bind fun t1 => if t1 = true then ((spec_l3Hefts.f k a0_0 a0_1 l2).bind fun t2 => if t2 = true then (if (2 ≤ a0_0 ∧ a0_0 ≤ 24) ∧ (0 ≤ a1 ∧ a1 ≤ a0_0 - 1) ∧ (l2.length : Int) = a0_0 ∧ ∀ x, x ∈ l2 → 0 ≤ x ∧ x ≤ 99 then some (impl_LeastLoad.L a0_0 l2 a1 a1 a1, true) else none) else some (0, false)) else some (0, false)
theorem spec_LeastLoad.outer {n : Nat} {l : List Int} {w0 W : World} {go cap : Nat} {xs : List Nat} {done : Nat → Nat → Nat → Prop} (h : spec_LeastLoad.T (n : Int) l w0 W (.slice (some ⟨go, 0, none⟩) xs.length cap) xs done) {i g : Nat} (hi : xs[i]? = some g) : W.cell? ⟨go, i, none⟩ = some (.slice (some ⟨g, 0, none⟩) n n) := by
 obtain ⟨hl, e⟩ := List.getElem?_eq_some_iff.1 hi
 have hc := (Kd.R_cell (0 : Nat) h.out (i : Int) (by omega) (by omega)).1
 rw [Int.toNat_natCast] at hc
 rw [hc]
 unfold rdOf spec_LeastLoad.enc
 rw [Int.toNat_natCast, Int.toNat_natCast, List.getD_eq_getElem?_getD, hi]
 rfl
theorem spec_LeastLoad.inner {n : Nat} {l : List Int} {w0 W : World} {v : Value} {xs : List Nat} {done : Nat → Nat → Nat → Prop} (h : spec_LeastLoad.T (n : Int) l w0 W v xs done) {i j s g : Nat} (hi : xs[i]? = some g) (hj : j < n) (hs : s < 2) (hd : done i j s) : W.cell? ⟨g, j * 2 + s, none⟩ = some (.int .i64 (spec_LeastLoad.F n l i j s)) := by
 obtain ⟨-, cs, h1, h2, h3, h4⟩ := h.rows i g hi
 exact (blk_cell h1 _).trans (h4 j s (by simpa using hj) hs hd)
theorem spec_LeastLoad.any {n : Nat} {l : List Int} {w0 W : World} {v : Value} {xs : List Nat} {done : Nat → Nat → Nat → Prop} (h : spec_LeastLoad.T (n : Int) l w0 W v xs done) {i j s g : Nat} (hi : xs[i]? = some g) (hj : j < n) (hs : s < 2) : (∃ x, W.cell? ⟨g, j * 2 + s, none⟩ = some (.int .i64 x)) ∧ W.frozen? ⟨g, j * 2 + s, none⟩ = false := by
 obtain ⟨-, cs, h1, h2, h3, h4⟩ := h.rows i g hi
 obtain ⟨x, hx⟩ := h3 (j * 2 + s) (by simp; omega)
 exact ⟨⟨x, (blk_cell h1 _).trans hx⟩, blk_frozen h1 _⟩
set_option maxHeartbeats 6400000 in
set_option maxRecDepth 100000 in
theorem spec_LeastLoad.calls (k : Nat) (a0_0 : Int) (a0_1 : Bool) (a1 : Int) (A2 : Option Addr) (c2 : Nat) (l2 : List Int) (r1 : Int) (r2 : Bool) (w : World) (hr2 : Kd.C (Kd.int .i64) w A2 l2.length l2) (hc2 : l2.length ≤ c2) (h : spec_LeastLoad.f k a0_0 a0_1 a1 l2 = some (r1, r2)) :
  Calls Try.prog 28 #[.agg #[.int .i64 a0_0, .bool a0_1], .int .i64 a1, .slice A2 l2.length c2] w fun e w' => e = .returned (.tuple #[.int .i64 r1, .bool r2]) ∧ Below w.heap.size w w' := by
 have hu := Try.underlying25
 have HR := Aside0.mk hr2
 have HC := Aside0.mk hc2
 unfold spec_LeastLoad.f at h
 obtain ⟨t1, A1, h⟩ := Option.bind_eq_some_iff.mp h
 have HA1 := Aside0.mk A1
 clear A1 hr2 hc2
 have hb1 : Below w.heap.size w (w.alloc (Obj.cells #[.int .i64 a0_0, .bool a0_1] 25)) := below_alloc (Below.refl w.heap.size w) _
 have HB1 := Aside0.mk hb1
 clear hb1
 have q0 := blk_new w (Obj.cells #[.int .i64 a0_0, .bool a0_1] 25)
 have Q0 := Aside0.mk q0
 clear q0
 cases t1 with
 | false =>
  rw [if_neg (by decide)] at h
  cases h
  go_enter Try.func28, Try.ntmps28
  go_wp2_with (go_at_call 84; refine (spec_l3Line.calls a0_0 a0_1 a1 false _ HA1.out).mono ?_; rintro e w2 ⟨rfl, hb⟩; have HB2 := Aside0.mk (below_step HB1.out hb); clear hb)
  go_ret2
  exact ⟨rfl, HB2.out⟩
 | true =>
  rw [if_pos rfl] at h
  obtain ⟨t2, A2', h⟩ := Option.bind_eq_some_iff.mp h
  have HA2 := Aside0.mk A2'
  clear A2'
  have H := Aside0.mk h
  clear h
  go_enter Try.func28, Try.ntmps28
  go_wp2_with fail
  refine (spec_l3Line.calls a0_0 a0_1 a1 true _ HA1.out).mono ?_
  rintro e w2 ⟨rfl, hb⟩
  have HB2 := Aside0.mk (below_step HB1.out hb)
  have HK0 := Aside0.mk (blk_below Q0.out hb)
  have e0 : w2.cell? ⟨w.heap.size, 0, none⟩ = some (.int .i64 a0_0) := (blk_cell HK0.out 0).trans rfl
  have e1 : w2.cell? ⟨w.heap.size, 1, none⟩ = some (.bool a0_1) := (blk_cell HK0.out 1).trans rfl
  clear hb Q0
  go_wp2_with fail
  refine (spec_l3Hefts.calls k a0_0 a0_1 A2 c2 l2 t2 _ (Kd.C_below HR.out HB2.out) HC.out HA2.out).mono ?_
  rintro e w3 ⟨rfl, hb⟩
  have HB3 := Aside0.mk (below_step HB2.out hb)
  have hk0 := blk_below HK0.out hb
  clear hb e0 e1
  have h := H.out
  clear H
  cases t2 with
  | false =>
   rw [if_neg (by decide)] at h
   cases h
   clear hk0
   go_wp2
   go_ret2
   exact ⟨rfl, HB3.out⟩
  | true =>
   rw [if_pos rfl] at h
   by_cases hn : (2 ≤ a0_0 ∧ a0_0 ≤ 24) ∧ (0 ≤ a1 ∧ a1 ≤ a0_0 - 1) ∧ (l2.length : Int) = a0_0 ∧ ∀ x, x ∈ l2 → 0 ≤ x ∧ x ≤ 99
   rotate_left
   ·rw [if_neg hn] at h
    cases h
   rw [if_pos hn] at h
   cases h
   have HN := Aside0.mk hn
   clear hn
   have H0 := Aside0.mk hk0
   clear hk0
   obtain ⟨m, rfl⟩ : ∃ m : Nat, a1 = (m : Int) := Int.eq_ofNat_of_zero_le HN.out.2.1.1
   obtain ⟨n, rfl⟩ : ∃ n : Nat, a0_0 = (n : Int) := Int.eq_ofNat_of_zero_le (by have := HN.out.1; omega)
   go_wp2_with ((refine gate_dst (N := 27) rfl ?_); refine Kd.R_lit (spec_LeastLoad.kd (n : Int)) w.heap.size 91 ?hg (N := 27) ?hd (xs := ([] : List Nat)) (inner := []) (ok := fun _ => True) (okp := fun _ => True) ?hr ?hp (fun _ hk => hk) trivial HB3.out (below_size HB3.out) (by simp) ?_; (case hd => rfl); (case hg => rfl); (case hr => (go_simp; done)); (case hp => exact (Reps.none _ _)); intro v1 w4 ho hb hg_ hnew_; have H4 := Aside0.mk (blk_grown H0.out hg_ (by simp)); have HT := Aside0.mk (show spec_LeastLoad.T (n : Int) l2 w w4 v1 [] (fun _ _ _ => False) from ⟨ho, fun i g hi => by simp at hi, List.nodup_nil, hb⟩); clear hg_ hnew_ hb ho)
   go_loopg [8, 9] (m + 1) (fun d v8 v9 w' => ∃ (i : Nat) (xs : List Nat), v9 = .int .i64 (i : Int) ∧ Aside0 (i + d = m + 1) ∧ Aside0 (xs.length = i) ∧ Aside0 (spec_LeastLoad.T (n : Int) l2 w w' v8 xs (fun _ _ _ => False)) ∧ Aside0 (w'.heap[w.heap.size]? = some (.cells #[.int .i64 (n : Int), .bool a0_1] 25 (0, 0))))
   case atStart => exact ⟨0, [], rfl, ⟨by omega⟩, ⟨rfl⟩, HT, H4⟩
   case round =>
    obtain ⟨i, xs, rfl, HD, HLX, HT, H4⟩ := hrel
    by_cases ci : i ≤ m
    ·have cI : (i : Int) ≤ (m : Int) := by omega
     have e0 : wr.cell? ⟨w.heap.size, 0, none⟩ = some (.int .i64 (n : Int)) := (blk_cell H4.out 0).trans rfl
     have hmk := spec_LeastLoad.made (n : Int) HN.out.1
     have HSZ := Aside0.mk (show (wr.alloc (.cells (spec_LeastLoad.zs (n : Int)) 56)).heap.size = wr.heap.size + 1 from Array.size_push ..)
     have hw1 : IntKind.i64.wrap ((i : Int) + 1) = ((i + 1 : Nat) : Int) := (i64_w _).trans (by have := HN.out.1; have := HN.out.2.1; unfold wrap64; omega)
     have HCI := Aside0.mk ci
     clear ci
     go_wp2_with ((refine gate_builtin (b := .append) (xs := #[.tmp 33, .tmp 37]) rfl ?_); at_builtin; refine Kd.R_append (spec_LeastLoad.kd (n : Int)) (w0 := w) w.heap.size rfl (.tmp 33) (.tmp 37) 90 91 (.slice none 0 0) 24 rfl Try.underlying90 spec_LeastLoad.info rfl (show 0 < 1 from Nat.one_pos) (by omega) u8 xs wr.heap.size [spec_LeastLoad.enc (n : Int) wr.heap.size] (fun _ => True) (fun _ => False) rfl (by rw [HSZ.out]; rfl) ?aP (fun _ hk => hk.elim) ?aF ?aO ?aB ?aS ?aL ?_; (case aP => exact rfl); (case aB => exact below_alloc HT.out.below _); (case aF => exact (fun _ _ => trivial)); (case aO => exact Kd.R_alloc HT.out.out _); (case aS => exact below_size (below_alloc HT.out.below _)); (case aL => have := HLX.out; have := HN.out; have := HCI.out; omega); intro v2 w2 ho hb hg hat; have H42 := Aside0.mk (show w2.heap[w.heap.size]? = some (.cells #[.int .i64 (n : Int), .bool a0_1] 25 (0, 0)) from blk_grown (blk_alloc H4.out _) hg (fun e => by obtain ⟨inner, ho'⟩ := Kd.R_own HT.out.out; obtain ⟨cells, hc⟩ := own_typed ho' _ e.symm; have h4 := H4.out; rw [hc] at h4; simp at h4)); have HT2 := Aside0.mk (HT.out.more (spec_LeastLoad.zs_ok (n : Int)) ho hb hg); clear ho hb hg hat)
     go_roundg (gk - 1)
     case measure => have := HD.out; have := HCI.out; omega
     case rel => exact ⟨i + 1, xs ++ [wr.heap.size], by (rfl), ⟨by have := HD.out; have := HCI.out; omega⟩, ⟨by rw [List.length_append, HLX.out]; rfl⟩, HT2, H42⟩
    have cI : ¬ (i : Int) ≤ (m : Int) := by omega
    have HCI := Aside0.mk ci
    have HLN := Aside0.mk (show xs.length = m + 1 by have := HLX.out; have := HD.out; omega)
    clear ci HLX HD
    clear cI
    obtain ⟨go, cap, rfl, hgo0, hgo1, -⟩ := Kd.R_form HT.out.out (by have := HLN.out; omega)
    have HGO := Aside0.mk hgo0
    have HT2 := Aside0.mk (HT.out.mono (done' := fun i' j s => i' < 0 ∧ m ≤ j) (fun i' j s _ _ _ h => absurd h.1 (by omega)))
    clear hgo0 hgo1 HT
    have cI : ¬ (i : Int) ≤ (m : Int) := by have := HCI.out; omega
    go_wp2_with fail
    go_loopg [10, 11, 12, 13, 14, 15, 16] (m + 1) (fun d v10 v11 v12 v13 v14 v15 v16 w' => ∃ (i : Nat), v10 = .int .i64 (i : Int) ∧ Aside0 (i + d = m + 1) ∧ Aside0 (spec_LeastLoad.T (n : Int) l2 w w' (.slice (some ⟨go, 0, none⟩) xs.length cap) xs (fun i' j s => i' < i ∧ m ≤ j)) ∧ Aside0 (w'.heap[w.heap.size]? = some (.cells #[.int .i64 (n : Int), .bool a0_1] 25 (0, 0))))
    case atStart => exact ⟨0, rfl, ⟨by omega⟩, HT2, H4⟩
    case round =>
     clear cI HT2 H4 HCI
     obtain ⟨i, rfl, HD, HT, H4⟩ := hrel
     by_cases ci : i ≤ m
     rotate_left
     ·have cI : ¬ (i : Int) ≤ (m : Int) := by omega
      obtain ⟨g, hg⟩ : ∃ g, xs[m]? = some g := ⟨_, List.getElem?_eq_getElem (by have := HLN.out; omega)⟩
      have eo := spec_LeastLoad.outer HT.out hg
      have hmn : m < n := by have := HN.out.2.1; omega
      have ei := spec_LeastLoad.inner HT.out hg hmn (show 0 < 2 by omega) ⟨by omega, Nat.le_refl m⟩
      rw [Nat.add_zero] at ei
      rw [show spec_LeastLoad.F (n : Int) l2 m m 0 = impl_LeastLoad.L (n : Int) l2 m m m from rfl] at ei
      have hml : (m : Int) < (xs.length : Int) := by have := HLN.out; omega
      have hmn' : (m : Int) < (n : Int) := by omega
      have HBL := Aside0.mk HT.out.below
      clear ci hg hmn
      go_wp2_with fail
      go_ret2
      exact ⟨rfl, HBL.out⟩
     have cI : (i : Int) ≤ (m : Int) := by omega
     have HI := Aside0.mk ci
     have e0 : wr.cell? ⟨w.heap.size, 0, none⟩ = some (.int .i64 (n : Int)) := (blk_cell H4.out 0).trans rfl
     have hw1 : IntKind.i64.wrap ((i : Int) + 1) = ((i + 1 : Nat) : Int) := (i64_w _).trans (by have := HN.out.1; have := HN.out.2.1; unfold wrap64; omega)
     have hw2 : IntKind.i64.wrap ((n : Int) - 1) = (n : Int) - 1 := (i64_w _).trans (by have := HN.out.1; unfold wrap64; omega)
     have HT2 := Aside0.mk (HT.out.mono (done' := fun i' j s => i' < i ∧ m ≤ j ∨ i' = i ∧ n ≤ j) (fun i' j s _ hj _ h => h.elim id (fun h => by simp at hj; omega)))
     clear ci HT
     go_wp2_with fail
     go_loopg [11, 12, 13, 14, 15, 16] (n - m) (fun d v11 v12 v13 v14 v15 v16 w' => ∃ (h : Nat), v11 = .int .i64 ((h : Int) - 1) ∧ Aside0 (h = m + d ∧ h ≤ n) ∧ Aside0 (spec_LeastLoad.T (n : Int) l2 w w' (.slice (some ⟨go, 0, none⟩) xs.length cap) xs (fun i' j s => i' < i ∧ m ≤ j ∨ i' = i ∧ h ≤ j)) ∧ Aside0 (w'.heap[w.heap.size]? = some (.cells #[.int .i64 (n : Int), .bool a0_1] 25 (0, 0))))
     case atStart => exact ⟨n, rfl, ⟨by have := HN.out.2.1; omega⟩, HT2, H4⟩
     case round =>
      clear HT2 H4 e0 hw2
      obtain ⟨h, rfl, HH, HT, H4⟩ := hrel
      by_cases ch : m + 1 ≤ h
      rotate_left
      ·have cH : ¬ (m : Int) ≤ (h : Int) - 1 := by omega
       have hh : m = h := by have := HH.out; omega
       subst hh
       go_wp2_with fail
       go_roundg (m - i)
       case measure => have := HD.out; have := HI.out; omega
       case rel => exact ⟨i + 1, by (rfl), ⟨by have := HD.out; have := HI.out; omega⟩, ⟨HT.out.mono (fun i' j s _ _ _ h => by by_cases e : i' = i; exact Or.inr ⟨e, h.2⟩; exact Or.inl ⟨by omega, h.2⟩)⟩, H4⟩
      obtain ⟨q, rfl⟩ : ∃ q, h = q + 1 := ⟨h - 1, by omega⟩
      rw [show ((q + 1 : Nat) : Int) - 1 = (q : Int) by omega] at *
      have cH : (m : Int) ≤ (q : Int) := by omega
      have HQ := Aside0.mk ch
      have hw2 : IntKind.i64.wrap ((q : Int) - 1) = (q : Int) - 1 := (i64_w _).trans (by have := HN.out.1; have := HH.out; unfold wrap64; omega)
      have HLF := Aside0.mk (show spec_l3Left.f (l2.length + 1) l2 (i : Int) (q : Int) = some (impl_LeastLoad.left i q l2 0 0) from spec_l3Left.sum (by have := HN.out; omega) HN.out.2.2.2 l2.length 0 0 (by omega) (by omega))
      clear ch
      go_wp2_with fail
      refine (spec_l3Left.calls (l2.length + 1) A2 c2 l2 i q _ _ (Kd.C_below HR.out HT.out.below) HC.out HLF.out).mono ?_
      rintro e w5 ⟨rfl, ⟨⟨z5, rfl⟩⟩⟩
      have hbz := pw_below_drewN (Below.refl wr.heap.size wr) z5
      have HT2 := Aside0.mk ((HT.out.later hbz).mono (done' := fun i' j s => i' < i ∧ m ≤ j ∨ i' = i ∧ q + 1 ≤ j ∨ i' = i ∧ j = q ∧ s < 0) (fun i' j s _ _ _ h => h.elim Or.inl (fun h => h.elim Or.inr (fun h => absurd h.2.2 (by omega)))))
      have H5 := Aside0.mk (blk_drewN H4.out z5)
      clear HT hbz
      go_wp2_with fail
      go_loopg [13, 14, 15, 16] 2 (fun d v13 v14 v15 v16 w' => ∃ (s : Nat), v13 = .int .i64 (s : Int) ∧ Aside0 (s + d = 2) ∧ Aside0 (spec_LeastLoad.T (n : Int) l2 w w' (.slice (some ⟨go, 0, none⟩) xs.length cap) xs (fun i' j s' => i' < i ∧ m ≤ j ∨ i' = i ∧ q + 1 ≤ j ∨ i' = i ∧ j = q ∧ s' < s)) ∧ Aside0 (w'.heap[w.heap.size]? = some (.cells #[.int .i64 (n : Int), .bool a0_1] 25 (0, 0))))
      case atStart => exact ⟨0, rfl, ⟨by omega⟩, HT2, H5⟩
      case round =>
       clear HT2 H5 H4
       obtain ⟨s, rfl, HS, HT, H4⟩ := hrel
       by_cases cs : s < 2
       rotate_left
       ·have hs2 : s = 2 := by have := HS.out; omega
        subst hs2
        go_wp2_with fail
        go_roundg (q - m)
        case measure => have := HH.out; have := HQ.out; omega
        case rel => exact ⟨q, by (rfl), ⟨by have := HH.out; have := HQ.out; omega⟩, ⟨HT.out.mono (fun i' j s _ _ hs h => h.elim Or.inl (fun h => Or.inr (by by_cases e : j = q; exact Or.inr ⟨h.1, e, hs⟩; exact Or.inl ⟨h.1, by omega⟩)))⟩, H4⟩
       have hw9 : IntKind.i64.wrap ((s : Int) + 1) = ((s + 1 : Nat) : Int) := (i64_w _).trans (by unfold wrap64; omega)
       by_cases cs0 : s = 0
       rotate_left
       ·obtain rfl : s = 1 := by omega
        by_cases c0 : i = 0
        ·subst c0
         have c3 : ¬ (0 : Int) < 0 := by omega
         by_cases c2 : (q : Int) < (n : Int) - 1
         rotate_left
         ·obtain ⟨g, hg⟩ : ∃ g, xs[0]? = some g := ⟨_, List.getElem?_eq_getElem (by have := HLN.out; have := HI.out; omega)⟩
          have eo := spec_LeastLoad.outer HT.out hg
          have hq : q < n := by have := HH.out; omega
          obtain ⟨⟨x0, ec⟩, fc⟩ := spec_LeastLoad.any HT.out hg hq (show 1 < 2 by omega)
          have hne : w.heap.size ≠ g := by
           rintro rfl
           obtain ⟨-, cs, h1, -⟩ := HT.out.rows 0 _ hg
           rw [H4.out] at h1
           simp at h1
          have HNE := Aside0.mk hne
          have HPUT := Aside0.mk (fun W' (hb : Below wr.heap.size wr W') => (HT.out.later hb).put (j := q) (s := 1) (done' := fun i' j s' => i' < 0 ∧ m ≤ j ∨ i' = 0 ∧ q + 1 ≤ j ∨ i' = 0 ∧ j = q ∧ s' < 1 + 1) hg (by simpa using hq) (by omega) (fun i' j' s' _ _ _ h => by by_cases e : i' = 0 ∧ j' = q ∧ s' = 1; exact Or.inr e; exact Or.inl (h.elim Or.inl (fun h => Or.inr (h.elim Or.inl (fun h => Or.inr ⟨h.1, h.2.1, by omega⟩))))))
          clear hne
          have hR : impl_LeastLoad.R (n : Int) (0 : Int) q (q : Int) := ⟨⟨by omega, by have := HQ.out; have := HI.out; omega, by omega⟩, by have := HQ.out; have := HI.out; omega, by omega⟩
          have hV := impl_LeastLoad.left_b (0 : Int) q l2 0 0 HN.out.2.2.2
          have hv : 0 ≤ impl_LeastLoad.left (0 : Int) q l2 0 0 ∧ impl_LeastLoad.left (0 : Int) q l2 0 0 ≤ 2376 := by have := HN.out.1; have := HN.out.2.2.1; omega
          have hF : spec_LeastLoad.F (n : Int) l2 0 q 1 = impl_LeastLoad.L (n : Int) l2 (0 : Int) q (q : Int) := rfl
          have hd : impl_LeastLoad.D (n : Int) (0 : Int) q = 0 := by unfold impl_LeastLoad.D; omega
          unfold impl_LeastLoad.L at hF
          rw [hd, impl_LeastLoad.least] at hF
          generalize impl_LeastLoad.left (0 : Int) q l2 0 0 = V at *
          have hwn : IntKind.i64.wrap ((n : Int) - 1) = (n : Int) - 1 := (i64_w _).trans (by have := HN.out.1; unfold wrap64; omega)
          have e0 : wr.cell? ⟨w.heap.size, 0, none⟩ = some (.int .i64 (n : Int)) := (blk_cell H4.out 0).trans rfl
          have cqn : ¬ (q : Int) < (n : Int) - 1 := by omega
          have HG := Aside0.mk hg
          have HQN := Aside0.mk hq
          have hqn' : (q : Int) < (n : Int) := by omega
          have hil0 : (0 : Int) < (xs.length : Int) := by have := HLN.out; have := HI.out; omega
          have HFF := Aside0.mk hF
          have HMX := Aside0.mk (show spec_l1Most.f 0 (-1) = some (spec_LeastLoad.F (n : Int) l2 0 q 1) by unfold spec_l1Most.f; split <;> (congr 1; omega))
          clear hF hV hv hR hd hg hq
          go_wp2_with fail
          go_region_with (go_at_call 86; refine (spec_l1Most.calls 0 (-1) _ _ HMX.out).mono ?_; rintro e w6 ⟨rfl, ⟨⟨z6, rfl⟩⟩⟩)
          all_goals
           go_wp2_with fail
           go_roundg (1 - 1)
           case measure => have := HS.out; omega
           case rel => exact ⟨2, by (rfl), ⟨by have := HS.out; omega⟩, ⟨HPUT.out _ (by repeat (first | exact Below.refl _ _ | apply pw_below_drewN))⟩, ⟨blk_far (by repeat (exact H4.out)) HNE.out _⟩⟩
         obtain ⟨g, hg⟩ : ∃ g, xs[0]? = some g := ⟨_, List.getElem?_eq_getElem (by have := HLN.out; have := HI.out; omega)⟩
         have eo := spec_LeastLoad.outer HT.out hg
         have hq : q < n := by have := HH.out; omega
         obtain ⟨⟨x0, ec⟩, fc⟩ := spec_LeastLoad.any HT.out hg hq (show 1 < 2 by omega)
         have ei2 := spec_LeastLoad.inner HT.out hg (show q + 1 < n by omega) (show 1 < 2 by omega) (Or.inr (Or.inl ⟨rfl, by omega⟩))
         have hne : w.heap.size ≠ g := by
          rintro rfl
          obtain ⟨-, cs, h1, -⟩ := HT.out.rows 0 _ hg
          rw [H4.out] at h1
          simp at h1
         have HNE := Aside0.mk hne
         have HPUT := Aside0.mk (fun W' (hb : Below wr.heap.size wr W') => (HT.out.later hb).put (j := q) (s := 1) (done' := fun i' j s' => i' < 0 ∧ m ≤ j ∨ i' = 0 ∧ q + 1 ≤ j ∨ i' = 0 ∧ j = q ∧ s' < 1 + 1) hg (by simpa using hq) (by omega) (fun i' j' s' _ _ _ h => by by_cases e : i' = 0 ∧ j' = q ∧ s' = 1; exact Or.inr e; exact Or.inl (h.elim Or.inl (fun h => Or.inr (h.elim Or.inl (fun h => Or.inr ⟨h.1, h.2.1, by omega⟩))))))
         clear hne
         have hR : impl_LeastLoad.R (n : Int) (0 : Int) q (q : Int) := ⟨⟨by omega, by have := HQ.out; have := HI.out; omega, by omega⟩, by have := HQ.out; have := HI.out; omega, by omega⟩
         have hV := impl_LeastLoad.left_b (0 : Int) q l2 0 0 HN.out.2.2.2
         have hv : 0 ≤ impl_LeastLoad.left (0 : Int) q l2 0 0 ∧ impl_LeastLoad.left (0 : Int) q l2 0 0 ≤ 2376 := by have := HN.out.1; have := HN.out.2.2.1; omega
         have hF : spec_LeastLoad.F (n : Int) l2 0 q 1 = impl_LeastLoad.L (n : Int) l2 (0 : Int) q (q : Int) := rfl
         obtain ⟨d, hd⟩ : ∃ d, impl_LeastLoad.D (n : Int) (0 : Int) q = d + 1 := ⟨impl_LeastLoad.D (n : Int) (0 : Int) q - 1, by unfold impl_LeastLoad.D; omega⟩
         have hb0 := impl_LeastLoad.least_b HN.out.1 HN.out.2.2.1 HN.out.2.2.2 (d + 1) (0 : Int) q (q : Int) hR hd
         unfold impl_LeastLoad.L at hF
         rw [hd] at hF
         rw [← hF] at hb0
         rw [impl_LeastLoad.least, if_pos (by omega), if_neg (by omega)] at hF
         have hd24 : (d : Int) ≤ 24 := by have := HN.out.1; unfold impl_LeastLoad.D at hd; omega
         have d2 : impl_LeastLoad.D (n : Int) (0 : Int) ((q : Int) + 1) = d := by unfold impl_LeastLoad.D at hd ⊢; omega
         have b2 := impl_LeastLoad.least_b HN.out.1 HN.out.2.2.1 HN.out.2.2.2 d (0 : Int) ((q : Int) + 1) ((q : Int) + 1) ⟨⟨by have := HQ.out; have := HI.out; omega, by have := HQ.out; have := HI.out; omega, by have := HQ.out; have := HI.out; omega⟩, by have := HQ.out; have := HI.out; omega, by have := HQ.out; have := HI.out; omega⟩ d2
         have f2 : spec_LeastLoad.F (n : Int) l2 0 (q + 1) 1 = impl_LeastLoad.least (n : Int) l2 d (0 : Int) ((q : Int) + 1) ((q : Int) + 1) := by
          unfold spec_LeastLoad.F impl_LeastLoad.L
          rw [if_neg (by decide), show ((q + 1 : Nat) : Int) = (q : Int) + 1 by omega, show ((0 : Nat) : Int) = 0 from rfl, d2]
         rw [f2] at ei2
         generalize impl_LeastLoad.least (n : Int) l2 d (0 : Int) ((q : Int) + 1) ((q : Int) + 1) = L2 at *
         have m2 := impl_LeastLoad.mul_b hv (show 0 ≤ (q : Int) + 1 - (q : Int) ∧ (q : Int) + 1 - (q : Int) ≤ 24 by have := HN.out.1; omega)
         generalize impl_LeastLoad.left (0 : Int) q l2 0 0 = V at *
         have v1 : IntKind.i64.wrap ((q : Int) + 1) = (q : Int) + 1 := (i64_w _).trans (by have := HN.out.1; unfold wrap64; omega)
         have v2 : IntKind.i64.wrap ((q : Int) + 1 - (q : Int)) = (q : Int) + 1 - (q : Int) := (i64_w _).trans (by have := HN.out.1; unfold wrap64; omega)
         generalize hq2 : (q : Int) + 1 - (q : Int) = q2 at *
         have v4 : IntKind.i64.wrap (V * q2) = V * q2 := (i64_w _).trans (by unfold wrap64; omega)
         generalize hp2 : V * q2 = p2 at *
         have v5 : IntKind.i64.wrap (p2 + L2) = p2 + L2 := (i64_w _).trans (by unfold wrap64; omega)
         have hwn : IntKind.i64.wrap ((n : Int) - 1) = (n : Int) - 1 := (i64_w _).trans (by have := HN.out.1; unfold wrap64; omega)
         have e0 : wr.cell? ⟨w.heap.size, 0, none⟩ = some (.int .i64 (n : Int)) := (blk_cell H4.out 0).trans rfl
         have cqn : (q : Int) < (n : Int) - 1 := by omega
         have HG := Aside0.mk hg
         have HQN := Aside0.mk hq
         have hqn' : (q : Int) < (n : Int) := by omega
         have hqn2 : (q : Int) + 1 < (n : Int) := by omega
         have hil0 : (0 : Int) < (xs.length : Int) := by have := HLN.out; have := HI.out; omega
         have HFF := Aside0.mk hF
         have HMX := Aside0.mk (show spec_l1Most.f 0 (p2 + L2) = some (spec_LeastLoad.F (n : Int) l2 0 q 1) by unfold spec_l1Most.f; split <;> (congr 1; omega))
         clear hF hV hv hR hd hg hq hb0 hd24 b2 m2 d2 f2
         go_wp2_with fail
         go_region_with (go_at_call 86; refine (spec_l1Most.calls 0 (p2 + L2) _ _ HMX.out).mono ?_; rintro e w6 ⟨rfl, ⟨⟨z6, rfl⟩⟩⟩)
         all_goals
          go_wp2_with fail
          go_roundg (1 - 1)
          case measure => have := HS.out; omega
          case rel => exact ⟨2, by (rfl), ⟨by have := HS.out; omega⟩, ⟨HPUT.out _ (by repeat (first | exact Below.refl _ _ | apply pw_below_drewN))⟩, ⟨blk_far (by repeat (exact H4.out)) HNE.out _⟩⟩
        have c3 : (0 : Int) < (i : Int) := by omega
        by_cases c2 : (q : Int) < (n : Int) - 1
        rotate_left
        ·obtain ⟨g, hg⟩ : ∃ g, xs[i]? = some g := ⟨_, List.getElem?_eq_getElem (by have := HLN.out; have := HI.out; omega)⟩
         have eo := spec_LeastLoad.outer HT.out hg
         have hq : q < n := by have := HH.out; omega
         obtain ⟨⟨x0, ec⟩, fc⟩ := spec_LeastLoad.any HT.out hg hq (show 1 < 2 by omega)
         obtain ⟨g1, hg1⟩ : ∃ g1, xs[i - 1]? = some g1 := ⟨_, List.getElem?_eq_getElem (by have := HLN.out; have := HI.out; omega)⟩
         have eo1 := spec_LeastLoad.outer HT.out hg1
         have ei1 := spec_LeastLoad.inner HT.out hg1 hq (show 0 < 2 by omega) (Or.inl ⟨by omega, by have := HQ.out; omega⟩)
         rw [Nat.add_zero] at ei1
         have hne : w.heap.size ≠ g := by
          rintro rfl
          obtain ⟨-, cs, h1, -⟩ := HT.out.rows i _ hg
          rw [H4.out] at h1
          simp at h1
         have HNE := Aside0.mk hne
         have HPUT := Aside0.mk (fun W' (hb : Below wr.heap.size wr W') => (HT.out.later hb).put (j := q) (s := 1) (done' := fun i' j s' => i' < i ∧ m ≤ j ∨ i' = i ∧ q + 1 ≤ j ∨ i' = i ∧ j = q ∧ s' < 1 + 1) hg (by simpa using hq) (by omega) (fun i' j' s' _ _ _ h => by by_cases e : i' = i ∧ j' = q ∧ s' = 1; exact Or.inr e; exact Or.inl (h.elim Or.inl (fun h => Or.inr (h.elim Or.inl (fun h => Or.inr ⟨h.1, h.2.1, by omega⟩))))))
         clear hne
         have hR : impl_LeastLoad.R (n : Int) (i : Int) q (q : Int) := ⟨⟨by omega, by have := HQ.out; have := HI.out; omega, by omega⟩, by have := HQ.out; have := HI.out; omega, by omega⟩
         have hV := impl_LeastLoad.left_b (i : Int) q l2 0 0 HN.out.2.2.2
         have hv : 0 ≤ impl_LeastLoad.left (i : Int) q l2 0 0 ∧ impl_LeastLoad.left (i : Int) q l2 0 0 ≤ 2376 := by have := HN.out.1; have := HN.out.2.2.1; omega
         have hF : spec_LeastLoad.F (n : Int) l2 i q 1 = impl_LeastLoad.L (n : Int) l2 (i : Int) q (q : Int) := rfl
         obtain ⟨d, hd⟩ : ∃ d, impl_LeastLoad.D (n : Int) (i : Int) q = d + 1 := ⟨impl_LeastLoad.D (n : Int) (i : Int) q - 1, by unfold impl_LeastLoad.D; omega⟩
         have hb0 := impl_LeastLoad.least_b HN.out.1 HN.out.2.2.1 HN.out.2.2.2 (d + 1) (i : Int) q (q : Int) hR hd
         unfold impl_LeastLoad.L at hF
         rw [hd] at hF
         rw [← hF] at hb0
         rw [impl_LeastLoad.least, if_neg (by omega)] at hF
         have hd24 : (d : Int) ≤ 24 := by have := HN.out.1; unfold impl_LeastLoad.D at hd; omega
         have d1 : impl_LeastLoad.D (n : Int) ((i : Int) - 1) q = d := by unfold impl_LeastLoad.D at hd ⊢; omega
         have b1 := impl_LeastLoad.least_b HN.out.1 HN.out.2.2.1 HN.out.2.2.2 d ((i : Int) - 1) q ((i : Int) - 1) ⟨⟨by have := HQ.out; have := HI.out; omega, by have := HQ.out; have := HI.out; omega, by have := HQ.out; have := HI.out; omega⟩, by have := HQ.out; have := HI.out; omega, by have := HQ.out; have := HI.out; omega⟩ d1
         have f1 : spec_LeastLoad.F (n : Int) l2 (i - 1) q 0 = impl_LeastLoad.least (n : Int) l2 d ((i : Int) - 1) q ((i : Int) - 1) := by
          unfold spec_LeastLoad.F impl_LeastLoad.L
          rw [if_pos rfl, show ((i - 1 : Nat) : Int) = (i : Int) - 1 by omega, d1]
         rw [f1] at ei1
         generalize impl_LeastLoad.least (n : Int) l2 d ((i : Int) - 1) q ((i : Int) - 1) = L1 at *
         have m1 := impl_LeastLoad.mul_b hv (show 0 ≤ (q : Int) - (i : Int) + 1 ∧ (q : Int) - (i : Int) + 1 ≤ 24 by have := HN.out.1; omega)
         generalize impl_LeastLoad.left (i : Int) q l2 0 0 = V at *
         have u1 : IntKind.i64.wrap ((q : Int) - (i : Int)) = (q : Int) - (i : Int) := (i64_w _).trans (by have := HN.out.1; unfold wrap64; omega)
         have u2 : IntKind.i64.wrap ((q : Int) - (i : Int) + 1) = (q : Int) - (i : Int) + 1 := (i64_w _).trans (by have := HN.out.1; unfold wrap64; omega)
         have u3 : IntKind.i64.wrap ((i : Int) - 1) = (i : Int) - 1 := (i64_w _).trans (by have := HN.out.1; unfold wrap64; omega)
         generalize hq1 : (q : Int) - (i : Int) + 1 = q1 at *
         have u4 : IntKind.i64.wrap (V * q1) = V * q1 := (i64_w _).trans (by unfold wrap64; omega)
         generalize hp1 : V * q1 = p1 at *
         have u5 : IntKind.i64.wrap (p1 + L1) = p1 + L1 := (i64_w _).trans (by unfold wrap64; omega)
         have hwn : IntKind.i64.wrap ((n : Int) - 1) = (n : Int) - 1 := (i64_w _).trans (by have := HN.out.1; unfold wrap64; omega)
         have e0 : wr.cell? ⟨w.heap.size, 0, none⟩ = some (.int .i64 (n : Int)) := (blk_cell H4.out 0).trans rfl
         have cqn : ¬ (q : Int) < (n : Int) - 1 := by omega
         have HG := Aside0.mk hg
         have HQN := Aside0.mk hq
         have hqn' : (q : Int) < (n : Int) := by omega
         have hil : (i : Int) - 1 < (xs.length : Int) := by have := HLN.out; have := HI.out; omega
         have hi1 : (0 : Int) ≤ (i : Int) - 1 := by omega
         have hil0 : (i : Int) < (xs.length : Int) := by have := HLN.out; have := HI.out; omega
         have HFF := Aside0.mk hF
         have HMX := Aside0.mk (show spec_l1Most.f 0 (p1 + L1) = some (spec_LeastLoad.F (n : Int) l2 i q 1) by unfold spec_l1Most.f; split <;> (congr 1; omega))
         clear hF hV hv hR hd hg hq hb0 hd24 b1 m1 d1 f1 hg1
         go_wp2_with fail
         go_region_with (go_at_call 86; refine (spec_l1Most.calls 0 (p1 + L1) _ _ HMX.out).mono ?_; rintro e w6 ⟨rfl, ⟨⟨z6, rfl⟩⟩⟩)
         all_goals
          go_wp2_with fail
          go_roundg (1 - 1)
          case measure => have := HS.out; omega
          case rel => exact ⟨2, by (rfl), ⟨by have := HS.out; omega⟩, ⟨HPUT.out _ (by repeat (first | exact Below.refl _ _ | apply pw_below_drewN))⟩, ⟨blk_far (by repeat (exact H4.out)) HNE.out _⟩⟩
        obtain ⟨g, hg⟩ : ∃ g, xs[i]? = some g := ⟨_, List.getElem?_eq_getElem (by have := HLN.out; have := HI.out; omega)⟩
        have eo := spec_LeastLoad.outer HT.out hg
        have hq : q < n := by have := HH.out; omega
        obtain ⟨⟨x0, ec⟩, fc⟩ := spec_LeastLoad.any HT.out hg hq (show 1 < 2 by omega)
        obtain ⟨g1, hg1⟩ : ∃ g1, xs[i - 1]? = some g1 := ⟨_, List.getElem?_eq_getElem (by have := HLN.out; have := HI.out; omega)⟩
        have eo1 := spec_LeastLoad.outer HT.out hg1
        have ei1 := spec_LeastLoad.inner HT.out hg1 hq (show 0 < 2 by omega) (Or.inl ⟨by omega, by have := HQ.out; omega⟩)
        rw [Nat.add_zero] at ei1
        have ei2 := spec_LeastLoad.inner HT.out hg (show q + 1 < n by omega) (show 1 < 2 by omega) (Or.inr (Or.inl ⟨rfl, by omega⟩))
        have hne : w.heap.size ≠ g := by
         rintro rfl
         obtain ⟨-, cs, h1, -⟩ := HT.out.rows i _ hg
         rw [H4.out] at h1
         simp at h1
        have HNE := Aside0.mk hne
        have HPUT := Aside0.mk (fun W' (hb : Below wr.heap.size wr W') => (HT.out.later hb).put (j := q) (s := 1) (done' := fun i' j s' => i' < i ∧ m ≤ j ∨ i' = i ∧ q + 1 ≤ j ∨ i' = i ∧ j = q ∧ s' < 1 + 1) hg (by simpa using hq) (by omega) (fun i' j' s' _ _ _ h => by by_cases e : i' = i ∧ j' = q ∧ s' = 1; exact Or.inr e; exact Or.inl (h.elim Or.inl (fun h => Or.inr (h.elim Or.inl (fun h => Or.inr ⟨h.1, h.2.1, by omega⟩))))))
        clear hne
        have hR : impl_LeastLoad.R (n : Int) (i : Int) q (q : Int) := ⟨⟨by omega, by have := HQ.out; have := HI.out; omega, by omega⟩, by have := HQ.out; have := HI.out; omega, by omega⟩
        have hV := impl_LeastLoad.left_b (i : Int) q l2 0 0 HN.out.2.2.2
        have hv : 0 ≤ impl_LeastLoad.left (i : Int) q l2 0 0 ∧ impl_LeastLoad.left (i : Int) q l2 0 0 ≤ 2376 := by have := HN.out.1; have := HN.out.2.2.1; omega
        have hF : spec_LeastLoad.F (n : Int) l2 i q 1 = impl_LeastLoad.L (n : Int) l2 (i : Int) q (q : Int) := rfl
        obtain ⟨d, hd⟩ : ∃ d, impl_LeastLoad.D (n : Int) (i : Int) q = d + 1 := ⟨impl_LeastLoad.D (n : Int) (i : Int) q - 1, by unfold impl_LeastLoad.D; omega⟩
        have hb0 := impl_LeastLoad.least_b HN.out.1 HN.out.2.2.1 HN.out.2.2.2 (d + 1) (i : Int) q (q : Int) hR hd
        unfold impl_LeastLoad.L at hF
        rw [hd] at hF
        rw [← hF] at hb0
        rw [impl_LeastLoad.least, if_pos (by omega), if_pos (by omega)] at hF
        have hd24 : (d : Int) ≤ 24 := by have := HN.out.1; unfold impl_LeastLoad.D at hd; omega
        have d1 : impl_LeastLoad.D (n : Int) ((i : Int) - 1) q = d := by unfold impl_LeastLoad.D at hd ⊢; omega
        have b1 := impl_LeastLoad.least_b HN.out.1 HN.out.2.2.1 HN.out.2.2.2 d ((i : Int) - 1) q ((i : Int) - 1) ⟨⟨by have := HQ.out; have := HI.out; omega, by have := HQ.out; have := HI.out; omega, by have := HQ.out; have := HI.out; omega⟩, by have := HQ.out; have := HI.out; omega, by have := HQ.out; have := HI.out; omega⟩ d1
        have f1 : spec_LeastLoad.F (n : Int) l2 (i - 1) q 0 = impl_LeastLoad.least (n : Int) l2 d ((i : Int) - 1) q ((i : Int) - 1) := by
         unfold spec_LeastLoad.F impl_LeastLoad.L
         rw [if_pos rfl, show ((i - 1 : Nat) : Int) = (i : Int) - 1 by omega, d1]
        rw [f1] at ei1
        generalize impl_LeastLoad.least (n : Int) l2 d ((i : Int) - 1) q ((i : Int) - 1) = L1 at *
        have m1 := impl_LeastLoad.mul_b hv (show 0 ≤ (q : Int) - (i : Int) + 1 ∧ (q : Int) - (i : Int) + 1 ≤ 24 by have := HN.out.1; omega)
        have d2 : impl_LeastLoad.D (n : Int) (i : Int) ((q : Int) + 1) = d := by unfold impl_LeastLoad.D at hd ⊢; omega
        have b2 := impl_LeastLoad.least_b HN.out.1 HN.out.2.2.1 HN.out.2.2.2 d (i : Int) ((q : Int) + 1) ((q : Int) + 1) ⟨⟨by have := HQ.out; have := HI.out; omega, by have := HQ.out; have := HI.out; omega, by have := HQ.out; have := HI.out; omega⟩, by have := HQ.out; have := HI.out; omega, by have := HQ.out; have := HI.out; omega⟩ d2
        have f2 : spec_LeastLoad.F (n : Int) l2 i (q + 1) 1 = impl_LeastLoad.least (n : Int) l2 d (i : Int) ((q : Int) + 1) ((q : Int) + 1) := by
         unfold spec_LeastLoad.F impl_LeastLoad.L
         rw [if_neg (by decide), show ((q + 1 : Nat) : Int) = (q : Int) + 1 by omega, d2]
        rw [f2] at ei2
        generalize impl_LeastLoad.least (n : Int) l2 d (i : Int) ((q : Int) + 1) ((q : Int) + 1) = L2 at *
        have m2 := impl_LeastLoad.mul_b hv (show 0 ≤ (q : Int) + 1 - (q : Int) ∧ (q : Int) + 1 - (q : Int) ≤ 24 by have := HN.out.1; omega)
        generalize impl_LeastLoad.left (i : Int) q l2 0 0 = V at *
        have u1 : IntKind.i64.wrap ((q : Int) - (i : Int)) = (q : Int) - (i : Int) := (i64_w _).trans (by have := HN.out.1; unfold wrap64; omega)
        have u2 : IntKind.i64.wrap ((q : Int) - (i : Int) + 1) = (q : Int) - (i : Int) + 1 := (i64_w _).trans (by have := HN.out.1; unfold wrap64; omega)
        have u3 : IntKind.i64.wrap ((i : Int) - 1) = (i : Int) - 1 := (i64_w _).trans (by have := HN.out.1; unfold wrap64; omega)
        generalize hq1 : (q : Int) - (i : Int) + 1 = q1 at *
        have u4 : IntKind.i64.wrap (V * q1) = V * q1 := (i64_w _).trans (by unfold wrap64; omega)
        generalize hp1 : V * q1 = p1 at *
        have u5 : IntKind.i64.wrap (p1 + L1) = p1 + L1 := (i64_w _).trans (by unfold wrap64; omega)
        have v1 : IntKind.i64.wrap ((q : Int) + 1) = (q : Int) + 1 := (i64_w _).trans (by have := HN.out.1; unfold wrap64; omega)
        have v2 : IntKind.i64.wrap ((q : Int) + 1 - (q : Int)) = (q : Int) + 1 - (q : Int) := (i64_w _).trans (by have := HN.out.1; unfold wrap64; omega)
        generalize hq2 : (q : Int) + 1 - (q : Int) = q2 at *
        have v4 : IntKind.i64.wrap (V * q2) = V * q2 := (i64_w _).trans (by unfold wrap64; omega)
        generalize hp2 : V * q2 = p2 at *
        have v5 : IntKind.i64.wrap (p2 + L2) = p2 + L2 := (i64_w _).trans (by unfold wrap64; omega)
        have hwn : IntKind.i64.wrap ((n : Int) - 1) = (n : Int) - 1 := (i64_w _).trans (by have := HN.out.1; unfold wrap64; omega)
        have e0 : wr.cell? ⟨w.heap.size, 0, none⟩ = some (.int .i64 (n : Int)) := (blk_cell H4.out 0).trans rfl
        have cqn : (q : Int) < (n : Int) - 1 := by omega
        have HG := Aside0.mk hg
        have HQN := Aside0.mk hq
        have hqn' : (q : Int) < (n : Int) := by omega
        have hqn2 : (q : Int) + 1 < (n : Int) := by omega
        have hil : (i : Int) - 1 < (xs.length : Int) := by have := HLN.out; have := HI.out; omega
        have hi1 : (0 : Int) ≤ (i : Int) - 1 := by omega
        have hil0 : (i : Int) < (xs.length : Int) := by have := HLN.out; have := HI.out; omega
        have nb : ¬ p1 + L1 < 0 := by omega
        by_cases cc : p2 + L2 < p1 + L1
        rotate_left
        ·rw [if_neg cc] at hF
         have HFF := Aside0.mk hF
         have HMX := Aside0.mk (show spec_l1Most.f 0 (p1 + L1) = some (spec_LeastLoad.F (n : Int) l2 i q 1) by unfold spec_l1Most.f; split <;> (congr 1; omega))
         clear hF hV hv hR hd hg hq hb0 hd24 b1 m1 d1 f1 hg1 b2 m2 d2 f2
         go_wp2_with fail
         go_region_with (go_at_call 86; refine (spec_l1Most.calls 0 (p1 + L1) _ _ HMX.out).mono ?_; rintro e w6 ⟨rfl, ⟨⟨z6, rfl⟩⟩⟩)
         all_goals
          go_wp2_with fail
          go_roundg (1 - 1)
          case measure => have := HS.out; omega
          case rel => exact ⟨2, by (rfl), ⟨by have := HS.out; omega⟩, ⟨HPUT.out _ (by repeat (first | exact Below.refl _ _ | apply pw_below_drewN))⟩, ⟨blk_far (by repeat (exact H4.out)) HNE.out _⟩⟩
        rw [if_pos cc] at hF
        have HFF := Aside0.mk hF
        have HMX := Aside0.mk (show spec_l1Most.f 0 (p2 + L2) = some (spec_LeastLoad.F (n : Int) l2 i q 1) by unfold spec_l1Most.f; split <;> (congr 1; omega))
        clear hF hV hv hR hd hg hq hb0 hd24 b1 m1 d1 f1 hg1 b2 m2 d2 f2
        go_wp2_with fail
        go_region_with (go_at_call 86; refine (spec_l1Most.calls 0 (p2 + L2) _ _ HMX.out).mono ?_; rintro e w6 ⟨rfl, ⟨⟨z6, rfl⟩⟩⟩)
        all_goals
         go_wp2_with fail
         go_roundg (1 - 1)
         case measure => have := HS.out; omega
         case rel => exact ⟨2, by (rfl), ⟨by have := HS.out; omega⟩, ⟨HPUT.out _ (by repeat (first | exact Below.refl _ _ | apply pw_below_drewN))⟩, ⟨blk_far (by repeat (exact H4.out)) HNE.out _⟩⟩
       subst cs0
       by_cases c0 : i = 0
       ·subst c0
        have c3 : ¬ (0 : Int) < 0 := by omega
        by_cases c2 : (q : Int) < (n : Int) - 1
        rotate_left
        ·obtain ⟨g, hg⟩ : ∃ g, xs[0]? = some g := ⟨_, List.getElem?_eq_getElem (by have := HLN.out; have := HI.out; omega)⟩
         have eo := spec_LeastLoad.outer HT.out hg
         have hq : q < n := by have := HH.out; omega
         obtain ⟨⟨x0, ec⟩, fc⟩ := spec_LeastLoad.any HT.out hg hq (show 0 < 2 by omega)
         rw [Nat.add_zero] at ec fc
         have hne : w.heap.size ≠ g := by
          rintro rfl
          obtain ⟨-, cs, h1, -⟩ := HT.out.rows 0 _ hg
          rw [H4.out] at h1
          simp at h1
         have HNE := Aside0.mk hne
         have HPUT := Aside0.mk (fun W' (hb : Below wr.heap.size wr W') => (HT.out.later hb).put (j := q) (s := 0) (done' := fun i' j s' => i' < 0 ∧ m ≤ j ∨ i' = 0 ∧ q + 1 ≤ j ∨ i' = 0 ∧ j = q ∧ s' < 0 + 1) hg (by simpa using hq) (by omega) (fun i' j' s' _ _ _ h => by by_cases e : i' = 0 ∧ j' = q ∧ s' = 0; exact Or.inr e; exact Or.inl (h.elim Or.inl (fun h => Or.inr (h.elim Or.inl (fun h => Or.inr ⟨h.1, h.2.1, by omega⟩))))))
         clear hne
         have hR : impl_LeastLoad.R (n : Int) (0 : Int) q (0 : Int) := ⟨⟨by omega, by have := HQ.out; have := HI.out; omega, by omega⟩, by have := HQ.out; have := HI.out; omega, by omega⟩
         have hV := impl_LeastLoad.left_b (0 : Int) q l2 0 0 HN.out.2.2.2
         have hv : 0 ≤ impl_LeastLoad.left (0 : Int) q l2 0 0 ∧ impl_LeastLoad.left (0 : Int) q l2 0 0 ≤ 2376 := by have := HN.out.1; have := HN.out.2.2.1; omega
         have hF : spec_LeastLoad.F (n : Int) l2 0 q 0 = impl_LeastLoad.L (n : Int) l2 (0 : Int) q (0 : Int) := rfl
         have hd : impl_LeastLoad.D (n : Int) (0 : Int) q = 0 := by unfold impl_LeastLoad.D; omega
         unfold impl_LeastLoad.L at hF
         rw [hd, impl_LeastLoad.least] at hF
         generalize impl_LeastLoad.left (0 : Int) q l2 0 0 = V at *
         have hwn : IntKind.i64.wrap ((n : Int) - 1) = (n : Int) - 1 := (i64_w _).trans (by have := HN.out.1; unfold wrap64; omega)
         have e0 : wr.cell? ⟨w.heap.size, 0, none⟩ = some (.int .i64 (n : Int)) := (blk_cell H4.out 0).trans rfl
         have cqn : ¬ (q : Int) < (n : Int) - 1 := by omega
         have HG := Aside0.mk hg
         have HQN := Aside0.mk hq
         have hqn' : (q : Int) < (n : Int) := by omega
         have hil0 : (0 : Int) < (xs.length : Int) := by have := HLN.out; have := HI.out; omega
         have HFF := Aside0.mk hF
         have HMX := Aside0.mk (show spec_l1Most.f 0 (-1) = some (spec_LeastLoad.F (n : Int) l2 0 q 0) by unfold spec_l1Most.f; split <;> (congr 1; omega))
         clear hF hV hv hR hd hg hq
         go_wp2_with fail
         go_region_with (go_at_call 86; refine (spec_l1Most.calls 0 (-1) _ _ HMX.out).mono ?_; rintro e w6 ⟨rfl, ⟨⟨z6, rfl⟩⟩⟩)
         all_goals
          go_wp2_with fail
          go_roundg (1 - 0)
          case measure => have := HS.out; omega
          case rel => exact ⟨1, by (rfl), ⟨by have := HS.out; omega⟩, ⟨HPUT.out _ (by repeat (first | exact Below.refl _ _ | apply pw_below_drewN))⟩, ⟨blk_far (by repeat (exact H4.out)) HNE.out _⟩⟩
        obtain ⟨g, hg⟩ : ∃ g, xs[0]? = some g := ⟨_, List.getElem?_eq_getElem (by have := HLN.out; have := HI.out; omega)⟩
        have eo := spec_LeastLoad.outer HT.out hg
        have hq : q < n := by have := HH.out; omega
        obtain ⟨⟨x0, ec⟩, fc⟩ := spec_LeastLoad.any HT.out hg hq (show 0 < 2 by omega)
        rw [Nat.add_zero] at ec fc
        have ei2 := spec_LeastLoad.inner HT.out hg (show q + 1 < n by omega) (show 1 < 2 by omega) (Or.inr (Or.inl ⟨rfl, by omega⟩))
        have hne : w.heap.size ≠ g := by
         rintro rfl
         obtain ⟨-, cs, h1, -⟩ := HT.out.rows 0 _ hg
         rw [H4.out] at h1
         simp at h1
        have HNE := Aside0.mk hne
        have HPUT := Aside0.mk (fun W' (hb : Below wr.heap.size wr W') => (HT.out.later hb).put (j := q) (s := 0) (done' := fun i' j s' => i' < 0 ∧ m ≤ j ∨ i' = 0 ∧ q + 1 ≤ j ∨ i' = 0 ∧ j = q ∧ s' < 0 + 1) hg (by simpa using hq) (by omega) (fun i' j' s' _ _ _ h => by by_cases e : i' = 0 ∧ j' = q ∧ s' = 0; exact Or.inr e; exact Or.inl (h.elim Or.inl (fun h => Or.inr (h.elim Or.inl (fun h => Or.inr ⟨h.1, h.2.1, by omega⟩))))))
        clear hne
        have hR : impl_LeastLoad.R (n : Int) (0 : Int) q (0 : Int) := ⟨⟨by omega, by have := HQ.out; have := HI.out; omega, by omega⟩, by have := HQ.out; have := HI.out; omega, by omega⟩
        have hV := impl_LeastLoad.left_b (0 : Int) q l2 0 0 HN.out.2.2.2
        have hv : 0 ≤ impl_LeastLoad.left (0 : Int) q l2 0 0 ∧ impl_LeastLoad.left (0 : Int) q l2 0 0 ≤ 2376 := by have := HN.out.1; have := HN.out.2.2.1; omega
        have hF : spec_LeastLoad.F (n : Int) l2 0 q 0 = impl_LeastLoad.L (n : Int) l2 (0 : Int) q (0 : Int) := rfl
        obtain ⟨d, hd⟩ : ∃ d, impl_LeastLoad.D (n : Int) (0 : Int) q = d + 1 := ⟨impl_LeastLoad.D (n : Int) (0 : Int) q - 1, by unfold impl_LeastLoad.D; omega⟩
        have hb0 := impl_LeastLoad.least_b HN.out.1 HN.out.2.2.1 HN.out.2.2.2 (d + 1) (0 : Int) q (0 : Int) hR hd
        unfold impl_LeastLoad.L at hF
        rw [hd] at hF
        rw [← hF] at hb0
        rw [impl_LeastLoad.least, if_pos (by omega), if_neg (by omega)] at hF
        have hd24 : (d : Int) ≤ 24 := by have := HN.out.1; unfold impl_LeastLoad.D at hd; omega
        have d2 : impl_LeastLoad.D (n : Int) (0 : Int) ((q : Int) + 1) = d := by unfold impl_LeastLoad.D at hd ⊢; omega
        have b2 := impl_LeastLoad.least_b HN.out.1 HN.out.2.2.1 HN.out.2.2.2 d (0 : Int) ((q : Int) + 1) ((q : Int) + 1) ⟨⟨by have := HQ.out; have := HI.out; omega, by have := HQ.out; have := HI.out; omega, by have := HQ.out; have := HI.out; omega⟩, by have := HQ.out; have := HI.out; omega, by have := HQ.out; have := HI.out; omega⟩ d2
        have f2 : spec_LeastLoad.F (n : Int) l2 0 (q + 1) 1 = impl_LeastLoad.least (n : Int) l2 d (0 : Int) ((q : Int) + 1) ((q : Int) + 1) := by
         unfold spec_LeastLoad.F impl_LeastLoad.L
         rw [if_neg (by decide), show ((q + 1 : Nat) : Int) = (q : Int) + 1 by omega, show ((0 : Nat) : Int) = 0 from rfl, d2]
        rw [f2] at ei2
        generalize impl_LeastLoad.least (n : Int) l2 d (0 : Int) ((q : Int) + 1) ((q : Int) + 1) = L2 at *
        have m2 := impl_LeastLoad.mul_b hv (show 0 ≤ (q : Int) + 1 - (0 : Int) ∧ (q : Int) + 1 - (0 : Int) ≤ 24 by have := HN.out.1; omega)
        generalize impl_LeastLoad.left (0 : Int) q l2 0 0 = V at *
        have v1 : IntKind.i64.wrap ((q : Int) + 1) = (q : Int) + 1 := (i64_w _).trans (by have := HN.out.1; unfold wrap64; omega)
        have v2 : IntKind.i64.wrap ((q : Int) + 1 - (0 : Int)) = (q : Int) + 1 - (0 : Int) := (i64_w _).trans (by have := HN.out.1; unfold wrap64; omega)
        generalize hq2 : (q : Int) + 1 - (0 : Int) = q2 at *
        have v4 : IntKind.i64.wrap (V * q2) = V * q2 := (i64_w _).trans (by unfold wrap64; omega)
        generalize hp2 : V * q2 = p2 at *
        have v5 : IntKind.i64.wrap (p2 + L2) = p2 + L2 := (i64_w _).trans (by unfold wrap64; omega)
        have hwn : IntKind.i64.wrap ((n : Int) - 1) = (n : Int) - 1 := (i64_w _).trans (by have := HN.out.1; unfold wrap64; omega)
        have e0 : wr.cell? ⟨w.heap.size, 0, none⟩ = some (.int .i64 (n : Int)) := (blk_cell H4.out 0).trans rfl
        have cqn : (q : Int) < (n : Int) - 1 := by omega
        have HG := Aside0.mk hg
        have HQN := Aside0.mk hq
        have hqn' : (q : Int) < (n : Int) := by omega
        have hqn2 : (q : Int) + 1 < (n : Int) := by omega
        have hil0 : (0 : Int) < (xs.length : Int) := by have := HLN.out; have := HI.out; omega
        have HFF := Aside0.mk hF
        have HMX := Aside0.mk (show spec_l1Most.f 0 (p2 + L2) = some (spec_LeastLoad.F (n : Int) l2 0 q 0) by unfold spec_l1Most.f; split <;> (congr 1; omega))
        clear hF hV hv hR hd hg hq hb0 hd24 b2 m2 d2 f2
        go_wp2_with fail
        go_region_with (go_at_call 86; refine (spec_l1Most.calls 0 (p2 + L2) _ _ HMX.out).mono ?_; rintro e w6 ⟨rfl, ⟨⟨z6, rfl⟩⟩⟩)
        all_goals
         go_wp2_with fail
         go_roundg (1 - 0)
         case measure => have := HS.out; omega
         case rel => exact ⟨1, by (rfl), ⟨by have := HS.out; omega⟩, ⟨HPUT.out _ (by repeat (first | exact Below.refl _ _ | apply pw_below_drewN))⟩, ⟨blk_far (by repeat (exact H4.out)) HNE.out _⟩⟩
       have c3 : (0 : Int) < (i : Int) := by omega
       by_cases c2 : (q : Int) < (n : Int) - 1
       rotate_left
       ·obtain ⟨g, hg⟩ : ∃ g, xs[i]? = some g := ⟨_, List.getElem?_eq_getElem (by have := HLN.out; have := HI.out; omega)⟩
        have eo := spec_LeastLoad.outer HT.out hg
        have hq : q < n := by have := HH.out; omega
        obtain ⟨⟨x0, ec⟩, fc⟩ := spec_LeastLoad.any HT.out hg hq (show 0 < 2 by omega)
        obtain ⟨g1, hg1⟩ : ∃ g1, xs[i - 1]? = some g1 := ⟨_, List.getElem?_eq_getElem (by have := HLN.out; have := HI.out; omega)⟩
        have eo1 := spec_LeastLoad.outer HT.out hg1
        have ei1 := spec_LeastLoad.inner HT.out hg1 hq (show 0 < 2 by omega) (Or.inl ⟨by omega, by have := HQ.out; omega⟩)
        rw [Nat.add_zero] at ei1
        rw [Nat.add_zero] at ec fc
        have hne : w.heap.size ≠ g := by
         rintro rfl
         obtain ⟨-, cs, h1, -⟩ := HT.out.rows i _ hg
         rw [H4.out] at h1
         simp at h1
        have HNE := Aside0.mk hne
        have HPUT := Aside0.mk (fun W' (hb : Below wr.heap.size wr W') => (HT.out.later hb).put (j := q) (s := 0) (done' := fun i' j s' => i' < i ∧ m ≤ j ∨ i' = i ∧ q + 1 ≤ j ∨ i' = i ∧ j = q ∧ s' < 0 + 1) hg (by simpa using hq) (by omega) (fun i' j' s' _ _ _ h => by by_cases e : i' = i ∧ j' = q ∧ s' = 0; exact Or.inr e; exact Or.inl (h.elim Or.inl (fun h => Or.inr (h.elim Or.inl (fun h => Or.inr ⟨h.1, h.2.1, by omega⟩))))))
        clear hne
        have hR : impl_LeastLoad.R (n : Int) (i : Int) q (i : Int) := ⟨⟨by omega, by have := HQ.out; have := HI.out; omega, by omega⟩, by have := HQ.out; have := HI.out; omega, by omega⟩
        have hV := impl_LeastLoad.left_b (i : Int) q l2 0 0 HN.out.2.2.2
        have hv : 0 ≤ impl_LeastLoad.left (i : Int) q l2 0 0 ∧ impl_LeastLoad.left (i : Int) q l2 0 0 ≤ 2376 := by have := HN.out.1; have := HN.out.2.2.1; omega
        have hF : spec_LeastLoad.F (n : Int) l2 i q 0 = impl_LeastLoad.L (n : Int) l2 (i : Int) q (i : Int) := rfl
        obtain ⟨d, hd⟩ : ∃ d, impl_LeastLoad.D (n : Int) (i : Int) q = d + 1 := ⟨impl_LeastLoad.D (n : Int) (i : Int) q - 1, by unfold impl_LeastLoad.D; omega⟩
        have hb0 := impl_LeastLoad.least_b HN.out.1 HN.out.2.2.1 HN.out.2.2.2 (d + 1) (i : Int) q (i : Int) hR hd
        unfold impl_LeastLoad.L at hF
        rw [hd] at hF
        rw [← hF] at hb0
        rw [impl_LeastLoad.least, if_neg (by omega)] at hF
        have hd24 : (d : Int) ≤ 24 := by have := HN.out.1; unfold impl_LeastLoad.D at hd; omega
        have d1 : impl_LeastLoad.D (n : Int) ((i : Int) - 1) q = d := by unfold impl_LeastLoad.D at hd ⊢; omega
        have b1 := impl_LeastLoad.least_b HN.out.1 HN.out.2.2.1 HN.out.2.2.2 d ((i : Int) - 1) q ((i : Int) - 1) ⟨⟨by have := HQ.out; have := HI.out; omega, by have := HQ.out; have := HI.out; omega, by have := HQ.out; have := HI.out; omega⟩, by have := HQ.out; have := HI.out; omega, by have := HQ.out; have := HI.out; omega⟩ d1
        have f1 : spec_LeastLoad.F (n : Int) l2 (i - 1) q 0 = impl_LeastLoad.least (n : Int) l2 d ((i : Int) - 1) q ((i : Int) - 1) := by
         unfold spec_LeastLoad.F impl_LeastLoad.L
         rw [if_pos rfl, show ((i - 1 : Nat) : Int) = (i : Int) - 1 by omega, d1]
        rw [f1] at ei1
        generalize impl_LeastLoad.least (n : Int) l2 d ((i : Int) - 1) q ((i : Int) - 1) = L1 at *
        have m1 := impl_LeastLoad.mul_b hv (show 0 ≤ (i : Int) - (i : Int) + 1 ∧ (i : Int) - (i : Int) + 1 ≤ 24 by have := HN.out.1; omega)
        generalize impl_LeastLoad.left (i : Int) q l2 0 0 = V at *
        have u1 : IntKind.i64.wrap ((i : Int) - (i : Int)) = (i : Int) - (i : Int) := (i64_w _).trans (by have := HN.out.1; unfold wrap64; omega)
        have u2 : IntKind.i64.wrap ((i : Int) - (i : Int) + 1) = (i : Int) - (i : Int) + 1 := (i64_w _).trans (by have := HN.out.1; unfold wrap64; omega)
        have u3 : IntKind.i64.wrap ((i : Int) - 1) = (i : Int) - 1 := (i64_w _).trans (by have := HN.out.1; unfold wrap64; omega)
        have uz : (i : Int) - (i : Int) = 0 := Int.sub_self _
        have u2' : IntKind.i64.wrap 1 = 1 := rfl
        rw [uz] at m1 hF
        rw [Int.zero_add] at m1 hF
        rw [Int.mul_one] at m1 hF
        have mV : V * 1 = V := Int.mul_one _
        have u4 : IntKind.i64.wrap V = V := (i64_w _).trans (by unfold wrap64; omega)
        have u5 : IntKind.i64.wrap (V + L1) = V + L1 := (i64_w _).trans (by unfold wrap64; omega)
        have hwn : IntKind.i64.wrap ((n : Int) - 1) = (n : Int) - 1 := (i64_w _).trans (by have := HN.out.1; unfold wrap64; omega)
        have e0 : wr.cell? ⟨w.heap.size, 0, none⟩ = some (.int .i64 (n : Int)) := (blk_cell H4.out 0).trans rfl
        have cqn : ¬ (q : Int) < (n : Int) - 1 := by omega
        have HG := Aside0.mk hg
        have HQN := Aside0.mk hq
        have hqn' : (q : Int) < (n : Int) := by omega
        have hil : (i : Int) - 1 < (xs.length : Int) := by have := HLN.out; have := HI.out; omega
        have hi1 : (0 : Int) ≤ (i : Int) - 1 := by omega
        have hil0 : (i : Int) < (xs.length : Int) := by have := HLN.out; have := HI.out; omega
        have HFF := Aside0.mk hF
        have HMX := Aside0.mk (show spec_l1Most.f 0 (V + L1) = some (spec_LeastLoad.F (n : Int) l2 i q 0) by unfold spec_l1Most.f; split <;> (congr 1; omega))
        clear hF hV hv hR hd hg hq hb0 hd24 b1 m1 d1 f1 hg1
        go_wp2_with fail
        go_region_with (go_at_call 86; refine (spec_l1Most.calls 0 (V + L1) _ _ HMX.out).mono ?_; rintro e w6 ⟨rfl, ⟨⟨z6, rfl⟩⟩⟩)
        all_goals
         go_wp2_with fail
         go_roundg (1 - 0)
         case measure => have := HS.out; omega
         case rel => exact ⟨1, by (rfl), ⟨by have := HS.out; omega⟩, ⟨HPUT.out _ (by repeat (first | exact Below.refl _ _ | apply pw_below_drewN))⟩, ⟨blk_far (by repeat (exact H4.out)) HNE.out _⟩⟩
       obtain ⟨g, hg⟩ : ∃ g, xs[i]? = some g := ⟨_, List.getElem?_eq_getElem (by have := HLN.out; have := HI.out; omega)⟩
       have eo := spec_LeastLoad.outer HT.out hg
       have hq : q < n := by have := HH.out; omega
       obtain ⟨⟨x0, ec⟩, fc⟩ := spec_LeastLoad.any HT.out hg hq (show 0 < 2 by omega)
       obtain ⟨g1, hg1⟩ : ∃ g1, xs[i - 1]? = some g1 := ⟨_, List.getElem?_eq_getElem (by have := HLN.out; have := HI.out; omega)⟩
       have eo1 := spec_LeastLoad.outer HT.out hg1
       have ei1 := spec_LeastLoad.inner HT.out hg1 hq (show 0 < 2 by omega) (Or.inl ⟨by omega, by have := HQ.out; omega⟩)
       rw [Nat.add_zero] at ei1
       rw [Nat.add_zero] at ec fc
       have ei2 := spec_LeastLoad.inner HT.out hg (show q + 1 < n by omega) (show 1 < 2 by omega) (Or.inr (Or.inl ⟨rfl, by omega⟩))
       have hne : w.heap.size ≠ g := by
        rintro rfl
        obtain ⟨-, cs, h1, -⟩ := HT.out.rows i _ hg
        rw [H4.out] at h1
        simp at h1
       have HNE := Aside0.mk hne
       have HPUT := Aside0.mk (fun W' (hb : Below wr.heap.size wr W') => (HT.out.later hb).put (j := q) (s := 0) (done' := fun i' j s' => i' < i ∧ m ≤ j ∨ i' = i ∧ q + 1 ≤ j ∨ i' = i ∧ j = q ∧ s' < 0 + 1) hg (by simpa using hq) (by omega) (fun i' j' s' _ _ _ h => by by_cases e : i' = i ∧ j' = q ∧ s' = 0; exact Or.inr e; exact Or.inl (h.elim Or.inl (fun h => Or.inr (h.elim Or.inl (fun h => Or.inr ⟨h.1, h.2.1, by omega⟩))))))
       clear hne
       have hR : impl_LeastLoad.R (n : Int) (i : Int) q (i : Int) := ⟨⟨by omega, by have := HQ.out; have := HI.out; omega, by omega⟩, by have := HQ.out; have := HI.out; omega, by omega⟩
       have hV := impl_LeastLoad.left_b (i : Int) q l2 0 0 HN.out.2.2.2
       have hv : 0 ≤ impl_LeastLoad.left (i : Int) q l2 0 0 ∧ impl_LeastLoad.left (i : Int) q l2 0 0 ≤ 2376 := by have := HN.out.1; have := HN.out.2.2.1; omega
       have hF : spec_LeastLoad.F (n : Int) l2 i q 0 = impl_LeastLoad.L (n : Int) l2 (i : Int) q (i : Int) := rfl
       obtain ⟨d, hd⟩ : ∃ d, impl_LeastLoad.D (n : Int) (i : Int) q = d + 1 := ⟨impl_LeastLoad.D (n : Int) (i : Int) q - 1, by unfold impl_LeastLoad.D; omega⟩
       have hb0 := impl_LeastLoad.least_b HN.out.1 HN.out.2.2.1 HN.out.2.2.2 (d + 1) (i : Int) q (i : Int) hR hd
       unfold impl_LeastLoad.L at hF
       rw [hd] at hF
       rw [← hF] at hb0
       rw [impl_LeastLoad.least, if_pos (by omega), if_pos (by omega)] at hF
       have hd24 : (d : Int) ≤ 24 := by have := HN.out.1; unfold impl_LeastLoad.D at hd; omega
       have d1 : impl_LeastLoad.D (n : Int) ((i : Int) - 1) q = d := by unfold impl_LeastLoad.D at hd ⊢; omega
       have b1 := impl_LeastLoad.least_b HN.out.1 HN.out.2.2.1 HN.out.2.2.2 d ((i : Int) - 1) q ((i : Int) - 1) ⟨⟨by have := HQ.out; have := HI.out; omega, by have := HQ.out; have := HI.out; omega, by have := HQ.out; have := HI.out; omega⟩, by have := HQ.out; have := HI.out; omega, by have := HQ.out; have := HI.out; omega⟩ d1
       have f1 : spec_LeastLoad.F (n : Int) l2 (i - 1) q 0 = impl_LeastLoad.least (n : Int) l2 d ((i : Int) - 1) q ((i : Int) - 1) := by
        unfold spec_LeastLoad.F impl_LeastLoad.L
        rw [if_pos rfl, show ((i - 1 : Nat) : Int) = (i : Int) - 1 by omega, d1]
       rw [f1] at ei1
       generalize impl_LeastLoad.least (n : Int) l2 d ((i : Int) - 1) q ((i : Int) - 1) = L1 at *
       have m1 := impl_LeastLoad.mul_b hv (show 0 ≤ (i : Int) - (i : Int) + 1 ∧ (i : Int) - (i : Int) + 1 ≤ 24 by have := HN.out.1; omega)
       have d2 : impl_LeastLoad.D (n : Int) (i : Int) ((q : Int) + 1) = d := by unfold impl_LeastLoad.D at hd ⊢; omega
       have b2 := impl_LeastLoad.least_b HN.out.1 HN.out.2.2.1 HN.out.2.2.2 d (i : Int) ((q : Int) + 1) ((q : Int) + 1) ⟨⟨by have := HQ.out; have := HI.out; omega, by have := HQ.out; have := HI.out; omega, by have := HQ.out; have := HI.out; omega⟩, by have := HQ.out; have := HI.out; omega, by have := HQ.out; have := HI.out; omega⟩ d2
       have f2 : spec_LeastLoad.F (n : Int) l2 i (q + 1) 1 = impl_LeastLoad.least (n : Int) l2 d (i : Int) ((q : Int) + 1) ((q : Int) + 1) := by
        unfold spec_LeastLoad.F impl_LeastLoad.L
        rw [if_neg (by decide), show ((q + 1 : Nat) : Int) = (q : Int) + 1 by omega, d2]
       rw [f2] at ei2
       generalize impl_LeastLoad.least (n : Int) l2 d (i : Int) ((q : Int) + 1) ((q : Int) + 1) = L2 at *
       have m2 := impl_LeastLoad.mul_b hv (show 0 ≤ (q : Int) + 1 - (i : Int) ∧ (q : Int) + 1 - (i : Int) ≤ 24 by have := HN.out.1; omega)
       generalize impl_LeastLoad.left (i : Int) q l2 0 0 = V at *
       have u1 : IntKind.i64.wrap ((i : Int) - (i : Int)) = (i : Int) - (i : Int) := (i64_w _).trans (by have := HN.out.1; unfold wrap64; omega)
       have u2 : IntKind.i64.wrap ((i : Int) - (i : Int) + 1) = (i : Int) - (i : Int) + 1 := (i64_w _).trans (by have := HN.out.1; unfold wrap64; omega)
       have u3 : IntKind.i64.wrap ((i : Int) - 1) = (i : Int) - 1 := (i64_w _).trans (by have := HN.out.1; unfold wrap64; omega)
       have uz : (i : Int) - (i : Int) = 0 := Int.sub_self _
       have u2' : IntKind.i64.wrap 1 = 1 := rfl
       rw [uz] at m1 hF
       rw [Int.zero_add] at m1 hF
       rw [Int.mul_one] at m1 hF
       have mV : V * 1 = V := Int.mul_one _
       have u4 : IntKind.i64.wrap V = V := (i64_w _).trans (by unfold wrap64; omega)
       have u5 : IntKind.i64.wrap (V + L1) = V + L1 := (i64_w _).trans (by unfold wrap64; omega)
       have v1 : IntKind.i64.wrap ((q : Int) + 1) = (q : Int) + 1 := (i64_w _).trans (by have := HN.out.1; unfold wrap64; omega)
       have v2 : IntKind.i64.wrap ((q : Int) + 1 - (i : Int)) = (q : Int) + 1 - (i : Int) := (i64_w _).trans (by have := HN.out.1; unfold wrap64; omega)
       generalize hq2 : (q : Int) + 1 - (i : Int) = q2 at *
       have v4 : IntKind.i64.wrap (V * q2) = V * q2 := (i64_w _).trans (by unfold wrap64; omega)
       generalize hp2 : V * q2 = p2 at *
       have v5 : IntKind.i64.wrap (p2 + L2) = p2 + L2 := (i64_w _).trans (by unfold wrap64; omega)
       have hwn : IntKind.i64.wrap ((n : Int) - 1) = (n : Int) - 1 := (i64_w _).trans (by have := HN.out.1; unfold wrap64; omega)
       have e0 : wr.cell? ⟨w.heap.size, 0, none⟩ = some (.int .i64 (n : Int)) := (blk_cell H4.out 0).trans rfl
       have cqn : (q : Int) < (n : Int) - 1 := by omega
       have HG := Aside0.mk hg
       have HQN := Aside0.mk hq
       have hqn' : (q : Int) < (n : Int) := by omega
       have hqn2 : (q : Int) + 1 < (n : Int) := by omega
       have hil : (i : Int) - 1 < (xs.length : Int) := by have := HLN.out; have := HI.out; omega
       have hi1 : (0 : Int) ≤ (i : Int) - 1 := by omega
       have hil0 : (i : Int) < (xs.length : Int) := by have := HLN.out; have := HI.out; omega
       have nb : ¬ V + L1 < 0 := by omega
       by_cases cc : p2 + L2 < V + L1
       rotate_left
       ·rw [if_neg cc] at hF
        have HFF := Aside0.mk hF
        have HMX := Aside0.mk (show spec_l1Most.f 0 (V + L1) = some (spec_LeastLoad.F (n : Int) l2 i q 0) by unfold spec_l1Most.f; split <;> (congr 1; omega))
        clear hF hV hv hR hd hg hq hb0 hd24 b1 m1 d1 f1 hg1 b2 m2 d2 f2
        go_wp2_with fail
        go_region_with (go_at_call 86; refine (spec_l1Most.calls 0 (V + L1) _ _ HMX.out).mono ?_; rintro e w6 ⟨rfl, ⟨⟨z6, rfl⟩⟩⟩)
        all_goals
         go_wp2_with fail
         go_roundg (1 - 0)
         case measure => have := HS.out; omega
         case rel => exact ⟨1, by (rfl), ⟨by have := HS.out; omega⟩, ⟨HPUT.out _ (by repeat (first | exact Below.refl _ _ | apply pw_below_drewN))⟩, ⟨blk_far (by repeat (exact H4.out)) HNE.out _⟩⟩
       rw [if_pos cc] at hF
       have HFF := Aside0.mk hF
       have HMX := Aside0.mk (show spec_l1Most.f 0 (p2 + L2) = some (spec_LeastLoad.F (n : Int) l2 i q 0) by unfold spec_l1Most.f; split <;> (congr 1; omega))
       clear hF hV hv hR hd hg hq hb0 hd24 b1 m1 d1 f1 hg1 b2 m2 d2 f2
       go_wp2_with fail
       go_region_with (go_at_call 86; refine (spec_l1Most.calls 0 (p2 + L2) _ _ HMX.out).mono ?_; rintro e w6 ⟨rfl, ⟨⟨z6, rfl⟩⟩⟩)
       all_goals
        go_wp2_with fail
        go_roundg (1 - 0)
        case measure => have := HS.out; omega
        case rel => exact ⟨1, by (rfl), ⟨by have := HS.out; omega⟩, ⟨HPUT.out _ (by repeat (first | exact Below.refl _ _ | apply pw_below_drewN))⟩, ⟨blk_far (by repeat (exact H4.out)) HNE.out _⟩⟩

end Go.Proofs.Ytogflbocmiogpaa.PFnLoads
