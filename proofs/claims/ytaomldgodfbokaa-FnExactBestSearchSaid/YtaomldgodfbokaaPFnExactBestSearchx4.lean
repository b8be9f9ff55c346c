-- Written for this claim by this session's turned copy of the printer.
import Derived.Test.YtaomldgodfbokaaPFnExactBestSearchx0
import Derived.Test.YtaomldgodfbokaaPFnExactBestSearchx1
import Derived.Test.YtaomldgodfbokaaPFnExactBestSearchx2
import Derived.Test.YtaomldgodfbokaaPFnExactBestSearchx3
namespace Go.Proofs.Ytaomldgodfbokaa.PFnExactBestSearch
open Go.RowKit Go.Proofs.YtaomldgodfbokaaW.PrintWords Go.Proofs.YtaomldgodfbokaaW.PrintLast Go.Proofs.YtaomldgodfbokaaW.PrintMore
attribute [local go_sem] max2_int min2_int max_two min_two max_three min_three max_four min_four   -- for this text's walks alone
set_option linter.unusedVariables false
set_option linter.unusedSimpArgs false

/-! ### spec_l1Own: function 80 -/
def spec_l1Own.f (l0 : List Int) : Option (List Int) := (some (([] : List Int) : List Int)).bind fun y140 => (if y140.length + l0.length < 17592186044416 then (some (y140 ++ l0)) else (none))
set_option maxHeartbeats 8000000 in
set_option maxRecDepth 100000 in
theorem spec_l1Own.calls (A0 : Option Addr) (c0 : Nat) (l0 : List Int) (r : List Int) (w : World) (hr0 : Kd.C (Kd.int .i64) w A0 l0.length l0) (hc0 : l0.length ≤ c0) (h : spec_l1Own.f l0 = some r) :
    Calls Try.prog 80 #[.slice A0 l0.length c0] w fun e w' => ∃ v0_ : Value, e = .returned (v0_) ∧ Kd.R (Kd.int .i64) 3 w' w.heap.size (fun _ => True) v0_ r ∧ Below w.heap.size w w' := by
  have HR0 := Aside0.mk hr0
  have HC0 := Aside0.mk hc0
  clear hr0 hc0
  have HB := Aside0.mk (Below.refl w.heap.size w)
  have H : ((some (([] : List Int) : List Int)).bind fun y140 => (if y140.length + l0.length < 17592186044416 then (some (y140 ++ l0)) else (none))) = some r := h
  clear h
  obtain ⟨y140, hy140⟩ : ∃ y_ : List Int, y_ = (([] : List Int)) := ⟨_, rfl⟩
  replace H : (if y140.length + l0.length < 17592186044416 then (some (y140 ++ l0)) else (none)) = some r := by first | (rw [hy140]; with_reducible exact H) | (have H2_ := (Option.bind_some _ _).symm.trans H; rw [hy140]; with_reducible exact H2_) | (have H2_ := (Option.bind_some _ _).symm.trans H; with_reducible exact H2_) | with_reducible exact H | (rw [hy140]; exact H) | exact H
  have Ny140 := Aside0.mk hy140
  clear hy140
  by_cases c2 : y140.length + l0.length < 17592186044416
  · rw [if_pos c2] at H
    have LMc2 := Aside0.mk c2
    clear c2
    obtain ⟨y143, hy143⟩ : ∃ y_ : List Int, y_ = (y140 ++ l0) := ⟨_, rfl⟩
    replace H : (some y143) = some r := by first | (rw [hy143]; with_reducible exact H) | (have H2_ := (Option.bind_some _ _).symm.trans H; rw [hy143]; with_reducible exact H2_) | (have H2_ := (Option.bind_some _ _).symm.trans H; with_reducible exact H2_) | with_reducible exact H | (rw [hy143]; exact H) | exact H
    have Ny143 := Aside0.mk hy143
    clear hy143
    obtain rfl := Option.some.inj H
    go_enter Try.func80, Try.ntmps80
    go_wp2_with (first | ((with_reducible refine gate_dst (N := 3) rfl ?_); refine Kd.R_lit (Kd.int .i64) _ 3 ?hg (N := 3) ?hd (xs := ([] : List Int)) (inner := []) (ok := fun _ => True) (okp := fun _ => True) ?hr ?hp (fun _ hk => hk) trivial (Below.refl _ _) (Nat.le_refl _) (by simp) ?_; (case hd => rfl); (case hg => rfl); (case hr => first | (go_simp; done) | (go_simp; rfl)); (case hp => exact (Reps.none _ _)); intro v141 w3 ho4 hb hg_ hnew_; clear hg_ hnew_; (first | rw [← Ny140.out] at ho4 | (simp only [Int.reduceToNat] at ho4; rw [← Ny140.out] at ho4)); have n0_ := Aside0.mk (Kd.R_lower ho4 (below_size (by repeat (first | (with_reducible first | exact HB.out | apply below_alloc | apply pw_below_drewN | apply below_drew1) | exact HB.out)))); have n1_ := Aside0.mk (below_step (by repeat (first | (with_reducible first | exact HB.out | apply below_alloc | apply pw_below_drewN | apply below_drew1) | exact HB.out)) hb); clear HB; have HO142 := n0_; have HB := n1_; clear n0_ n1_; clear hb ho4) | ((with_reducible refine gate_builtin (b := .append) (xs := #[.tmp 3, .tmp 4]) rfl ?_); at_builtin; refine Kd.R_append_rows (Kd.int .i64) (w0 := w) w.heap.size rfl (.tmp 3) (.tmp 4) 24 3 (.int .i64 0) 8 rfl Try.underlying24 info3 rfl (by decide) (by omega) v141 y140 l0 _ _ _ (fun _ => True) (fun _ => False) rfl rfl ?aO ?aR (fun _ _ h => h) (fun _ h => h.elim) ?aF ?aB ?aS ?aL ?_; (case aR => repeat (first | exact (Kd.C_below HR0.out HB.out) | (with_reducible refine Kd.C_alloc ?_ _) | (with_reducible refine Kd.C_drewN ?_ _) | (with_reducible refine Kd.C_drew ?_))); (case aB => exact (by repeat (first | (with_reducible first | exact HB.out | apply below_alloc | apply pw_below_drewN | apply below_drew1) | exact HB.out))); (case aF => exact (fun _ _ => trivial)); (case aO => exact (by (with_reducible repeat (first | apply Kd.R_alloc | apply Kd.R_drewN | apply Kd.R_drew)); exact HO142.out)); (case aS => exact (below_size (by repeat (first | (with_reducible first | exact HB.out | apply below_alloc | apply pw_below_drewN | apply below_drew1) | exact HB.out)))); (case aL => have := LMc2.out; omega); intro v144 w5 ho hb hg hat; rw [← Ny143.out] at ho; have n0_ := Aside0.mk (hb); have n1_ := Aside0.mk (ho); clear HB; clear HO142; have HB := n0_; have HO145 := n1_; clear n0_ n1_; clear ho hb hg hat))
    go_ret
    exact ⟨_, by first | rfl | (simp [errW_none, errW_some] <;> rfl) | (simp [*, errW_none, errW_some] <;> rfl), by (with_reducible repeat (first | apply Kd.R_alloc | apply Kd.R_drewN | apply Kd.R_drew)); exact HO145.out, by repeat (first | (with_reducible first | exact HB.out | apply below_alloc | apply pw_below_drewN | apply below_drew1) | exact HB.out)⟩
  · rw [if_neg c2] at H
    exact absurd H (by simp)

/-! ### spec_l3All: function 44 -/
/-! ### rows apart, told anew -/
theorem spec_l3All.retag {α : Type} {d : Kd α} {f : Nat → Nat} {e : Nat} {w : World} {base : Nat} {ok : Nat → Prop} {v : Value} {ps : List (α × Nat)} (h : (Kd.tag f d).R e w base ok v ps) (hn : (ps.map Prod.snd).Nodup) : Kd.S d e w base ok v (ps.map Prod.fst) := by
  obtain ⟨h0, inner, ho, hr⟩ := h
  refine ⟨fun k => (ps.map Prod.snd).idxOf (f k), h0, inner, ?_, ?_, fun j p hj => ?_⟩
  · rw [List.length_zipIdx, List.length_map]; exact ho
  · rw [List.length_zipIdx, List.length_map]; exact hr.1
  · rw [List.getElem?_zipIdx, Nat.zero_add] at hj
    obtain ⟨q, hq, rfl⟩ := Option.map_eq_some_iff.1 hj
    rw [List.getElem?_map] at hq
    obtain ⟨p, hp, rfl⟩ := Option.map_eq_some_iff.1 hq
    obtain ⟨hpl, hpe⟩ := List.getElem?_eq_some_iff.1 hp
    have hjl : j < (ps.map Prod.snd).length := by rw [List.length_map]; exact hpl
    have hx : (ps.map Prod.snd)[j] = p.2 := by rw [List.getElem_map, hpe]
    exact d.M_mono (fun k hk => ⟨hk.1, by show (ps.map Prod.snd).idxOf (f k) = j; rw [hk.2, ← hx]; exact List.Nodup.idxOf_getElem hn j hjl⟩) (hr.2 j p hp)
theorem spec_l3All.info : (Try.prog.info? 24).map (fun i => (i.zero, i.size, i.bytes)) = some (some (.slice none 0 0), 1, 24) := by kernel_rfl
theorem spec_l3All.infoI : (Try.prog.info? 3).map (fun i => (i.zero, i.size, i.bytes)) = some (some (.int .i64 0), 1, 8) := by kernel_rfl
mutual
def spec_l3More.l0 : Nat → Int → List Int → List (List Int) → Int → Int → Bool → Option (List (List Int))
  | 0, _, _, _, _, _, _ => none
  | k + 1, x1, x2, x3, x9, n, g => if x9 < n then ((spec_l3Next.f k n g x1 x2 x9).bind fun t158 => (if t158 = true then ((spec_l1Own.f x2).bind fun t159 => (if t159.length + 1 < 1048576 then ((spec_l3More.f k n g x1 (t159 ++ [x9]) x3).bind fun t168 => (spec_l3More.l0 k x1 x2 t168 (wrap64 (x9 + 1)) n g)) else none)) else (spec_l3More.l0 k x1 x2 x3 (wrap64 (x9 + 1)) n g))) else (some x3)
def spec_l3More.f : Nat → Int → Bool → Int → List Int → List (List Int) → Option (List (List Int))
  | 0, _, _, _, _, _ => none
  | k + 1, n, g, a1, l2, a3 => (spec_l3Search.f k n g a1 l2).bind fun t157 => (if t157 = true then (if a3.length < 1048576 then (some (a3 ++ [l2])) else none) else (spec_l3More.l0 k a1 l2 a3 0 n g))
end
def spec_l3More.T7 : Bool × List (List Nat × List Nat) := (true, [([], []), ([], []), ([], []), ([2], [2]), ([], []), ([4], [4]), ([3, 5, 3], [3, 5]), ([], []), ([0, 1, 6, 7, 6], [0, 1, 6, 7]), ([8, 8, 0, 1, 2, 3, 4, 5, 6, 7, 8], [7, 8])])
def spec_l3More.B7 : List Nat := [0, 0, 0, 4, 0, 16, 60, 0, 255, 511]
theorem spec_l3More.tab7 : rtab .any (opsOf Try.f64 7) = spec_l3More.T7 := by kernel_rfl
theorem spec_l3More.bits7 : waitsOk spec_l3More.T7.2 spec_l3More.B7 = true := by kernel_rfl
set_option maxHeartbeats 8000000 in
set_option maxRecDepth 100000 in
theorem spec_l3More.calls (k : Nat) : ∀ (n : Int) (g : Bool) (a1 : Int) (A2 : Option Addr) (c2 : Nat) (l2 : List Int) (v3 : Value) (a3 r : List (List Int)) (ok : Nat → Prop) (w0 w : World) (hB0 : Below w0.heap.size w0 w) (hr2 : Kd.R (Kd.int .i64) 3 w w0.heap.size (fun k_ => some k_ = (.slice A2 l2.length c2 : Value).ownBlock) (.slice A2 l2.length c2) l2)
    (h3 : Kd.S (Kd.slice 3 (Kd.int .i64)) 24 w w0.heap.size (fun k_ => ok k_ ∧ some k_ ≠ (.slice A2 l2.length c2 : Value).ownBlock) v3 a3) (hok : ∀ k_, w.heap.size ≤ k_ → ok k_) (hok2 : ∀ k_, some k_ = (.slice A2 l2.length c2 : Value).ownBlock → ok k_) (h : spec_l3More.f k n g a1 l2 a3 = some r),
    Calls Try.prog 64 #[.agg #[.int .i64 n, .bool g], .int .i64 a1, .slice A2 l2.length c2, v3] w fun e w' => ∃ v, e = .returned v ∧ Kd.S (Kd.slice 3 (Kd.int .i64)) 24 w' w0.heap.size ok v r ∧ Below w0.heap.size w0 w' ∧ Kept w w' (fun k_ => ok k_ ∧ some k_ ≠ (.slice A2 l2.length c2 : Value).ownBlock) := by
  induction k using Nat.strongRecOn with
  | _ k ih =>
  intro n g a1 A2 c2 l2 v3 a3 r ok w0 w hB0 hr2 h3 hok hok2 h
  cases k with
  | zero => exact absurd h (by simp [spec_l3More.f])
  | succ k =>
  simp only [spec_l3More.f] at h
  have hu27 := Try.underlying27
  have HR2 := Aside0.mk (Kd.R_reads' hr2).2.2
  have HC2 := Aside0.mk (Kd.R_reads' hr2).2.1
  have HLT := Aside0.mk (Kd.R_lt hr2)
  have HR := Aside0.mk hr2
  have HS := Aside0.mk h3
  have HB0 := Aside0.mk hB0
  have HOK := Aside0.mk hok
  have HOK2 := Aside0.mk hok2
  have HIH := Aside0.mk ih
  have HB := Aside0.mk (Below.refl w.heap.size w)
  clear hr2 h3 hB0 hok hok2 ih
  obtain ⟨t157, A50, H⟩ := Option.bind_eq_some_iff.mp h
  clear h
  have A5 := Aside0.mk A50
  clear A50
  cases t157 with
  | true =>
    rw [if_pos rfl] at H
    by_cases c7 : a3.length < 1048576
    rotate_left
    · rw [if_neg c7] at H; cases H
    rw [if_pos c7] at H
    obtain rfl := Option.some.inj H
    clear H
    have LM := Aside0.mk c7
    clear c7
    go_enter Try.func64, Try.ntmps64
    go_wp2_with (first | ((with_reducible refine gate_dst (N := 4) rfl ?_); refine box_event ?hg (N := 4) ?hd (cs := #[.int .i64 n, .bool g]) (t := 27) ?hr ?_; (case hd => rfl); (case hg => rfl); (case hr => first | (go_simp; done) | (go_simp; rfl)); intro gb hg w7 hbox hb; have n0_ := Aside0.mk (below_step (by repeat (first | (with_reducible first | exact HB.out | apply below_alloc | apply pw_below_drewN | apply below_drew1) | exact HB.out)) hb); have BK := Aside0.mk hbox; have GE := Aside0.mk ((by rw [hg]; exact below_size (by repeat (first | (with_reducible first | exact HB.out | apply below_alloc | apply pw_below_drewN | apply below_drew1) | exact HB.out))) : w.heap.size ≤ gb); clear HB; have HB := n0_; clear n0_ hb hbox hg; have hcz0 : w7.cell? ⟨gb, 0, none⟩ = some (.int .i64 n) := (blk_cell BK.out 0).trans rfl; have hcz1 : w7.cell? ⟨gb, 1, none⟩ = some (.bool g) := (blk_cell BK.out 1).trans rfl; have hfz0 := blk_frozen BK.out 0; have hfz1 := blk_frozen BK.out 1) | ((with_reducible refine gate_callee (f := 56) rfl ?_); refine goesL_ (some 13) rfl rfl Try.func56 (by kernel_rfl) rfl #[.agg #[.int .i64 n, .bool g], .int .i64 a1, .slice A2 l2.length c2] rfl (by (try simp only [List.map_toArray, List.map_cons, List.map_nil]); first | done | rfl) ?_; (with_reducible refine (spec_l3Search.calls k n g a1 _ _ l2 true _ ?side1 ?side2 A5.out).mono ?_); (case side1 => exact Kd.C_below HR2.out (by repeat (first | (with_reducible first | exact HB.out | apply below_alloc | apply pw_below_drewN | apply below_drew1) | exact HB.out))); (case side2 => exact HC2.out); rintro e w9 ⟨rfl, hb⟩; refine ⟨_, rfl, ?_⟩; have n0_ := Aside0.mk (blk_below BK.out hb); have n1_ := Aside0.mk (below_step (by repeat (first | (with_reducible first | exact HB.out | apply below_alloc | apply pw_below_drewN | apply below_drew1) | exact HB.out)) hb); clear BK HB hb; have BK := n0_; have HB := n1_; clear n0_ n1_) | ((with_reducible refine gate_builtin (b := .append) (xs := #[.tmp 14, .tmp 16]) rfl ?_); at_builtin; refine Kd.S_append (Kd.slice 3 (Kd.int .i64)) (w0 := w0) w0.heap.size rfl (.tmp 14) (.tmp 16) 38 24 (.slice none 0 0) 24 rfl Try.underlying38 spec_l3All.info rfl (by decide) (by omega) v3 a3 l2 [.slice A2 l2.length c2] ok (fun k_ => some k_ = (.slice A2 l2.length c2 : Value).ownBlock) rfl rfl ?aP ?aK ?aF ?aO ?aB ?aS ?aL ?_; (case aP => exact ⟨_, rfl, Kd.R_below HR.out (by repeat (first | (with_reducible first | exact HB.out | apply below_alloc | apply pw_below_drewN | apply below_drew1) | exact HB.out))⟩); (case aK => exact fun k_ e_ => ⟨HOK2.out k_ e_, fun e2_ => ((Kd.S_R HS.out).1 k_ e2_.symm).2 e_⟩); (case aF => exact fun k_ h_ => HOK.out k_ (Nat.le_trans (below_size (by repeat (first | (with_reducible first | exact HB.out | apply below_alloc | apply pw_below_drewN | apply below_drew1) | exact HB.out))) h_)); (case aO => exact Kd.S_below HS.out (by repeat (first | (with_reducible first | exact HB.out | apply below_alloc | apply pw_below_drewN | apply below_drew1) | exact HB.out))); (case aB => exact below_weaken HB0.out (below_size HB0.out) (by repeat (first | (with_reducible first | exact HB.out | apply below_alloc | apply pw_below_drewN | apply below_drew1) | exact HB.out))); (case aS => exact Nat.le_trans (below_size HB0.out) (below_size (by repeat (first | (with_reducible first | exact HB.out | apply below_alloc | apply pw_below_drewN | apply below_drew1) | exact HB.out)))); (case aL => have := LM.out; omega); intro v1 w1 hs hb hg hat; have HN := Aside0.mk hs; have HNB := Aside0.mk hb; have HNK := Aside0.mk (Kept.of_grown hg (Kept.of_below (by repeat (first | (with_reducible first | exact HB.out | apply below_alloc | apply pw_below_drewN | apply below_drew1) | exact HB.out)) (fun k_ => ok k_ ∧ some k_ ≠ (.slice A2 l2.length c2 : Value).ownBlock)) (fun k_ e_ => .inl ((Kd.S_R HS.out).1 k_ e_))); clear hs hb hg hat))
    go_ret
    exact ⟨_, rfl, HN.out, HNB.out, HNK.out⟩
  | false =>
    rw [if_neg (show ¬ (false = true) by decide)] at H
    have H' := Aside0.mk H
    clear H
    go_enter Try.func64, Try.ntmps64
    go_wp2_with (first | ((with_reducible refine gate_dst (N := 4) rfl ?_); refine box_event ?hg (N := 4) ?hd (cs := #[.int .i64 n, .bool g]) (t := 27) ?hr ?_; (case hd => rfl); (case hg => rfl); (case hr => first | (go_simp; done) | (go_simp; rfl)); intro gb hg w7 hbox hb; have n0_ := Aside0.mk (below_step (by repeat (first | (with_reducible first | exact HB.out | apply below_alloc | apply pw_below_drewN | apply below_drew1) | exact HB.out)) hb); have BK := Aside0.mk hbox; have GE := Aside0.mk ((by rw [hg]; exact below_size (by repeat (first | (with_reducible first | exact HB.out | apply below_alloc | apply pw_below_drewN | apply below_drew1) | exact HB.out))) : w.heap.size ≤ gb); clear HB; have HB := n0_; clear n0_ hb hbox hg; have hcz0 : w7.cell? ⟨gb, 0, none⟩ = some (.int .i64 n) := (blk_cell BK.out 0).trans rfl; have hcz1 : w7.cell? ⟨gb, 1, none⟩ = some (.bool g) := (blk_cell BK.out 1).trans rfl; have hfz0 := blk_frozen BK.out 0; have hfz1 := blk_frozen BK.out 1) | ((with_reducible refine gate_callee (f := 56) rfl ?_); refine goesL_ (some 13) rfl rfl Try.func56 (by kernel_rfl) rfl #[.agg #[.int .i64 n, .bool g], .int .i64 a1, .slice A2 l2.length c2] rfl (by (try simp only [List.map_toArray, List.map_cons, List.map_nil]); first | done | rfl) ?_; (with_reducible refine (spec_l3Search.calls k n g a1 _ _ l2 false _ ?side1 ?side2 A5.out).mono ?_); (case side1 => exact Kd.C_below HR2.out (by repeat (first | (with_reducible first | exact HB.out | apply below_alloc | apply pw_below_drewN | apply below_drew1) | exact HB.out))); (case side2 => exact HC2.out); rintro e w9 ⟨rfl, hb⟩; refine ⟨_, rfl, ?_⟩; have n0_ := Aside0.mk (blk_below BK.out hb); have n1_ := Aside0.mk (below_step (by repeat (first | (with_reducible first | exact HB.out | apply below_alloc | apply pw_below_drewN | apply below_drew1) | exact HB.out)) hb); clear BK HB hb; have BK := n0_; have HB := n1_; clear n0_ n1_))
    have n0_ := Aside0.mk (show Kd.S (Kd.slice 3 (Kd.int .i64)) 24 _ w0.heap.size (fun k_ => (ok k_ ∧ some k_ ≠ (.slice A2 l2.length c2 : Value).ownBlock) ∧ k_ ≠ gb) v3 a3 from Kd.S_mono (Kd.S_old HS.out HB.out) (fun k_ h_ => ⟨h_.1, fun e_ => by have := GE.out; have := h_.2; omega⟩))
    have n1_ := Aside0.mk (Kd.R_below HR.out HB.out)
    have n2_ := Aside0.mk (below_weaken HB0.out (below_size HB0.out) HB.out)
    have n3_ := Aside0.mk (Kept.of_below HB.out (fun k_ => ok k_ ∧ some k_ ≠ (.slice A2 l2.length c2 : Value).ownBlock))
    clear HS HR HB HR2 HB0
    have HS := n0_
    have HR := n1_
    have HBB := n2_
    have HKP := n3_
    clear n0_ n1_ n2_ n3_
    go_loopg [3, 9] k (fun kq u3 v9 w' => ∃ (x3 : List (List Int)) (x9 : Int), v9 = .int .i64 x9 ∧ Aside0 (spec_l3More.l0 kq a1 l2 x3 x9 n g = some r) ∧ Aside0 (kq ≤ k) ∧ Aside0 (Kd.S (Kd.slice 3 (Kd.int .i64)) 24 w' w0.heap.size (fun k_ => (ok k_ ∧ some k_ ≠ (.slice A2 l2.length c2 : Value).ownBlock) ∧ k_ ≠ gb) u3 x3) ∧ Aside0 (Kd.R (Kd.int .i64) 3 w' w0.heap.size (fun k_ => some k_ = (.slice A2 l2.length c2 : Value).ownBlock) (.slice A2 l2.length c2) l2) ∧ Aside0 (w'.heap[gb]? = some (.cells #[.int .i64 n, .bool g] 27 (0, 0))) ∧ Aside0 (Below w0.heap.size w0 w') ∧ Aside0 (Kept w w' (fun k_ => ok k_ ∧ some k_ ≠ (.slice A2 l2.length c2 : Value).ownBlock)))
    case atStart => exact ⟨a3, 0, rfl, H', ⟨Nat.le_refl _⟩, HS, HR, BK, HBB, HKP⟩
    case round =>
      clear H' HS HR BK HBB HKP
      try clear hcz0
      try clear hcz1
      try clear hfz0
      try clear hfz1
      obtain ⟨x3, x9, rfl, HA, HK1, HS, HR, BK, HBB, HKP⟩ := hrel
      have HR2 := Aside0.mk (Kd.R_reads' HR.out).2.2
      have HB := Aside0.mk (Below.refl wr.heap.size wr)
      have HFR := Aside0.mk (show ∀ k_, wr.heap.size ≤ k_ → (fun k_ => (ok k_ ∧ some k_ ≠ (.slice A2 l2.length c2 : Value).ownBlock) ∧ k_ ≠ gb) k_ from fun k_ h_ => ⟨⟨HOK.out k_ (Nat.le_trans HKP.out.1 h_), fun e_ => by have := HLT.out k_ e_.symm; have := HKP.out.1; omega⟩, fun e_ => by have := blk_lt BK.out; omega⟩)
      have hcz0 : wr.cell? ⟨gb, 0, none⟩ = some (.int .i64 n) := (blk_cell BK.out 0).trans rfl
      have hcz1 : wr.cell? ⟨gb, 1, none⟩ = some (.bool g) := (blk_cell BK.out 1).trans rfl
      have hfz0 := blk_frozen BK.out 0
      have hfz1 := blk_frozen BK.out 1
      cases gk with
      | zero => exact absurd HA.out (by simp [spec_l3More.l0])
      | succ k1 =>
        have H := HA.out
        clear HA
        simp only [spec_l3More.l0] at H
        by_cases c13 : x9 < n
        · rw [if_pos c13] at H
          have c13b0 : decide (x9 < n) = true := decide_eq_true c13
          clear c13
          obtain ⟨t158, A140, H⟩ := Option.bind_eq_some_iff.mp H
          have A14 := Aside0.mk A140
          clear A140
          cases t158 with
          | true =>
            rw [if_pos rfl] at H
            obtain ⟨t159, A160, H⟩ := Option.bind_eq_some_iff.mp H
            have A16 := Aside0.mk A160
            clear A160
            by_cases c17 : t159.length + 1 < 1048576
            rotate_left
            · rw [if_neg c17] at H; cases H
            rw [if_pos c17] at H
            have LM := Aside0.mk c17
            clear c17
            obtain ⟨t168, A180, H⟩ := Option.bind_eq_some_iff.mp H
            have A18 := Aside0.mk A180
            clear A180
            have H' := Aside0.mk H
            clear H
            have HS0 := HS
            have HR0 := HR
            have BK0 := BK
            try go_wp2_with (first | ((with_reducible refine gate_callee (f := 79) rfl ?_); refine goesL_ (some 28) rfl rfl Try.func79 (by kernel_rfl) rfl #[.agg #[.int .i64 n, .bool g], .int .i64 a1, .slice A2 l2.length c2, .int .i64 x9] rfl (by (try simp only [List.map_toArray, List.map_cons, List.map_nil]); first | done | rfl) ?_; (with_reducible refine (spec_l3Next.calls k1 n g a1 _ _ l2 x9 true _ ?side1 ?side2 A14.out).mono ?_); (case side1 => exact Kd.C_below HR2.out (by repeat (first | (with_reducible first | exact HB.out | apply below_alloc | apply pw_below_drewN | apply below_drew1) | exact HB.out))); (case side2 => exact HC2.out); rintro e w9 ⟨rfl, hb⟩; refine ⟨_, rfl, ?_⟩; have n0_ := Aside0.mk (blk_below BK.out hb); have n1_ := Aside0.mk (below_step (by repeat (first | (with_reducible first | exact HB.out | apply below_alloc | apply pw_below_drewN | apply below_drew1) | exact HB.out)) hb); clear BK HB hb; have BK := n0_; have HB := n1_; clear n0_ n1_))
            have n0_ := Aside0.mk (blk_drew BK.out)
            have n1_ := Aside0.mk (below_drew1 HB.out)
            clear BK HB
            have BK := n0_
            have HB := n1_
            clear n0_ n1_
            refine start_ (n := 10) (S := fun w' => w'.cell? ⟨gb, 0, none⟩ = some (.int .i64 n) ∧ w'.cell? ⟨gb, 1, none⟩ = some (.bool g)) (ds := []) #[false, false, false, false, false, false, false, false, false, false] (by kernel_rfl) rfl rfl ⟨(blk_cell BK.out 0).trans rfl, (blk_cell BK.out 1).trans rfl⟩ (fun hHeld => ?_); refine with_tabW spec_l3More.tab7 spec_l3More.bits7 (fun HT_ HW_ => ?_)
            generalize w9.drew = w21 at BK HB hHeld ⊢
            refine pure_ (i := 1) (N := some 30) (v := ?_) (a' := ?_) #[false, true, false, false, false, false, false, false, false, false] rfl rfl (any_of HT_.out (by kernel_rfl)) (fun _ _ _ h => h) (Or.inl ⟨by rfl, ?_⟩) ?_ ?_
            rotate_left
            · intro w'
              go_simp
              with_reducible rfl
            rotate_left
            · simp only [Act.put, List.setIfInBounds_toArray, List.set_cons_zero, List.set_cons_succ, i64_w, i32_w]
              rfl
            refine pure_ (i := 2) (N := some 31) (v := ?_) (a' := ?_) #[false, true, true, false, false, false, false, false, false, false] rfl rfl (any_of HT_.out (by kernel_rfl)) (fun _ _ _ h => h) (Or.inl ⟨by rfl, ?_⟩) ?_ ?_
            rotate_left
            · intro w'
              go_simp
              with_reducible rfl
            rotate_left
            · simp only [Act.put, List.setIfInBounds_toArray, List.set_cons_zero, List.set_cons_succ, i64_w, i32_w]
              rfl
            refine pure_ (i := 4) (N := some 33) (v := ?_) (a' := ?_) #[false, true, true, false, true, false, false, false, false, false] rfl rfl (any_of HT_.out (by kernel_rfl)) (fun _ _ _ h => h) (Or.inl ⟨by rfl, ?_⟩) ?_ ?_
            rotate_left
            · intro w'
              go_simp
              with_reducible rfl
            rotate_left
            · simp only [Act.put, List.setIfInBounds_toArray, List.set_cons_zero, List.set_cons_succ, i64_w, i32_w]
              rfl
            refine pure_ (i := 7) (N := some 36) (v := ?_) (a' := ?_) #[false, true, true, false, true, false, false, true, false, false] rfl rfl (any_of HT_.out (by kernel_rfl)) (fun _ _ _ h => h) (Or.inl ⟨by rfl, ?_⟩) ?_ ?_
            rotate_left
            · intro w'
              go_simp
              with_reducible rfl
            rotate_left
            · simp only [Act.put, List.setIfInBounds_toArray, List.set_cons_zero, List.set_cons_succ, i64_w, i32_w]
              rfl
            refine take_ (i := 0) (N := some 29) (v := ?_) (a' := ?_) #[true, true, true, false, true, false, false, true, false, false] rfl rfl (take_ofW HT_.out HW_.out (by kernel_rfl)) (fun _ _ _ h => h) (Or.inl ⟨by rfl, ?_⟩) hHeld ?_ ?_
            rotate_left
            · rintro w' ⟨s0, s1⟩
              go_simp
              with_reducible rfl
            rotate_left
            · simp only [Act.put, List.setIfInBounds_toArray, List.set_cons_zero, List.set_cons_succ, i64_w, i32_w]
              rfl
            refine join_ (σ := Value × Value) 3 #[true, true, true, true, true, true, false, true, false, false] (fun s_ => [(32, s_.1), (34, s_.2)]) (fun s_ w' => (w'.cell? ⟨gb, 0, none⟩ = some (.int .i64 n) ∧ w'.cell? ⟨gb, 1, none⟩ = some (.bool g)) ∧ (Kd.R (Kd.int .i64) 3 w' wr.heap.size (fun k_ => some k_ ≠ (s_.2 : Value).ownBlock) s_.1 t159) ∧ (Kd.R (Kd.int .i64) 3 w' wr.heap.size (fun k_ => some k_ ≠ (s_.1 : Value).ownBlock) s_.2 [x9]) ∧ (w'.heap[gb]? = some (.cells #[.int .i64 n, .bool g] 27 (0, 0))) ∧ (Below wr.heap.size wr w')) ?_ ?_
            rotate_left
            · intro hCont
              refine two_ (i := 3) (j := 5) (Ni := some 32) (Nj := some 34) #[true, true, true, true, true, false, false, true, false, false] #[true, true, true, false, true, true, false, true, false, false] rfl rfl rfl rfl (two_of HT_.out (by kernel_rfl)) (by decide) (by decide) (fun K hK => ?_) (fun K hK => ?_)
              · skip
                refine goes_ Try.func80 (by kernel_rfl) rfl #[.slice A2 l2.length c2] (by rfl) rfl rfl (by (try simp only [List.map_toArray, List.map_cons, List.map_nil]); first | done | rfl) ?_
                with_reducible refine (spec_l1Own.calls _ _ l2 t159 _ ?side1 ?side2 A16.out).mono ?_
                (case side1 => exact Kd.C_below HR2.out HB.out)
                (case side2 => exact HC2.out)
                rintro e w22 ⟨v160, rfl, ho0, hb⟩
                refine ⟨_, rfl, ?_⟩
                have HO161 := Aside0.mk (Kd.R_lower ho0 (below_size HB.out))
                clear ho0
                have n2_ := Aside0.mk (blk_below BK.out hb)
                have n3_ := Aside0.mk (below_step HB.out hb)
                clear BK HB hb
                have BK := n2_
                have HB := n3_
                clear n2_ n3_
                refine hK.out _ _ ⟨(blk_cell BK.out 0).trans rfl, (blk_cell BK.out 1).trans rfl⟩ (fun hHeld => ?_)
                clear hK K
                refine norm_ (a' := ?_) ?_ ?_
                rotate_left
                · show Act.put _ (some 32) _ = _
                  simp only [Act.put, List.setIfInBounds_toArray, List.set_cons_zero, List.set_cons_succ, i64_w, i32_w]
                  rfl
                refine one_ (i := 5) (N := some 34) #[true, true, true, true, true, true, false, true, false, false] rfl rfl (one_of HT_.out (by kernel_rfl)) (by decide) (fun K hK => ?_)
                refine Kd.R_lit_step (Kd.int .i64) _ 3 ?hg (N := 34) ?hd (xs := ([x9] : List Int)) (inner := [.int .i64 x9]) (ok := fun _ => True) (okp := fun _ => True) ?hr ?hp (fun _ hk => hk) trivial (Below.refl _ _) (Nat.le_refl _) (by simp) ?_; (case hd => rfl); (case hg => rfl); (case hr => first | (go_simp; done) | (go_simp; rfl)); (case hp => exact (Reps.one (show Kd.M (Kd.int .i64) _ _ _ x9 [.int .i64 x9] from rfl) (Reps.none _ _)))
                intro v163 w23 ho24 hb hg_ hnew_
                clear hg_ hnew_
                have n0_ := Aside0.mk (Kd.R_elder' HO161.out (Kd.R_base ho24) hb)
                have HO164 := Aside0.mk (Kd.R_lower (Kd.R_new' ho24 (Kd.R_lt HO161.out)) (below_size HB.out))
                clear HO161 ho24
                have HO161 := n0_
                clear n0_
                have n2_ := Aside0.mk (blk_below BK.out hb)
                have n3_ := Aside0.mk (below_step HB.out hb)
                clear BK HB hb
                have BK := n2_
                have HB := n3_
                clear n2_ n3_
                refine hK.out _ _ ⟨(blk_cell BK.out 0).trans rfl, (blk_cell BK.out 1).trans rfl⟩ (fun hHeld => ?_)
                clear hK K
                refine norm_ (a' := ?_) ?_ ?_
                rotate_left
                · show Act.put _ (some 34) _ = _
                  simp only [Act.put, List.setIfInBounds_toArray, List.set_cons_zero, List.set_cons_succ, i64_w, i32_w]
                  rfl
                exact norm_ (by simp only [putAll, Act.put, List.setIfInBounds_toArray, List.set_cons_zero, List.set_cons_succ]) (hCont (v160, v163) _ ⟨hHeld, Kd.R_mono HO161.out (fun _ hk => hk.2), Kd.R_mono HO164.out (fun _ hk => hk.2), BK.out, HB.out⟩)
              · skip
                refine Kd.R_lit_step (Kd.int .i64) _ 3 ?hg (N := 34) ?hd (xs := ([x9] : List Int)) (inner := [.int .i64 x9]) (ok := fun _ => True) (okp := fun _ => True) ?hr ?hp (fun _ hk => hk) trivial (Below.refl _ _) (Nat.le_refl _) (by simp) ?_; (case hd => rfl); (case hg => rfl); (case hr => first | (go_simp; done) | (go_simp; rfl)); (case hp => exact (Reps.one (show Kd.M (Kd.int .i64) _ _ _ x9 [.int .i64 x9] from rfl) (Reps.none _ _)))
                intro v163 w23 ho24 hb hg_ hnew_
                clear hg_ hnew_
                have HO164 := Aside0.mk (Kd.R_lower ho24 (below_size HB.out))
                clear ho24
                have n2_ := Aside0.mk (blk_below BK.out hb)
                have n3_ := Aside0.mk (below_step HB.out hb)
                clear BK HB hb
                have BK := n2_
                have HB := n3_
                clear n2_ n3_
                refine hK.out _ _ ⟨(blk_cell BK.out 0).trans rfl, (blk_cell BK.out 1).trans rfl⟩ (fun hHeld => ?_)
                clear hK K
                refine norm_ (a' := ?_) ?_ ?_
                rotate_left
                · show Act.put _ (some 34) _ = _
                  simp only [Act.put, List.setIfInBounds_toArray, List.set_cons_zero, List.set_cons_succ, i64_w, i32_w]
                  rfl
                refine one_ (i := 3) (N := some 32) #[true, true, true, true, true, true, false, true, false, false] rfl rfl (one_of HT_.out (by kernel_rfl)) (by decide) (fun K hK => ?_)
                refine goes_ Try.func80 (by kernel_rfl) rfl #[.slice A2 l2.length c2] (by rfl) rfl rfl (by (try simp only [List.map_toArray, List.map_cons, List.map_nil]); first | done | rfl) ?_
                with_reducible refine (spec_l1Own.calls _ _ l2 t159 _ ?side1 ?side2 A16.out).mono ?_
                (case side1 => exact Kd.C_below HR2.out HB.out)
                (case side2 => exact HC2.out)
                rintro e w22 ⟨v160, rfl, ho0, hb⟩
                refine ⟨_, rfl, ?_⟩
                have n0_ := Aside0.mk (Kd.R_elder' HO164.out (Kd.R_base ho0) hb)
                have HO161 := Aside0.mk (Kd.R_lower (Kd.R_new' ho0 (Kd.R_lt HO164.out)) (below_size HB.out))
                clear HO164 ho0
                have HO164 := n0_
                clear n0_
                have n2_ := Aside0.mk (blk_below BK.out hb)
                have n3_ := Aside0.mk (below_step HB.out hb)
                clear BK HB hb
                have BK := n2_
                have HB := n3_
                clear n2_ n3_
                refine hK.out _ _ ⟨(blk_cell BK.out 0).trans rfl, (blk_cell BK.out 1).trans rfl⟩ (fun hHeld => ?_)
                clear hK K
                refine norm_ (a' := ?_) ?_ ?_
                rotate_left
                · show Act.put _ (some 32) _ = _
                  simp only [Act.put, List.setIfInBounds_toArray, List.set_cons_zero, List.set_cons_succ, i64_w, i32_w]
                  rfl
                exact norm_ (by simp only [putAll, Act.put, List.setIfInBounds_toArray, List.set_cons_zero, List.set_cons_succ]) (hCont (v160, v163) _ ⟨hHeld, Kd.R_mono HO161.out (fun _ hk => hk.2), Kd.R_mono HO164.out (fun _ hk => hk.2), BK.out, HB.out⟩)
            rintro ⟨v160, v163⟩ w25 ⟨hS_, h0_, h1_, h2_, h3_⟩
            clear BK HB
            have HO161 : Aside0 (Kd.R (Kd.int .i64) 3 w25 wr.heap.size (fun k_ => some k_ ≠ (v163 : Value).ownBlock) v160 t159) := ⟨h0_⟩
            have HO164 : Aside0 (Kd.R (Kd.int .i64) 3 w25 wr.heap.size (fun k_ => some k_ ≠ (v160 : Value).ownBlock) v163 [x9]) := ⟨h1_⟩
            have BK : Aside0 (w25.heap[gb]? = some (.cells #[.int .i64 n, .bool g] 27 (0, 0))) := ⟨h2_⟩
            have HB : Aside0 (Below wr.heap.size wr w25) := ⟨h3_⟩
            clear h0_ h1_ h2_ h3_
            have hHeld : w25.cell? ⟨gb, 0, none⟩ = some (.int .i64 n) ∧ w25.cell? ⟨gb, 1, none⟩ = some (.bool g) := hS_
            clear hS_
            obtain ⟨Ao27, co27, eo27⟩ := Kd.R_slice HO164.out
            subst eo27
            refine norm_ (a' := ?_) ?_ ?_
            rotate_left
            · simp only [putAll, Act.put, List.setIfInBounds_toArray, List.set_cons_zero, List.set_cons_succ]
              rfl
            refine one_ (i := 6) (N := some 35) #[true, true, true, true, true, true, true, true, false, false] rfl rfl (one_of HT_.out (by kernel_rfl)) (by decide) (fun K hK => ?_)
            refine Kd.R_append_rows_step (Kd.int .i64) (w0 := wr) wr.heap.size (by rfl) (.tmp 32) (.tmp 34) 24 3 (.int .i64 0) 8 rfl Try.underlying24 spec_l3All.infoI rfl (by decide) (by omega) v160 t159 [x9] _ _ _ (fun k_ => some k_ ≠ (.slice Ao27 [x9].length co27 : Value).ownBlock) (fun _ => False) rfl rfl ?aO ?aR (fun _ _ h => h) (fun _ h => h.elim) ?aF ?aB ?aS ?aL ?_
            (case aR => exact (Kd.R_reads' HO164.out).2.2)
            (case aB => exact HB.out)
            (case aF => exact (fun k_ hk => Kd.fresh' (Kd.R_lt HO164.out) k_ hk))
            (case aO => exact HO161.out)
            (case aS => exact below_size HB.out)
            (case aL => have := LM.out; simp only [List.length_cons, List.length_nil]; omega)
            intro v166 w26 ho hb hg hat
            have n0_ := Aside0.mk (blk_grown BK.out hg (Kd.R_ne HO161.out BK.out (by decide)))
            clear BK HB HO161 HO164 hg hat
            have BK := n0_
            have HB := Aside0.mk hb
            have HO167 := Aside0.mk ho
            clear n0_ hb ho
            obtain ⟨Ao28, co28, eo28⟩ := Kd.R_slice HO167.out
            subst eo28
            refine hK.out _ _ ⟨(blk_cell BK.out 0).trans rfl, (blk_cell BK.out 1).trans rfl⟩ (fun hHeld => ?_)
            clear hK K
            refine norm_ (a' := ?_) ?_ ?_
            rotate_left
            · show Act.put _ (some 35) _ = _
              simp only [Act.put, List.setIfInBounds_toArray, List.set_cons_zero, List.set_cons_succ, i64_w, i32_w]
              rfl
            refine one_ (i := 8) (N := some 37) #[true, true, true, true, true, true, true, true, true, false] rfl rfl (one_of HT_.out (by kernel_rfl)) (by decide) (fun K hK => ?_)
            refine goes_ Try.func64 (by kernel_rfl) rfl #[.agg #[.int .i64 n, .bool g], .int .i64 a1, .slice Ao28 (t159 ++ [x9]).length co28, u3] (by rfl) rfl rfl (by (try simp only [List.map_toArray, List.map_cons, List.map_nil]); first | done | rfl) ?_
            with_reducible refine (HIH.out k1 (by have := HK1.out; omega) n g a1 _ _ (t159 ++ [x9]) u3 x3 t168 (fun k_ => (ok k_ ∧ some k_ ≠ (.slice A2 l2.length c2 : Value).ownBlock) ∧ k_ ≠ gb) w0 _ ?s1 ?s2 ?s3 ?s4 ?s5 A18.out).mono ?_
            (case s1 => exact below_weaken HBB.out (below_size HBB.out) HB.out)
            (case s2 => exact Kd.R_tight rfl (Kd.R_lower HO167.out (below_size HBB.out)))
            (case s3 => exact Kd.S_mono (Kd.S_old HS.out HB.out) (fun k_ hk => ⟨hk.1, fun e_ => by have := Kd.R_base HO167.out k_ e_.symm; have := hk.2; omega⟩))
            (case s4 => exact fun k_ hk => HFR.out k_ (Nat.le_trans (below_size HB.out) hk))
            (case s5 => exact fun k_ e_ => HFR.out k_ (Kd.R_base HO167.out k_ e_.symm))
            rintro e w29 ⟨v168, rfl, hs, hbb, hk⟩
            refine ⟨_, rfl, ?_⟩
            have HSN := Aside0.mk hs
            have HBBN := Aside0.mk hbb
            have BKN := Aside0.mk (blk_kept BK.out hk (fun h_ => h_.1.2 rfl))
            have HRN := Aside0.mk (Kd.R_kept (Kd.R_below HR.out HB.out) hk (fun k_ e_ h_ => h_.1.1.2 e_))
            have HKPN := Aside0.mk ((Kept.below HKP.out HB.out).then_ hk (fun k_ h_ => .inl h_.1.1))
            clear BK HB hs hbb hk
            have BK := BKN
            refine hK.out _ _ ⟨(blk_cell BK.out 0).trans rfl, (blk_cell BK.out 1).trans rfl⟩ (fun hHeld => ?_)
            clear hK K
            refine norm_ (a' := ?_) ?_ ?_
            rotate_left
            · show Act.put _ (some 37) _ = _
              simp only [Act.put, List.setIfInBounds_toArray, List.set_cons_zero, List.set_cons_succ, i64_w, i32_w]
              rfl
            refine pure_ (i := 9) (N := some 3) (v := ?_) (a' := ?_) #[true, true, true, true, true, true, true, true, true, true] rfl rfl (any_of HT_.out (by kernel_rfl)) (fun _ _ _ h => h) (Or.inl ⟨by rfl, ?_⟩) ?_ ?_
            rotate_left
            · intro w'
              go_simp
              with_reducible rfl
            rotate_left
            · simp only [Act.put, List.setIfInBounds_toArray, List.set_cons_zero, List.set_cons_succ, i64_w, i32_w]
              rfl
            refine done_ (done_of HT_.out (by kernel_rfl)) ?_
            try go_wp2
            go_roundg k1
            case measure => have := HK1.out; omega
            case rel => exact ⟨t168, _, rfl, H', ⟨by have := HK1.out; omega⟩, HSN, HRN, BKN, HBBN, HKPN⟩
          | false =>
            rw [if_neg (show ¬ (false = true) by decide)] at H
            have H' := Aside0.mk H
            clear H
            have BK0 := BK
            go_wp2_with (first | ((with_reducible refine gate_callee (f := 79) rfl ?_); refine goesL_ (some 28) rfl rfl Try.func79 (by kernel_rfl) rfl #[.agg #[.int .i64 n, .bool g], .int .i64 a1, .slice A2 l2.length c2, .int .i64 x9] rfl (by (try simp only [List.map_toArray, List.map_cons, List.map_nil]); first | done | rfl) ?_; (with_reducible refine (spec_l3Next.calls k1 n g a1 _ _ l2 x9 false _ ?side1 ?side2 A14.out).mono ?_); (case side1 => exact Kd.C_below HR2.out (by repeat (first | (with_reducible first | exact HB.out | apply below_alloc | apply pw_below_drewN | apply below_drew1) | exact HB.out))); (case side2 => exact HC2.out); rintro e w9 ⟨rfl, hb⟩; refine ⟨_, rfl, ?_⟩; have n0_ := Aside0.mk (blk_below BK.out hb); have n1_ := Aside0.mk (below_step (by repeat (first | (with_reducible first | exact HB.out | apply below_alloc | apply pw_below_drewN | apply below_drew1) | exact HB.out)) hb); clear BK HB hb; have BK := n0_; have HB := n1_; clear n0_ n1_))
            go_roundg k1
            case measure => have := HK1.out; omega
            case rel => exact ⟨x3, _, rfl, H', ⟨by have := HK1.out; omega⟩, ⟨Kd.S_below HS.out HB.out⟩, ⟨Kd.R_below HR.out HB.out⟩, BK, ⟨below_weaken HBB.out (below_size HBB.out) HB.out⟩, ⟨Kept.below HKP.out HB.out⟩⟩
        · rw [if_neg c13] at H
          have c13b0 : decide (x9 < n) = false := decide_eq_false c13
          clear c13
          obtain rfl := Option.some.inj H
          go_wp2
          go_ret
          exact ⟨_, rfl, Kd.S_mono HS.out (fun _ h_ => h_.1.1), HBB.out, HKP.out⟩

theorem spec_l3All.elem {f : Nat → Nat} {w : World} {base n c : Nat} {ok : Nat → Prop} {A : Option Addr} {xs : List (List Int × Nat)} (h : (Kd.tag f (Kd.slice 3 (Kd.int .i64))).R 24 w base ok (.slice A n c) xs) (i : Nat) (hi : i < xs.length) :
    ∃ ad A' c', A = some ad ∧ w.cell? (ad.add i) = some (.slice A' ((xs[i]).1).length c') ∧ (Kd.tag f (Kd.slice 3 (Kd.int .i64))).M w base (fun k => ok k ∧ some k ≠ (Value.slice A n c).ownBlock) xs[i] [.slice A' ((xs[i]).1).length c'] := by
  obtain ⟨g, cap, e, _⟩ := Kd.R_form h (by omega)
  injection e with e1 e2 e3
  subst e1
  obtain ⟨cs, hl, hM, hc⟩ := Kd.R_getA h ([], 0) (i : Int) (by omega) (by omega)
  rw [Int.toNat_natCast, List.getD_eq_getElem?_getD, List.getElem?_eq_getElem hi, Option.getD_some] at hM
  obtain ⟨v, rfl, hv⟩ := hM
  obtain ⟨A', c', rfl⟩ := Kd.R_slice hv
  refine ⟨_, A', c', rfl, ?_, ⟨_, rfl, hv⟩⟩
  have h2 := hc 0 _ rfl
  rw [show ((i : Int).toNat * (Kd.tag f (Kd.slice 3 (Kd.int .i64))).sz + 0) = i by rw [Int.toNat_natCast]; show i * 1 + 0 = i; omega] at h2
  exact h2
def spec_l3All.outer (all : List (List Int × Nat)) : Nat → Int → List (List Int × Nat) → Option (List (List Int × Nat))
  | 0, _, _ => none
  | k + 1, m, out => if (out.length : Int) < (all.length : Int) then spec_l3All.outer all k (m + 1) (out ++ all.filter (fun p => decide ((p.1.length : Int) = m))) else some out
def spec_l3All.f (n : Int) (g : Bool) (a1 : Int) : Option (List (List Int)) := (spec_l3More.f 200 n g a1 [] []).bind fun all => if all.length < 1048576 then (spec_l3All.outer all.zipIdx 60 1 []).bind fun ps => if (ps.map Prod.snd).Nodup then some (ps.map Prod.fst) else none else none
set_option maxHeartbeats 8000000 in
set_option maxRecDepth 100000 in
theorem spec_l3All.calls (n : Int) (g : Bool) (a1 : Int) (r : List (List Int)) (w : World) (h : spec_l3All.f n g a1 = some r) :
    Calls Try.prog 44 #[.agg #[.int .i64 n, .bool g], .int .i64 a1] w fun e w' => ∃ v0_ : Value, e = .returned v0_ ∧ Kd.S (Kd.slice 3 (Kd.int .i64)) 24 w' w.heap.size (fun _ => True) v0_ r ∧ Below w.heap.size w w' := by
  have hu27 := Try.underlying27
  unfold spec_l3All.f at h
  obtain ⟨all, AM, h⟩ := Option.bind_eq_some_iff.mp h
  by_cases cA : all.length < 1048576
  rotate_left
  · rw [if_neg cA] at h; cases h
  rw [if_pos cA] at h
  obtain ⟨q, AQ, h⟩ := Option.bind_eq_some_iff.mp h
  by_cases cN : (q.map Prod.snd).Nodup
  rotate_left
  · rw [if_neg cN] at h; cases h
  rw [if_pos cN] at h
  obtain rfl := Option.some.inj h
  clear h
  have HND := Aside0.mk cN
  have HAL := Aside0.mk cA
  have AM := Aside0.mk AM
  have AQ := Aside0.mk AQ
  clear cN cA
  have HB := Aside0.mk (Below.refl w.heap.size w)
  go_enter Try.func44, Try.ntmps44
  go_wp2_with (first | ((with_reducible refine gate_dst (N := 2) rfl ?_); refine box_event ?hg (N := 2) ?hd (cs := #[.int .i64 n, .bool g]) (t := 27) ?hr ?_; (case hd => rfl); (case hg => rfl); (case hr => first | (go_simp; done) | (go_simp; rfl)); intro gb hg w7 hbox hb; have n0_ := Aside0.mk (below_step (by repeat (first | (with_reducible first | exact HB.out | apply below_alloc | apply pw_below_drewN | apply below_drew1) | exact HB.out)) hb); have BK := Aside0.mk hbox; have GE := Aside0.mk ((by rw [hg]; exact below_size (by repeat (first | (with_reducible first | exact HB.out | apply below_alloc | apply pw_below_drewN | apply below_drew1) | exact HB.out))) : w.heap.size ≤ gb); clear HB; have HB := n0_; clear n0_ hb hbox hg; have hcz0 : w7.cell? ⟨gb, 0, none⟩ = some (.int .i64 n) := (blk_cell BK.out 0).trans rfl; have hcz1 : w7.cell? ⟨gb, 1, none⟩ = some (.bool g) := (blk_cell BK.out 1).trans rfl; have hfz0 := blk_frozen BK.out 0; have hfz1 := blk_frozen BK.out 1) | ((with_reducible refine gate_dst (N := 11) rfl ?_); refine Kd.R_lit (Kd.int .i64) _ 3 ?hg (N := 11) ?hd (xs := ([] : List Int)) (inner := []) (ok := fun _ => True) (okp := fun _ => True) ?hr ?hp (fun _ hk => hk) trivial (Below.refl _ _) (Nat.le_refl _) (by simp) ?_; (case hd => rfl); (case hg => rfl); (case hr => first | (go_simp; done) | (go_simp; rfl)); (case hp => exact (Reps.none _ _)); intro v11 w11 ho hb hg_ hnew_; have HO11 := Aside0.mk (Kd.R_lower ho (below_size HB.out)); have n0_ := Aside0.mk (blk_below BK.out hb); have n1_ := Aside0.mk (below_step HB.out hb); clear BK HB hb ho hg_ hnew_; have BK := n0_; have HB := n1_; clear n0_ n1_; obtain ⟨A11, c11, e11⟩ := Kd.R_slice HO11.out; subst e11) | ((with_reducible refine gate_dst (N := 12) rfl ?_); refine Kd.R_lit (Kd.tag (fun _ => 0) (Kd.slice 3 (Kd.int .i64))) _ 24 ?hg (N := 12) ?hd (xs := ([] : List (List Int × Nat))) (inner := []) (ok := fun _ => True) (okp := fun _ => True) ?hr ?hp (fun _ hk => hk) trivial (Below.refl _ _) (Nat.le_refl _) (by simp) ?_; (case hd => rfl); (case hg => rfl); (case hr => first | (go_simp; done) | (go_simp; rfl)); (case hp => exact (Reps.none _ _)); intro v12 w12 ho hb hg_ hnew_; have HO12 := Aside0.mk (Kd.R_lower (Kd.R_new' ho (Kd.R_lt HO11.out)) (below_size HB.out)); have n0_ := Aside0.mk (blk_below BK.out hb); have n1_ := Aside0.mk (below_step HB.out hb); have n2_ := Aside0.mk (Kd.R_below HO11.out hb); clear BK HB HO11 hb ho hg_ hnew_; have BK := n0_; have HB := n1_; have HO11 := n2_; clear n0_ n1_ n2_) | ((with_reducible refine gate_callee (f := 64) rfl ?_); refine goesL_ (some 13) rfl rfl Try.func64 (by kernel_rfl) rfl #[.agg #[.int .i64 n, .bool g], .int .i64 a1, .slice A11 ([] : List Int).length c11, v12] rfl (by (try simp only [List.map_toArray, List.map_cons, List.map_nil]); first | done | rfl) ?_; (with_reducible refine (spec_l3More.calls 200 n g a1 _ _ ([] : List Int) v12 [] all (fun _ => True) w _ ?s1 ?s2 ?s3 ?s4 ?s5 AM.out).mono ?_); (case s1 => exact HB.out); (case s2 => exact Kd.R_tight rfl HO11.out); (case s3 => exact ⟨fun _ => 0, HO12.out⟩); (case s4 => exact fun _ _ => trivial); (case s5 => exact fun _ _ => trivial); rintro e w13 ⟨v5, rfl, hs, hb, hk⟩; refine ⟨_, rfl, ?_⟩; clear HB BK HO11 HO12; have HBM := Aside0.mk hb; obtain ⟨A5, c5, e5⟩ := Kd.S_slice hs; subst e5; obtain ⟨f5, hf5⟩ := hs; have HS5 := Aside0.mk (Kd.R_mono (Kd.R_bound hf5) (ok' := fun k_ => k_ < w13.heap.size) (fun _ h_ => h_.2.2.1)); have HB := Aside0.mk (Below.refl w13.heap.size w13); clear hb hk hf5) | ((with_reducible refine gate_dst (N := 14) rfl ?_); refine Kd.R_lit (Kd.tag f5 (Kd.slice 3 (Kd.int .i64))) _ 24 ?hg (N := 14) ?hd (xs := ([] : List (List Int × Nat))) (inner := []) (ok := fun _ => True) (okp := fun _ => True) ?hr ?hp (fun _ hk => hk) trivial (Below.refl _ _) (Nat.le_refl _) (by simp) ?_; (case hd => rfl); (case hg => rfl); (case hr => first | (go_simp; done) | (go_simp; rfl)); (case hp => exact (Reps.none _ _)); intro v6 w14 ho hb hg_ hnew_; have HO := Aside0.mk (Kd.R_lower ho (below_size HBM.out)); have HOB := Aside0.mk (Kd.R_base ho); have n1_ := Aside0.mk (below_step HB.out hb); clear HB hb ho hg_ hnew_; have HB := n1_; clear n1_))
  clear AM
  go_loopg [6, 7] 60 (fun kq v6 v7 w' => ∃ (ps : List (List Int × Nat)) (m : Int), v7 = .int .i64 m ∧ Aside0 (spec_l3All.outer all.zipIdx kq m ps = some q) ∧ Aside0 (kq ≤ 60 ∧ 1 ≤ m ∧ m + kq ≤ 61) ∧ Aside0 (ps.length ≤ 2097152) ∧ Aside0 (Kd.R (Kd.tag f5 (Kd.slice 3 (Kd.int .i64))) 24 w' w.heap.size (fun _ => True) v6 ps) ∧ Aside0 (∀ k_, v6.ownBlock = some k_ → w13.heap.size ≤ k_) ∧ Aside0 (Below w13.heap.size w13 w'))
  case atStart => exact ⟨[], 1, rfl, AQ, ⟨by omega⟩, ⟨by simp⟩, HO, HOB, HB⟩
  case round =>
    clear AQ HO HOB HB
    obtain ⟨ps, m, rfl, HA, HM0, HPL0, HO, HOB, HB⟩ := hrel
    obtain ⟨A6, c6, e6⟩ := Kd.R_slice HO.out
    subst e6
    cases gk with
    | zero => exact absurd HA.out (by simp [spec_l3All.outer])
    | succ k1 =>
      have H := HA.out
      clear HA
      simp only [spec_l3All.outer, List.length_zipIdx] at H
      by_cases c13 : (ps.length : Int) < (all.length : Int)
      · rw [if_pos c13] at H
        have c13b0 : decide ((ps.length : Int) < (all.length : Int)) = true := decide_eq_true c13
        have c13n : decide (ps.length < all.length) = true := decide_eq_true (by omega)
        have HPL := Aside0.mk (show ps.length < all.length by omega)
        clear c13
        have H' := Aside0.mk H
        clear H
        go_wp2_with fail
        go_loopg [6, 8] all.length (fun d v6 v8 w' => ∃ (i : Nat) (qs : List (List Int × Nat)), v8 = .int .i64 (i : Int) ∧ Aside0 (i + d = all.length) ∧ Aside0 (qs ++ (all.zipIdx.drop i).filter (fun p => decide ((p.1.length : Int) = m)) = ps ++ all.zipIdx.filter (fun p => decide ((p.1.length : Int) = m))) ∧ Aside0 (qs.length ≤ ps.length + i) ∧ Aside0 (Kd.R (Kd.tag f5 (Kd.slice 3 (Kd.int .i64))) 24 w' w.heap.size (fun _ => True) v6 qs) ∧ Aside0 (∀ k_, v6.ownBlock = some k_ → w13.heap.size ≤ k_) ∧ Aside0 (Below w13.heap.size w13 w'))
        case atStart => exact ⟨0, ps, rfl, ⟨by omega⟩, ⟨by rw [List.drop_zero]⟩, ⟨by omega⟩, HO, HOB, HB⟩
        case round =>
          clear HO HOB HB c13b0 c13n
          obtain ⟨i, qs, rfl, HID, HQ, HQL, HO, HOB, HB⟩ := hrel
          by_cases ci : i < all.length
          · have c0i : (0 : Int) ≤ (i : Int) := by omega
            have c1i : (i : Int) < (all.length : Int) := by omega
            have HI0 : i < all.zipIdx.length := by rw [List.length_zipIdx]; exact ci
            have c1b : decide ((i : Int) < (all.length : Int)) = true := decide_eq_true c1i
            have c1n : decide (i < all.length) = true := decide_eq_true ci
            obtain ⟨ad, A', c', e, hx, hM⟩ := spec_l3All.elem (Kd.R_below HS5.out HB.out) i HI0
            subst e
            obtain ⟨x, hz⟩ : ∃ x, all.zipIdx[i]'HI0 = (x, i) := ⟨all[i], by rw [List.getElem_zipIdx, Nat.zero_add]⟩
            have hd : (all.zipIdx.drop i) = all.zipIdx[i]'HI0 :: all.zipIdx.drop (i + 1) := List.drop_eq_getElem_cons HI0
            rw [hd, List.filter_cons, hz] at HQ
            rw [hz] at hM hx
            have hw1 : IntKind.i64.wrap ((i : Int) + 1) = ((i + 1 : Nat) : Int) := (i64_w _).trans (by have := HAL.out; unfold wrap64; omega)
            have HI := Aside0.mk ci
            clear hd ci hz
            by_cases cm : ((x.length : Int) = m)
            · rw [if_pos (decide_eq_true cm)] at HQ
              have cmb : ((x.length : Int) == m) = true := beq_iff_eq.mpr cm
              clear cm
              have HM := Aside0.mk ((Kd.tag f5 (Kd.slice 3 (Kd.int .i64))).M_mono (fun _ h_ => h_.1) hM)
              clear hM
              go_wp2_with (first | ((with_reducible refine gate_builtin (b := .append) (xs := #[.tmp 35, .tmp 40]) rfl ?_); at_builtin; refine Kd.R_append (Kd.tag f5 (Kd.slice 3 (Kd.int .i64))) (w0 := w) w.heap.size rfl (.tmp 35) (.tmp 40) 38 24 (.slice none 0 0) 24 rfl Try.underlying38 spec_l3All.info rfl Nat.one_pos (by omega) u6 qs (x, i) [.slice A' x.length c'] (fun _ => True) (fun k_ => k_ < w13.heap.size) rfl rfl ?aP ?aK (fun _ _ => trivial) ?aO ?aB ?aS ?aL ?_; (case aP => exact HM.out); (case aK => exact fun k_ h_ => ⟨trivial, fun e_ => by have := HOB.out k_ e_.symm; omega⟩); (case aO => exact HO.out); (case aB => exact below_weaken HBM.out (below_size HBM.out) HB.out); (case aS => exact below_size (below_weaken HBM.out (below_size HBM.out) HB.out)); (case aL => have := HQL.out; have := HPL.out; have := HAL.out; have := HID.out; omega); intro v1 w1 ho hb hg hat; have HN := Aside0.mk ho; have HNB := Aside0.mk (HB.out.grown hg (below_size HB.out) (fun k_ e_ => HOB.out k_ e_)); have HNO := Aside0.mk (show ∀ k_, v1.ownBlock = some k_ → w13.heap.size ≤ k_ from fun k_ e_ => by rcases hat with hat | ⟨b, hat, hle⟩; exact HOB.out k_ (hat ▸ e_); have := hat.symm.trans e_; injection this with this; have := below_size HB.out; omega); clear ho hb hg hat))
              go_roundg (gk - 1)
              case measure => have := HID.out; have := HI.out; omega
              case rel => exact ⟨i + 1, qs ++ [(x, i)], by first | rfl | rw [hw1], ⟨by have := HID.out; have := HI.out; omega⟩, ⟨by rw [List.append_assoc]; exact HQ.out⟩, ⟨by have := HQL.out; simp only [List.length_append, List.length_cons, List.length_nil]; omega⟩, HN, HNO, HNB⟩
            · rw [if_neg (by rw [decide_eq_true_eq]; exact cm)] at HQ
              have cmb : ((x.length : Int) == m) = false := beq_eq_false_iff_ne.mpr cm
              clear cm
              go_wp2
              go_roundg (gk - 1)
              case measure => have := HID.out; have := HI.out; omega
              case rel => exact ⟨i + 1, qs, by first | rfl | rw [hw1], ⟨by have := HID.out; have := HI.out; omega⟩, HQ, ⟨by have := HQL.out; omega⟩, HO, HOB, HB⟩
          · have c1b : decide ((i : Int) < (all.length : Int)) = false := decide_eq_false (by omega)
            have c1n : decide (i < all.length) = false := decide_eq_false ci
            have hq : qs = ps ++ all.zipIdx.filter (fun p => decide ((p.1.length : Int) = m)) := by
              rw [← HQ.out, List.drop_of_length_le (by rw [List.length_zipIdx]; omega), List.filter_nil, List.append_nil]
            subst hq
            have HI := Aside0.mk (show i = all.length by have := HID.out; omega)
            have hw1 : IntKind.i64.wrap (m + 1) = m + 1 := (i64_w _).trans (by have := HM0.out; unfold wrap64; omega)
            clear ci HQ
            go_wp2
            go_roundg k1
            case measure => have := HM0.out; omega
            case rel => exact ⟨_, m + 1, by first | rfl | rw [hw1], H', ⟨by have := HM0.out; omega⟩, ⟨by have := HQL.out; have := HI.out; have := HAL.out; have := HPL.out; omega⟩, HO, HOB, HB⟩
      · rw [if_neg c13] at H
        have c13b0 : decide ((ps.length : Int) < (all.length : Int)) = false := decide_eq_false c13
        have c13n : decide (ps.length < all.length) = false := decide_eq_false (by omega)
        clear c13
        obtain rfl := Option.some.inj H
        go_wp2
        go_ret
        exact ⟨_, rfl, spec_l3All.retag HO.out HND.out, below_weaken HBM.out (below_size HBM.out) HB.out⟩

/-! ### spec_BestSearch: function 24 -/
theorem spec_BestSearch.add0 (ad : Addr) : ad.add 0 = ad := by
  obtain ⟨b, o, s⟩ := ad
  unfold Addr.add
  split <;> simp_all
def spec_BestSearch.l0 (k : Nat) (n : Int) (g : Bool) (a ex : Int) : List (List Int) → List Int → Option (List Int)
  | [], b => some b
  | l :: rest, b => (spec_l3Worst.f k n g a l ex).bind fun x => (spec_l3Worst.f k n g a b ex).bind fun y => if wrap64 (x.2.1 * y.2.2) < wrap64 (y.2.1 * x.2.2) then spec_BestSearch.l0 k n g a ex rest l else spec_BestSearch.l0 k n g a ex rest b
def spec_BestSearch.f (k : Nat) (n : Int) (g : Bool) (a ex : Int) : Option (List Int × Bool) := (spec_l3Line.f n g a).bind fun t => if t = true then (if n > 10 then some ([], false) else (spec_l3Extra.f ex).bind fun u => if u = true then (spec_l3All.f n g a).bind fun L => (if L.length < 1048576 then (match L with | [] => none | b :: rest => (spec_BestSearch.l0 k n g a ex rest b).bind fun r => some (r, true)) else none) else some ([], false)) else some ([], false)
def spec_BestSearch.T8 : Bool × List (List Nat × List Nat) := (true, [([], []), ([], []), ([], []), ([], []), ([2, 3], [2, 3]), ([4], [4]), ([], []), ([0, 1, 5, 6], [0, 1, 5, 6]), ([7], [7]), ([8], [8]), ([8], [8]), ([8], [8]), ([9, 7, 0, 1, 2, 3, 4, 5, 6, 7, 8, 9], [9]), ([10, 12, 0, 1, 2, 3, 4, 5, 6, 7, 8, 9, 10, 12], [10]), ([11, 13, 0, 1, 2, 3, 4, 5, 6, 7, 8, 9, 10, 11, 12, 13], [11])])
def spec_BestSearch.B8 : List Nat := [0, 0, 0, 0, 12, 28, 0, 127, 255, 511, 511, 511, 1023, 6143, 16383]
theorem spec_BestSearch.tab8 : rtab .any (opsOf Try.f24 8) = spec_BestSearch.T8 := by kernel_rfl
theorem spec_BestSearch.bits8 : waitsOk spec_BestSearch.T8.2 spec_BestSearch.B8 = true := by kernel_rfl
set_option maxHeartbeats 8000000 in
set_option maxRecDepth 100000 in
theorem spec_BestSearch.calls (k : Nat) (n : Int) (g : Bool) (a ex : Int) (r1 : List Int) (r2 : Bool) (w : World) (h : spec_BestSearch.f k n g a ex = some (r1, r2)) :
    Calls Try.prog 24 #[.agg #[.int .i64 n, .bool g], .int .i64 a, .int .i64 ex] w fun e w' => ∃ v0_ : Value, e = .returned (.tuple #[v0_, .bool r2]) ∧ Kd.R (Kd.int .i64) 3 w' w.heap.size (fun _ => True) v0_ r1 ∧ Below w.heap.size w w' := by
  have hu27 := Try.underlying27
  have HB := Aside0.mk (Below.refl w.heap.size w)
  obtain ⟨t, h1, h⟩ := Option.bind_eq_some_iff.mp h
  have H1 := Aside0.mk h1
  clear h1
  have lits : r1 = [] → r2 = false → True := fun _ _ => trivial
  by_cases ct : t = true ∧ n ≤ 10
  rotate_left
  · have hr : r1 = [] ∧ r2 = false ∧ (t = false ∨ t = true ∧ decide (10 < n) = true) := by
      cases t with
      | false => rw [if_neg (by decide)] at h; injection h with h; injection h with h2 h3; exact ⟨h2.symm, h3.symm, .inl rfl⟩
      | true => rw [if_pos rfl, if_pos (show n > 10 by by_cases q : n ≤ 10; exact absurd ⟨rfl, q⟩ ct; omega)] at h; injection h with h; injection h with h2 h3; exact ⟨h2.symm, h3.symm, .inr ⟨rfl, decide_eq_true (by by_cases q : n ≤ 10; exact absurd ⟨rfl, q⟩ ct; omega)⟩⟩
    obtain ⟨rfl, rfl, hr⟩ := hr
    clear h ct
    rcases hr with rfl | ⟨rfl, hn⟩
    all_goals
      go_enter Try.func24, Try.ntmps24
      go_wp2_with (first | ((with_reducible refine gate_dst (N := 3) rfl ?_); refine box_event ?hg (N := 3) ?hd (cs := #[.int .i64 n, .bool g]) (t := 27) ?hr ?_; (case hd => rfl); (case hg => rfl); (case hr => first | (go_simp; done) | (go_simp; rfl)); intro gb hg w7 hbox hb; have n0_ := Aside0.mk (below_step (by repeat (first | (with_reducible first | exact HB.out | apply below_alloc | apply pw_below_drewN | apply below_drew1) | exact HB.out)) hb); have BK := Aside0.mk hbox; have GE := Aside0.mk ((by rw [hg]; exact below_size (by repeat (first | (with_reducible first | exact HB.out | apply below_alloc | apply pw_below_drewN | apply below_drew1) | exact HB.out))) : w.heap.size ≤ gb); clear HB; have HB := n0_; clear n0_ hb hbox hg; have hcz0 : w7.cell? ⟨gb, 0, none⟩ = some (.int .i64 n) := (blk_cell BK.out 0).trans rfl; have hcz1 : w7.cell? ⟨gb, 1, none⟩ = some (.bool g) := (blk_cell BK.out 1).trans rfl) | (first | ((with_reducible refine gate_callee (f := 30) rfl ?_); refine goesL_ (some 19) rfl rfl Try.func30 (by kernel_rfl) rfl #[.agg #[.int .i64 n, .bool g], .int .i64 a] rfl (by (try simp only [List.map_toArray, List.map_cons, List.map_nil]); first | done | rfl) ?_; (with_reducible refine (spec_l3Line.calls n g a true _ H1.out).mono ?_); rintro e w8 ⟨rfl, hb⟩; refine ⟨_, rfl, ?_⟩; have n0_ := Aside0.mk (blk_below BK.out hb); have n1_ := Aside0.mk (below_step HB.out hb); clear BK HB hb hcz0 hcz1; have BK := n0_; have HB := n1_; clear n0_ n1_; have hcz0 : w8.cell? ⟨gb, 0, none⟩ = some (.int .i64 n) := (blk_cell BK.out 0).trans rfl; have hcz1 : w8.cell? ⟨gb, 1, none⟩ = some (.bool g) := (blk_cell BK.out 1).trans rfl) | ((with_reducible refine gate_callee (f := 30) rfl ?_); refine goesL_ (some 19) rfl rfl Try.func30 (by kernel_rfl) rfl #[.agg #[.int .i64 n, .bool g], .int .i64 a] rfl (by (try simp only [List.map_toArray, List.map_cons, List.map_nil]); first | done | rfl) ?_; (with_reducible refine (spec_l3Line.calls n g a false _ H1.out).mono ?_); rintro e w8 ⟨rfl, hb⟩; refine ⟨_, rfl, ?_⟩; have n0_ := Aside0.mk (blk_below BK.out hb); have n1_ := Aside0.mk (below_step HB.out hb); clear BK HB hb hcz0 hcz1; have BK := n0_; have HB := n1_; clear n0_ n1_; have hcz0 : w8.cell? ⟨gb, 0, none⟩ = some (.int .i64 n) := (blk_cell BK.out 0).trans rfl; have hcz1 : w8.cell? ⟨gb, 1, none⟩ = some (.bool g) := (blk_cell BK.out 1).trans rfl)) | ((with_reducible refine gate_dst (N := 31) rfl ?_); refine Kd.R_lit (Kd.int .i64) _ 3 ?hg (N := 31) ?hd (xs := ([] : List Int)) (inner := []) (ok := fun _ => True) (okp := fun _ => True) ?hr ?hp (fun _ hk => hk) trivial (Below.refl _ _) (Nat.le_refl _) (by simp) ?_; (case hd => rfl); (case hg => rfl); (case hr => first | (go_simp; done) | (go_simp; rfl)); (case hp => exact (Reps.none _ _)); intro v31 w31 ho hb hg_ hnew_; have HN := Aside0.mk (Kd.R_lower ho (below_size HB.out)); have n1_ := Aside0.mk (below_step HB.out hb); clear HB hb ho hg_ hnew_; have HB := n1_; clear n1_))
      go_ret2
      exact ⟨_, rfl, HN.out, HB.out⟩
  · obtain ⟨rfl, hn⟩ := ct
    rw [if_pos rfl, if_neg (by omega)] at h
    have hnb : decide (10 < n) = false := decide_eq_false (by omega)
    obtain ⟨u, h2, h⟩ := Option.bind_eq_some_iff.mp h
    have H2 := Aside0.mk h2
    clear h2 hn
    cases u with
    | false =>
      rw [if_neg (by decide)] at h
      injection h with h
      injection h with h3 h4
      subst h3 h4
      go_enter Try.func24, Try.ntmps24
      go_wp2_with (first | ((with_reducible refine gate_dst (N := 3) rfl ?_); refine box_event ?hg (N := 3) ?hd (cs := #[.int .i64 n, .bool g]) (t := 27) ?hr ?_; (case hd => rfl); (case hg => rfl); (case hr => first | (go_simp; done) | (go_simp; rfl)); intro gb hg w7 hbox hb; have n0_ := Aside0.mk (below_step (by repeat (first | (with_reducible first | exact HB.out | apply below_alloc | apply pw_below_drewN | apply below_drew1) | exact HB.out)) hb); have BK := Aside0.mk hbox; have GE := Aside0.mk ((by rw [hg]; exact below_size (by repeat (first | (with_reducible first | exact HB.out | apply below_alloc | apply pw_below_drewN | apply below_drew1) | exact HB.out))) : w.heap.size ≤ gb); clear HB; have HB := n0_; clear n0_ hb hbox hg; have hcz0 : w7.cell? ⟨gb, 0, none⟩ = some (.int .i64 n) := (blk_cell BK.out 0).trans rfl; have hcz1 : w7.cell? ⟨gb, 1, none⟩ = some (.bool g) := (blk_cell BK.out 1).trans rfl) | ((with_reducible refine gate_callee (f := 30) rfl ?_); refine goesL_ (some 19) rfl rfl Try.func30 (by kernel_rfl) rfl #[.agg #[.int .i64 n, .bool g], .int .i64 a] rfl (by (try simp only [List.map_toArray, List.map_cons, List.map_nil]); first | done | rfl) ?_; (with_reducible refine (spec_l3Line.calls n g a true _ H1.out).mono ?_); rintro e w8 ⟨rfl, hb⟩; refine ⟨_, rfl, ?_⟩; have n0_ := Aside0.mk (blk_below BK.out hb); have n1_ := Aside0.mk (below_step HB.out hb); clear BK HB hb hcz0 hcz1; have BK := n0_; have HB := n1_; clear n0_ n1_; have hcz0 : w8.cell? ⟨gb, 0, none⟩ = some (.int .i64 n) := (blk_cell BK.out 0).trans rfl; have hcz1 : w8.cell? ⟨gb, 1, none⟩ = some (.bool g) := (blk_cell BK.out 1).trans rfl))
      refine (spec_l3Extra.calls ex false _ H2.out).mono ?_
      rintro e w9 ⟨rfl, hd⟩
      have n0_ := Aside0.mk (blk_below BK.out hd.below)
      have n1_ := Aside0.mk (below_step HB.out hd.below)
      clear BK HB hd hcz0 hcz1
      have BK := n0_
      have HB := n1_
      clear n0_ n1_
      have hcz0 : w9.cell? ⟨gb, 0, none⟩ = some (.int .i64 n) := (blk_cell BK.out 0).trans rfl
      have hcz1 : w9.cell? ⟨gb, 1, none⟩ = some (.bool g) := (blk_cell BK.out 1).trans rfl
      go_wp2_with (first | ((with_reducible refine gate_dst (N := 31) rfl ?_); refine Kd.R_lit (Kd.int .i64) _ 3 ?hg (N := 31) ?hd (xs := ([] : List Int)) (inner := []) (ok := fun _ => True) (okp := fun _ => True) ?hr ?hp (fun _ hk => hk) trivial (Below.refl _ _) (Nat.le_refl _) (by simp) ?_; (case hd => rfl); (case hg => rfl); (case hr => first | (go_simp; done) | (go_simp; rfl)); (case hp => exact (Reps.none _ _)); intro v31 w31 ho hb hg_ hnew_; have HN := Aside0.mk (Kd.R_lower ho (below_size HB.out)); have n1_ := Aside0.mk (below_step HB.out hb); clear HB hb ho hg_ hnew_; have HB := n1_; clear n1_))
      go_ret2
      exact ⟨_, rfl, HN.out, HB.out⟩
    | true =>
      rw [if_pos rfl] at h
      obtain ⟨L, h3, h⟩ := Option.bind_eq_some_iff.mp h
      by_cases cl : L.length < 1048576
      rotate_left
      · rw [if_neg cl] at h; cases h
      rw [if_pos cl] at h
      obtain ⟨b0, rest, hL⟩ : ∃ b0 rest, L = b0 :: rest := by
        cases L with
        | nil => cases h
        | cons b0 rest => exact ⟨b0, rest, rfl⟩
      rw [hL] at h
      replace h : ((spec_BestSearch.l0 k n g a ex rest b0).bind fun r => some (r, true)) = some (r1, r2) := h
      obtain ⟨q, h4, h⟩ := Option.bind_eq_some_iff.mp h
      injection h with h
      injection h with h5 h6
      subst h5 h6
      have H3 := Aside0.mk h3
      have H4 := Aside0.mk h4
      have HLL := Aside0.mk cl
      have HL1 := Aside0.mk (show 1 ≤ L.length by rw [hL]; simp)
      have HLC := Aside0.mk (show L.drop 1 = rest by rw [hL]; rfl)
      have HL0 := Aside0.mk (show ∀ h : 0 < L.length, L[0] = b0 from fun h => by simp [hL])
      clear h3 h4 cl hL
      go_enter Try.func24, Try.ntmps24
      go_wp2_with (first | ((with_reducible refine gate_dst (N := 3) rfl ?_); refine box_event ?hg (N := 3) ?hd (cs := #[.int .i64 n, .bool g]) (t := 27) ?hr ?_; (case hd => rfl); (case hg => rfl); (case hr => first | (go_simp; done) | (go_simp; rfl)); intro gb hg w7 hbox hb; have n0_ := Aside0.mk (below_step (by repeat (first | (with_reducible first | exact HB.out | apply below_alloc | apply pw_below_drewN | apply below_drew1) | exact HB.out)) hb); have BK := Aside0.mk hbox; have GE := Aside0.mk ((by rw [hg]; exact below_size (by repeat (first | (with_reducible first | exact HB.out | apply below_alloc | apply pw_below_drewN | apply below_drew1) | exact HB.out))) : w.heap.size ≤ gb); clear HB; have HB := n0_; clear n0_ hb hbox hg; have hcz0 : w7.cell? ⟨gb, 0, none⟩ = some (.int .i64 n) := (blk_cell BK.out 0).trans rfl; have hcz1 : w7.cell? ⟨gb, 1, none⟩ = some (.bool g) := (blk_cell BK.out 1).trans rfl) | ((with_reducible refine gate_callee (f := 30) rfl ?_); refine goesL_ (some 19) rfl rfl Try.func30 (by kernel_rfl) rfl #[.agg #[.int .i64 n, .bool g], .int .i64 a] rfl (by (try simp only [List.map_toArray, List.map_cons, List.map_nil]); first | done | rfl) ?_; (with_reducible refine (spec_l3Line.calls n g a true _ H1.out).mono ?_); rintro e w8 ⟨rfl, hb⟩; refine ⟨_, rfl, ?_⟩; have n0_ := Aside0.mk (blk_below BK.out hb); have n1_ := Aside0.mk (below_step HB.out hb); clear BK HB hb hcz0 hcz1; have BK := n0_; have HB := n1_; clear n0_ n1_; have hcz0 : w8.cell? ⟨gb, 0, none⟩ = some (.int .i64 n) := (blk_cell BK.out 0).trans rfl; have hcz1 : w8.cell? ⟨gb, 1, none⟩ = some (.bool g) := (blk_cell BK.out 1).trans rfl))
      refine (spec_l3Extra.calls ex true _ H2.out).mono ?_
      rintro e w9 ⟨rfl, hd⟩
      have n0_ := Aside0.mk (blk_below BK.out hd.below)
      have n1_ := Aside0.mk (below_step HB.out hd.below)
      clear BK HB hd hcz0 hcz1
      have BK := n0_
      have HB := n1_
      clear n0_ n1_
      have hcz0 : w9.cell? ⟨gb, 0, none⟩ = some (.int .i64 n) := (blk_cell BK.out 0).trans rfl
      have hcz1 : w9.cell? ⟨gb, 1, none⟩ = some (.bool g) := (blk_cell BK.out 1).trans rfl
      go_wp2_with fail
      refine (spec_l3All.calls n g a L _ H3.out).mono ?_
      rintro e w10 ⟨v8, rfl, hs, hb⟩
      have n0_ := Aside0.mk (blk_below BK.out hb)
      have n1_ := Aside0.mk (below_step HB.out hb)
      have n2_ := Aside0.mk (below_size HB.out)
      clear BK HB hb hcz0 hcz1
      have BK := n0_
      have HB := n1_
      have HSZ := n2_
      clear n0_ n1_ n2_
      obtain ⟨A8, c8, e8⟩ := Kd.S_slice hs
      subst e8
      obtain ⟨f8, hf8⟩ := hs
      have HS := Aside0.mk hf8
      obtain ⟨ad, A', c', e, hx, hM⟩ := spec_l3All.elem hf8 0 (by rw [List.length_zipIdx]; exact HL1.out)
      subst e
      rw [show L.zipIdx[0]'(by rw [List.length_zipIdx]; exact HL1.out) = (b0, 0) by rw [List.getElem_zipIdx, HL0.out HL1.out]] at hx hM
      obtain ⟨vv, evv, hvv⟩ := hM
      injection evv with evv
      subst evv
      have HBE := Aside0.mk (Kd.R_lower (Kd.R_mono (ok' := fun _ => True) hvv (fun _ _ => trivial)) HSZ.out)
      have hx0 : w10.cell? ad = some (.slice A' b0.length c') := (by rw [spec_BestSearch.add0] at hx; exact hx)
      clear hvv hf8 hx
      have hlp : 0 < L.length := HL1.out
      have hlpi : (0 : Int) < (L.length : Int) := by omega
      go_wp2_with fail
      clear hlp hlpi
      go_loopg [9, 10] (L.length - 1) (fun d v9 v10 w' => ∃ (i : Nat) (b : List Int), v10 = .int .i64 (i : Int) ∧ Aside0 (i + d = L.length) ∧ Aside0 (spec_BestSearch.l0 k n g a ex (L.drop i) b = some q) ∧ Aside0 (w'.heap[gb]? = some (.cells #[.int .i64 n, .bool g] 27 (0, 0))) ∧ Aside0 (Below w.heap.size w w') ∧ Aside0 (Below w10.heap.size w10 w') ∧ Aside0 (Kd.R (Kd.int .i64) 3 w' w.heap.size (fun _ => True) v9 b))
      case atStart => exact ⟨1, b0, rfl, ⟨by have := HL1.out; omega⟩, ⟨by have := HLC.out; rw [this]; exact H4.out⟩, BK, HB, ⟨Below.refl _ _⟩, HBE⟩
      case round =>
        clear BK HB HBE hx0
        obtain ⟨i, b, rfl, HID, HA, BK, HB, HW, HBE⟩ := hrel
        obtain ⟨A9, c9, e9⟩ := Kd.R_slice HBE.out
        subst e9
        by_cases ci : i < L.length
        · have HI0 : i < L.zipIdx.length := by rw [List.length_zipIdx]; exact ci
          have c0i : (0 : Int) ≤ (i : Int) := by omega
          have c1i : (i : Int) < (L.length : Int) := by omega
          have c1b : decide ((i : Int) < (L.length : Int)) = true := decide_eq_true c1i
          have c1n : decide (i < L.length) = true := decide_eq_true ci
          have hw1 : IntKind.i64.wrap ((i : Int) + 1) = ((i + 1 : Nat) : Int) := (i64_w _).trans (by have := HLL.out; unfold wrap64; omega)
          obtain ⟨ad2, A', c', e, hx, hM⟩ := spec_l3All.elem (Kd.R_below HS.out HW.out) i HI0
          injection e with e
          subst e
          obtain ⟨x, hz⟩ : ∃ x, L.zipIdx[i]'HI0 = (x, i) := ⟨L[i], by rw [List.getElem_zipIdx, Nat.zero_add]⟩
          have hxl : L[i] = x := by have := congrArg Prod.fst hz; rwa [List.getElem_zipIdx] at this
          rw [hz] at hM hx
          obtain ⟨vv, evv, hvv⟩ := hM
          injection evv with evv
          subst evv
          have HE := Aside0.mk (Kd.R_lower (Kd.R_mono (ok' := fun _ => True) hvv (fun _ _ => trivial)) HSZ.out)
          have HX := Aside0.mk hx
          have hA := HA.out
          rw [List.drop_eq_getElem_cons ci, hxl] at hA
          obtain ⟨⟨p1, p2, p3⟩, h1, hA⟩ := Option.bind_eq_some_iff.mp hA
          obtain ⟨⟨q1, q2, q3⟩, h2, hA⟩ := Option.bind_eq_some_iff.mp hA
          have H1 := Aside0.mk h1
          have H2 := Aside0.mk h2
          have HAA := Aside0.mk hA
          have HI := Aside0.mk ci
          clear HA hA h1 h2 hvv hz hxl ci hx
          go_wp2
          have n0_ := Aside0.mk (blk_drew BK.out)
          have n1_ := Aside0.mk (below_drew1 HB.out)
          have n2_ := Aside0.mk (below_drew1 HW.out)
          have n3_ := Aside0.mk (Kd.R_drew HE.out)
          have n4_ := Aside0.mk (Kd.R_drew HBE.out)
          have n5_ : Aside0 (wr.drew.cell? (ad.add i) = some (.slice A' x.length c')) := ⟨HX.out⟩
          clear BK HB HW HE HBE HX
          have BK := n0_
          have HB := n1_
          have HW := n2_
          have HE := n3_
          have HBE := n4_
          have HX := n5_
          clear n0_ n1_ n2_ n3_ n4_ n5_
          refine start_ (n := 15) (S := fun w' => w'.cell? ⟨gb, 0, none⟩ = some (.int .i64 n) ∧ w'.cell? ⟨gb, 1, none⟩ = some (.bool g) ∧ w'.cell? (ad.add i) = some (.slice A' x.length c')) (ds := []) #[false, false, false, false, false, false, false, false, false, false, false, false, false, false, false] (by kernel_rfl) rfl rfl ⟨(blk_cell BK.out 0).trans rfl, (blk_cell BK.out 1).trans rfl, HX.out⟩ (fun hHeld => ?_); refine with_tabW spec_BestSearch.tab8 spec_BestSearch.bits8 (fun HT_ HW_ => ?_)
          generalize wr.drew = w21 at BK HB HW HX HE HBE hHeld ⊢
          refine pure_ (i := 1) (N := some 46) (v := ?_) (a' := ?_) #[false, true, false, false, false, false, false, false, false, false, false, false, false, false, false] rfl rfl (any_of HT_.out (by kernel_rfl)) (fun _ _ _ h => h) (Or.inl ⟨by rfl, ?_⟩) ?_ ?_
          rotate_left
          · intro w'
            go_simp
            with_reducible rfl
          rotate_left
          · simp only [Act.put, List.setIfInBounds_toArray, List.set_cons_zero, List.set_cons_succ, i64_w, i32_w]
            rfl
          refine pure_ (i := 2) (N := some 47) (v := ?_) (a' := ?_) #[false, true, true, false, false, false, false, false, false, false, false, false, false, false, false] rfl rfl (any_of HT_.out (by kernel_rfl)) (fun _ _ _ h => h) (Or.inl ⟨by rfl, ?_⟩) ?_ ?_
          rotate_left
          · intro w'
            go_simp
            with_reducible rfl
          rotate_left
          · simp only [Act.put, List.setIfInBounds_toArray, List.set_cons_zero, List.set_cons_succ, i64_w, i32_w]
            rfl
          refine pure_ (i := 3) (N := some 48) (v := ?_) (a' := ?_) #[false, true, true, true, false, false, false, false, false, false, false, false, false, false, false] rfl rfl (any_of HT_.out (by kernel_rfl)) (fun _ _ _ h => h) (Or.inl ⟨by rfl, ?_⟩) ?_ ?_
          rotate_left
          · intro w'
            go_simp
            with_reducible rfl
          rotate_left
          · simp only [Act.put, List.setIfInBounds_toArray, List.set_cons_zero, List.set_cons_succ, i64_w, i32_w]
            rfl
          refine pure_ (i := 4) (N := some 49) (v := ?_) (a' := ?_) #[false, true, true, true, true, false, false, false, false, false, false, false, false, false, false] rfl rfl (any_of HT_.out (by kernel_rfl)) (fun _ _ _ h => h) (Or.inl ⟨by rfl, ?_⟩) ?_ ?_
          rotate_left
          · intro w'
            go_simp
            with_reducible rfl
          rotate_left
          · simp only [Act.put, List.setIfInBounds_toArray, List.set_cons_zero, List.set_cons_succ, i64_w, i32_w]
            rfl
          refine pure_ (i := 6) (N := some 51) (v := ?_) (a' := ?_) #[false, true, true, true, true, false, true, false, false, false, false, false, false, false, false] rfl rfl (any_of HT_.out (by kernel_rfl)) (fun _ _ _ h => h) (Or.inl ⟨by rfl, ?_⟩) ?_ ?_
          rotate_left
          · intro w'
            go_simp
            with_reducible rfl
          rotate_left
          · simp only [Act.put, List.setIfInBounds_toArray, List.set_cons_zero, List.set_cons_succ, i64_w, i32_w]
            rfl
          refine take_ (i := 0) (N := some 45) (v := ?_) (a' := ?_) #[true, true, true, true, true, false, true, false, false, false, false, false, false, false, false] rfl rfl (take_ofW HT_.out HW_.out (by kernel_rfl)) (fun _ _ _ h => h) (Or.inl ⟨by rfl, ?_⟩) hHeld ?_ ?_
          rotate_left
          · rintro w' ⟨s0, s1, s2⟩
            go_simp
            with_reducible rfl
          rotate_left
          · simp only [Act.put, List.setIfInBounds_toArray, List.set_cons_zero, List.set_cons_succ, i64_w, i32_w]
            rfl
          refine take_ (i := 5) (N := some 50) (v := ?_) (a' := ?_) #[true, true, true, true, true, true, true, false, false, false, false, false, false, false, false] rfl rfl (take_ofW HT_.out HW_.out (by kernel_rfl)) (fun _ _ _ h => h) (Or.inl ⟨by rfl, ?_⟩) hHeld ?_ ?_
          rotate_left
          · rintro w' ⟨s0, s1, s2⟩
            go_simp
            with_reducible rfl
          rotate_left
          · simp only [Act.put, List.setIfInBounds_toArray, List.set_cons_zero, List.set_cons_succ, i64_w, i32_w]
            rfl
          refine one_ (i := 7) (N := some 52) #[true, true, true, true, true, true, true, true, false, false, false, false, false, false, false] rfl rfl (one_of HT_.out (by kernel_rfl)) (by decide) (fun K hK => ?_)
          refine goes_ Try.func39 (by kernel_rfl) rfl #[.agg #[.int .i64 n, .bool g], .int .i64 a, .slice A' x.length c', .int .i64 ex] (by rfl) rfl rfl (by (try simp only [List.map_toArray, List.map_cons, List.map_nil]); first | done | rfl) ?_
          with_reducible refine (spec_l3Worst.calls k n g a _ _ x ex p1 p2 p3 _ ?side1 ?side2 H1.out).mono ?_
          (case side1 => exact (Kd.R_reads' HE.out).2.2)
          (case side2 => exact (Kd.R_reads' HE.out).2.1)
          rintro e w22 ⟨rfl, hb⟩
          refine ⟨_, rfl, ?_⟩
          have HBX := Aside0.mk hb
          have n0_ := Aside0.mk (blk_below BK.out hb)
          have n1_ := Aside0.mk (below_step HB.out hb)
          have n2_ := Aside0.mk (Kd.R_below HE.out hb)
          have n3_ := Aside0.mk (Kd.R_below HBE.out hb)
          have n4_ := Aside0.mk (below_step HW.out hb)
          clear BK HB HW HE HBE hb
          have BK := n0_
          have HB := n1_
          have HE := n2_
          have HBE := n3_
          have HW := n4_
          clear n0_ n1_ n2_ n3_ n4_
          refine hK.out _ _ ⟨(blk_cell BK.out 0).trans rfl, (blk_cell BK.out 1).trans rfl, (HBX.out.cell (World.block_lt_of_cell? _ _ HX.out)).trans HX.out⟩ (fun hHeld => ?_)
          clear hK K
          refine norm_ (a' := ?_) ?_ ?_
          rotate_left
          · show Act.put _ (some 52) _ = _
            simp only [Act.put, List.setIfInBounds_toArray, List.set_cons_zero, List.set_cons_succ, i64_w, i32_w]
            rfl
          refine pure_ (i := 8) (N := some 44) (v := ?_) (a' := ?_) #[true, true, true, true, true, true, true, true, true, false, false, false, false, false, false] rfl rfl (any_of HT_.out (by kernel_rfl)) (fun _ _ _ h => h) (Or.inl ⟨by rfl, ?_⟩) ?_ ?_
          rotate_left
          · intro w'
            go_simp
            with_reducible rfl
          rotate_left
          · simp only [Act.put, List.setIfInBounds_toArray, List.set_cons_zero, List.set_cons_succ, i64_w, i32_w]
            rfl
          refine pure_ (i := 9) (N := some 53) (v := ?_) (a' := ?_) #[true, true, true, true, true, true, true, true, true, true, false, false, false, false, false] rfl rfl (any_of HT_.out (by kernel_rfl)) (fun _ _ _ h => h) (Or.inl ⟨by rfl, ?_⟩) ?_ ?_
          rotate_left
          · intro w'
            go_simp
            with_reducible rfl
          rotate_left
          · simp only [Act.put, List.setIfInBounds_toArray, List.set_cons_zero, List.set_cons_succ, i64_w, i32_w]
            rfl
          refine pure_ (i := 10) (N := some 54) (v := ?_) (a' := ?_) #[true, true, true, true, true, true, true, true, true, true, true, false, false, false, false] rfl rfl (any_of HT_.out (by kernel_rfl)) (fun _ _ _ h => h) (Or.inl ⟨by rfl, ?_⟩) ?_ ?_
          rotate_left
          · intro w'
            go_simp
            with_reducible rfl
          rotate_left
          · simp only [Act.put, List.setIfInBounds_toArray, List.set_cons_zero, List.set_cons_succ, i64_w, i32_w]
            rfl
          refine pure_ (i := 11) (N := some 55) (v := ?_) (a' := ?_) #[true, true, true, true, true, true, true, true, true, true, true, true, false, false, false] rfl rfl (any_of HT_.out (by kernel_rfl)) (fun _ _ _ h => h) (Or.inl ⟨by rfl, ?_⟩) ?_ ?_
          rotate_left
          · intro w'
            go_simp
            with_reducible rfl
          rotate_left
          · simp only [Act.put, List.setIfInBounds_toArray, List.set_cons_zero, List.set_cons_succ, i64_w, i32_w]
            rfl
          refine pure_ (i := 12) (N := some 11) (v := ?_) (a' := ?_) #[true, true, true, true, true, true, true, true, true, true, true, true, true, false, false] rfl rfl (any_of HT_.out (by kernel_rfl)) (fun _ _ _ h => h) (Or.inl ⟨by rfl, ?_⟩) ?_ ?_
          rotate_left
          · intro w'
            go_simp
            with_reducible rfl
          rotate_left
          · simp only [Act.put, List.setIfInBounds_toArray, List.set_cons_zero, List.set_cons_succ, i64_w, i32_w]
            rfl
          refine pure_ (i := 13) (N := some 12) (v := ?_) (a' := ?_) #[true, true, true, true, true, true, true, true, true, true, true, true, true, true, false] rfl rfl (any_of HT_.out (by kernel_rfl)) (fun _ _ _ h => h) (Or.inl ⟨by rfl, ?_⟩) ?_ ?_
          rotate_left
          · intro w'
            go_simp
            with_reducible rfl
          rotate_left
          · simp only [Act.put, List.setIfInBounds_toArray, List.set_cons_zero, List.set_cons_succ, i64_w, i32_w]
            rfl
          refine pure_ (i := 14) (N := some 13) (v := ?_) (a' := ?_) #[true, true, true, true, true, true, true, true, true, true, true, true, true, true, true] rfl rfl (any_of HT_.out (by kernel_rfl)) (fun _ _ _ h => h) (Or.inl ⟨by rfl, ?_⟩) ?_ ?_
          rotate_left
          · intro w'
            go_simp
            with_reducible rfl
          rotate_left
          · simp only [Act.put, List.setIfInBounds_toArray, List.set_cons_zero, List.set_cons_succ, i64_w, i32_w]
            rfl
          refine done_ (done_of HT_.out (by kernel_rfl)) ?_
          have hcz0 : w22.cell? ⟨gb, 0, none⟩ = some (.int .i64 n) := (blk_cell BK.out 0).trans rfl
          have hcz1 : w22.cell? ⟨gb, 1, none⟩ = some (.bool g) := (blk_cell BK.out 1).trans rfl
          have HX2 := Aside0.mk ((HBX.out.cell (World.block_lt_of_cell? _ _ HX.out)).trans HX.out)
          clear hHeld HX
          go_wp2_with fail
          refine (spec_l3Worst.calls k n g a _ _ b ex q1 q2 q3 _ (Kd.R_reads' HBE.out).2.2 (Kd.R_reads' HBE.out).2.1 H2.out).mono ?_
          rintro e w23 ⟨rfl, hb⟩
          have n0_ := Aside0.mk (blk_below BK.out hb)
          have n1_ := Aside0.mk (below_step HB.out hb)
          have n2_ := Aside0.mk (below_step HW.out hb)
          have n3_ := Aside0.mk (Kd.R_below HE.out hb)
          have n4_ := Aside0.mk (Kd.R_below HBE.out hb)
          have hx : w23.cell? (ad.add i) = some (.slice A' x.length c') := (hb.cell (World.block_lt_of_cell? _ _ HX2.out)).trans HX2.out
          clear BK HB HW HE HBE HX2 HBX hb hcz0 hcz1
          have BK := n0_
          have HB := n1_
          have HW := n2_
          have HE := n3_
          have HBE := n4_
          clear n0_ n1_ n2_ n3_ n4_
          have hA := HAA.out
          have hm1 := i64_w (p2 * q3)
          have hm2 := i64_w (q2 * p3)
          replace hA : (if wrap64 (p2 * q3) < wrap64 (q2 * p3) then spec_BestSearch.l0 k n g a ex (L.drop (i + 1)) x else spec_BestSearch.l0 k n g a ex (L.drop (i + 1)) b) = some q := hA
          generalize wrap64 (p2 * q3) = m1 at hA hm1
          generalize wrap64 (q2 * p3) = m2 at hA hm2
          by_cases cm : m1 < m2
          · rw [if_pos cm] at hA
            have HAN := Aside0.mk hA
            have cmb : decide (m1 < m2) = true := decide_eq_true cm
            clear cm hA HAA
            go_wp2
            go_roundg (gk - 1)
            case measure => have := HID.out; have := HI.out; omega
            case rel => exact ⟨i + 1, x, by first | rfl | rw [hw1], ⟨by have := HID.out; have := HI.out; omega⟩, HAN, BK, HB, HW, HE⟩
          · rw [if_neg cm] at hA
            have HAN := Aside0.mk hA
            have cmb : decide (m1 < m2) = false := decide_eq_false cm
            clear cm hA HAA hx
            go_wp2
            go_roundg (gk - 1)
            case measure => have := HID.out; have := HI.out; omega
            case rel => exact ⟨i + 1, b, by first | rfl | rw [hw1], ⟨by have := HID.out; have := HI.out; omega⟩, HAN, BK, HB, HW, HBE⟩
        · have c1b : decide ((i : Int) < (L.length : Int)) = false := decide_eq_false (by omega)
          have c1n : decide (i < L.length) = false := decide_eq_false ci
          have hA := HA.out
          rw [List.drop_of_length_le (by omega)] at hA
          obtain rfl := Option.some.inj hA
          clear hA ci HA
          go_wp2
          go_ret2
          exact ⟨_, rfl, HBE.out, HB.out⟩

end Go.Proofs.Ytaomldgodfbokaa.PFnExactBestSearch
