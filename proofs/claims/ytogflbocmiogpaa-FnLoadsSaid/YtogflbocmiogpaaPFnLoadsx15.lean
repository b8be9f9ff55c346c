-- Written for this claim by this session's turned copy of the printer.
import Derived.Test.YtogflbocmiogpaaPFnLoadsx0
import Derived.Test.YtogflbocmiogpaaPFnLoadsx8
import Derived.Test.YtogflbocmiogpaaPFnLoadsx14
namespace Go.Proofs.Ytogflbocmiogpaa.PFnLoads
open Go.RowKit Go.Proofs.YtogflbocmiogpaaW.PrintWords Go.Proofs.YtogflbocmiogpaaW.PrintLast Go.Proofs.YtogflbocmiogpaaW.PrintMore
attribute [local go_sem] max2_int min2_int max_two min_two max_three min_three max_four min_four   -- for this text's walks alone
set_option linter.unusedVariables false
set_option linter.unusedSimpArgs false

/-! ### spec_l1Own: function 134 -/
def spec_l1Own.f (l0 : List Int) : Option (List Int) := (some (([] : List Int) : List Int)).bind fun y402 => (if y402.length + l0.length < 17592186044416 then (some (y402 ++ l0)) else (none))
set_option maxHeartbeats 8000000 in
set_option maxRecDepth 100000 in
theorem spec_l1Own.calls (A0 : Option Addr) (c0 : Nat) (l0 : List Int) (r : List Int) (w : World) (hr0 : Kd.C (Kd.int .i64) w A0 l0.length l0) (hc0 : l0.length ≤ c0) (h : spec_l1Own.f l0 = some r) :
  Calls Try.prog 134 #[.slice A0 l0.length c0] w fun e w' => ∃ v0_ : Value, e = .returned (v0_) ∧ Kd.R (Kd.int .i64) 3 w' w.heap.size (fun _ => True) v0_ r ∧ Below w.heap.size w w' := by
 have HR0 := Aside0.mk hr0
 have HC0 := Aside0.mk hc0
 clear hr0 hc0
 have HB := Aside0.mk (Below.refl w.heap.size w)
 have H : ((some (([] : List Int) : List Int)).bind fun y402 => (if y402.length + l0.length < 17592186044416 then (some (y402 ++ l0)) else (none))) = some r := h
 clear h
 obtain ⟨y402, hy402⟩ : ∃ y_ : List Int, y_ = (([] : List Int)) := ⟨_, rfl⟩
 replace H : (if y402.length + l0.length < 17592186044416 then (some (y402 ++ l0)) else (none)) = some r := by (have H2_ := (Option.bind_some _ _).symm.trans H; rw [hy402]; exact H2_)
 have Ny402 := Aside0.mk hy402
 clear hy402
 by_cases c2 : y402.length + l0.length < 17592186044416
 rotate_left
 ·rw [if_neg c2] at H
  exact absurd H (by simp)
 rw [if_pos c2] at H
 have LMc2 := Aside0.mk c2
 clear c2
 obtain ⟨y405, hy405⟩ : ∃ y_ : List Int, y_ = (y402 ++ l0) := ⟨_, rfl⟩
 replace H : (some y405) = some r := by (rw [hy405]; exact H)
 have Ny405 := Aside0.mk hy405
 clear hy405
 obtain rfl := Option.some.inj H
 go_enter Try.func134, Try.ntmps134
 go_wp2_with (first | ((with_reducible refine gate_dst (N := 3) rfl ?_); refine Kd.R_lit (Kd.int .i64) _ 3 ?hg (N := 3) ?hd (xs := ([] : List Int)) (inner := []) (ok := fun _ => True) (okp := fun _ => True) ?hr ?hp (fun _ hk => hk) trivial (Below.refl _ _) (Nat.le_refl _) (by simp) ?_; (case hd => rfl); (case hg => rfl); (case hr => (go_simp; done)); (case hp => exact (Reps.none _ _)); intro v403 w3 ho4 hb hg_ hnew_; clear hg_ hnew_; ((rw [← Ny402.out] at ho4)); have n0_ := Aside0.mk (Kd.R_lower ho4 (below_size (by repeat ((with_reducible (exact HB.out)))))); have n1_ := Aside0.mk (below_step (by repeat ((with_reducible (exact HB.out)))) hb); clear HB; have HO404 := n0_; have HB := n1_; clear n0_ n1_; clear hb ho4) | ((with_reducible refine gate_builtin (b := .append) (xs := #[.tmp 3, .tmp 4]) rfl ?_); at_builtin; refine Kd.R_append_rows (Kd.int .i64) (w0 := w) w.heap.size rfl (.tmp 3) (.tmp 4) 30 3 (.int .i64 0) 8 rfl Try.underlying30 info3 rfl (by decide) (by omega) v403 y402 l0 _ _ _ (fun _ => True) (fun _ => False) rfl rfl ?aO ?aR (fun _ _ h => h) (fun _ h => h.elim) ?aF ?aB ?aS ?aL ?_; (case aR => repeat (exact (Kd.C_below HR0.out HB.out))); (case aB => exact (by repeat ((with_reducible (exact HB.out))))); (case aF => exact (fun _ _ => trivial)); (case aO => exact (by (with_reducible repeat (fail)); exact HO404.out)); (case aS => exact (below_size (by repeat ((with_reducible (exact HB.out)))))); (case aL => have := LMc2.out; omega); intro v406 w5 ho hb hg hat; rw [← Ny405.out] at ho; have n0_ := Aside0.mk (hb); have n1_ := Aside0.mk (ho); clear HB; clear HO404; have HB := n0_; have HO407 := n1_; clear n0_ n1_; clear ho hb hg hat))
 go_ret
 exact ⟨_, by (rfl), by (with_reducible repeat (fail)); exact HO407.out, by repeat ((with_reducible (exact HB.out)))⟩

/-! ### spec_l3All: function 93 -/
/-! ### rows apart, told anew -/
theorem spec_l3All.retag {α : Type} {d : Kd α} {f : Nat → Nat} {e : Nat} {w : World} {base : Nat} {ok : Nat → Prop} {v : Value} {ps : List (α × Nat)} (h : (Kd.tag f d).R e w base ok v ps) (hn : (ps.map Prod.snd).Nodup) : Kd.S d e w base ok v (ps.map Prod.fst) := by
 obtain ⟨h0, inner, ho, hr⟩ := h
 refine ⟨fun k => (ps.map Prod.snd).idxOf (f k), h0, inner, ?_, ?_, fun j p hj => ?_⟩
 ·rw [List.length_zipIdx, List.length_map]; exact ho
 ·rw [List.length_zipIdx, List.length_map]; exact hr.1
 ·rw [List.getElem?_zipIdx, Nat.zero_add] at hj
  obtain ⟨q, hq, rfl⟩ := Option.map_eq_some_iff.1 hj
  rw [List.getElem?_map] at hq
  obtain ⟨p, hp, rfl⟩ := Option.map_eq_some_iff.1 hq
  obtain ⟨hpl, hpe⟩ := List.getElem?_eq_some_iff.1 hp
  have hjl : j < (ps.map Prod.snd).length := by rw [List.length_map]; exact hpl
  have hx : (ps.map Prod.snd)[j] = p.2 := by rw [List.getElem_map, hpe]
  exact d.M_mono (fun k hk => ⟨hk.1, by show (ps.map Prod.snd).idxOf (f k) = j; rw [hk.2, ← hx]; exact List.Nodup.idxOf_getElem hn j hjl⟩) (hr.2 j p hp)
mutual
def spec_l3More.l0 : Nat → Int → List Int → List (List Int) → Int → Int → Bool → Option (List (List Int))
 | 0, _, _, _, _, _, _ => none
 | k + 1, x1, x2, x3, x9, n, g => if x9 < n then ((spec_l3Next.f k n g x1 x2 x9).bind fun t158 => (if t158 = true then ((spec_l1Own.f x2).bind fun t159 => (if t159.length + 1 < 1048576 then ((spec_l3More.f k n g x1 (t159 ++ [x9]) x3).bind fun t168 => (spec_l3More.l0 k x1 x2 t168 (wrap64 (x9 + 1)) n g)) else none)) else (spec_l3More.l0 k x1 x2 x3 (wrap64 (x9 + 1)) n g))) else (some x3)
def spec_l3More.f : Nat → Int → Bool → Int → List Int → List (List Int) → Option (List (List Int))
 | 0, _, _, _, _, _ => none
 | k + 1, n, g, a1, l2, a3 => (spec_l3Search.f k n g a1 l2).bind fun t157 => (if t157 = true then (if a3.length < 1048576 then (some (a3 ++ [l2])) else none) else (spec_l3More.l0 k a1 l2 a3 0 n g))
end
theorem spec_l3All.elem {f : Nat → Nat} {w : World} {base n c : Nat} {ok : Nat → Prop} {A : Option Addr} {xs : List (List Int × Nat)} (h : (Kd.tag f (Kd.slice 3 (Kd.int .i64))).R 30 w base ok (.slice A n c) xs) (i : Nat) (hi : i < xs.length) :
  ∃ ad A' c', A = some ad ∧ w.cell? (ad.add i) = some (.slice A' ((xs[i]).1).length c') ∧ (Kd.tag f (Kd.slice 3 (Kd.int .i64))).M w base (fun k => ok k ∧ some k ≠ (Value.slice A n c).ownBlock) xs[i] [.slice A' ((xs[i]).1).length c'] := by
 obtain ⟨g, cap, e, _⟩ := Kd.R_form h (by omega)
 injection e with e1 e2 e3
 subst e1
 obtain ⟨cs, hl, hM, hc⟩ := Kd.R_getA h ([], 0) (i : Int) (by omega) (by omega)
 rw [Int.toNat_natCast, List.getD_eq_getElem?_getD, List.getElem?_eq_getElem hi, Option.getD_some] at hM
 obtain ⟨v, rfl, hv⟩ := hM
 obtain ⟨A', c', rfl⟩ := Kd.R_slice hv
 refine ⟨_, A', c', rfl, ?_, ⟨_, rfl, hv⟩⟩
 have h2 := hc 0 _ rfl
 rw [show ((i : Int).toNat * (Kd.tag f (Kd.slice 3 (Kd.int .i64))).sz + 0) = i by rw [Int.toNat_natCast]; show i * 1 + 0 = i; omega] at h2
 exact h2
def spec_l3All.outer (all : List (List Int × Nat)) : Nat → Int → List (List Int × Nat) → Option (List (List Int × Nat))
 | 0, _, _ => none
 | k + 1, m, out => if (out.length : Int) < (all.length : Int) then spec_l3All.outer all k (m + 1) (out ++ all.filter (fun p => decide ((p.1.length : Int) = m))) else some out
def spec_l3All.f (n : Int) (g : Bool) (a1 : Int) : Option (List (List Int)) := (spec_l3More.f 200 n g a1 [] []).bind fun all => if all.length < 1048576 then (spec_l3All.outer all.zipIdx 60 1 []).bind fun ps => if (ps.map Prod.snd).Nodup then some (ps.map Prod.fst) else none else none
/-! ### impl_copied: function 118 -/
def impl_copied.f (l0 : List Int) : Option (List Int) := (some (([] : List Int) : List Int)).bind fun y408 => (if y408.length + l0.length < 17592186044416 then (some (y408 ++ l0)) else (none))
set_option maxHeartbeats 8000000 in
set_option maxRecDepth 100000 in
theorem impl_copied.calls (A0 : Option Addr) (c0 : Nat) (l0 : List Int) (r : List Int) (w : World) (hr0 : Kd.C (Kd.int .i64) w A0 l0.length l0) (hc0 : l0.length ≤ c0) (h : impl_copied.f l0 = some r) :
  Calls Try.prog 118 #[.slice A0 l0.length c0] w fun e w' => ∃ v0_ : Value, e = .returned (v0_) ∧ Kd.R (Kd.int .i64) 3 w' w.heap.size (fun _ => True) v0_ r ∧ Below w.heap.size w w' := by
 have HR0 := Aside0.mk hr0
 have HC0 := Aside0.mk hc0
 clear hr0 hc0
 have HB := Aside0.mk (Below.refl w.heap.size w)
 have H : ((some (([] : List Int) : List Int)).bind fun y408 => (if y408.length + l0.length < 17592186044416 then (some (y408 ++ l0)) else (none))) = some r := h
 clear h
 obtain ⟨y408, hy408⟩ : ∃ y_ : List Int, y_ = (([] : List Int)) := ⟨_, rfl⟩
 replace H : (if y408.length + l0.length < 17592186044416 then (some (y408 ++ l0)) else (none)) = some r := by (have H2_ := (Option.bind_some _ _).symm.trans H; rw [hy408]; exact H2_)
 have Ny408 := Aside0.mk hy408
 clear hy408
 by_cases c2 : y408.length + l0.length < 17592186044416
 rotate_left
 ·rw [if_neg c2] at H
  exact absurd H (by simp)
 rw [if_pos c2] at H
 have LMc2 := Aside0.mk c2
 clear c2
 obtain ⟨y411, hy411⟩ : ∃ y_ : List Int, y_ = (y408 ++ l0) := ⟨_, rfl⟩
 replace H : (some y411) = some r := by (rw [hy411]; exact H)
 have Ny411 := Aside0.mk hy411
 clear hy411
 obtain rfl := Option.some.inj H
 go_enter Try.func118, Try.ntmps118
 go_wp2_with (first | ((with_reducible refine gate_dst (N := 3) rfl ?_); refine Kd.R_lit (Kd.int .i64) _ 3 ?hg (N := 3) ?hd (xs := ([] : List Int)) (inner := []) (ok := fun _ => True) (okp := fun _ => True) ?hr ?hp (fun _ hk => hk) trivial (Below.refl _ _) (Nat.le_refl _) (by simp) ?_; (case hd => rfl); (case hg => rfl); (case hr => (go_simp; done)); (case hp => exact (Reps.none _ _)); intro v409 w3 ho4 hb hg_ hnew_; clear hg_ hnew_; ((rw [← Ny408.out] at ho4)); have n0_ := Aside0.mk (Kd.R_lower ho4 (below_size (by repeat ((with_reducible (exact HB.out)))))); have n1_ := Aside0.mk (below_step (by repeat ((with_reducible (exact HB.out)))) hb); clear HB; have HO410 := n0_; have HB := n1_; clear n0_ n1_; clear hb ho4) | ((with_reducible refine gate_builtin (b := .append) (xs := #[.tmp 3, .tmp 4]) rfl ?_); at_builtin; refine Kd.R_append_rows (Kd.int .i64) (w0 := w) w.heap.size rfl (.tmp 3) (.tmp 4) 30 3 (.int .i64 0) 8 rfl Try.underlying30 info3 rfl (by decide) (by omega) v409 y408 l0 _ _ _ (fun _ => True) (fun _ => False) rfl rfl ?aO ?aR (fun _ _ h => h) (fun _ h => h.elim) ?aF ?aB ?aS ?aL ?_; (case aR => repeat (exact (Kd.C_below HR0.out HB.out))); (case aB => exact (by repeat ((with_reducible (exact HB.out))))); (case aF => exact (fun _ _ => trivial)); (case aO => exact (by (with_reducible repeat (fail)); exact HO410.out)); (case aS => exact (below_size (by repeat ((with_reducible (exact HB.out)))))); (case aL => have := LMc2.out; omega); intro v412 w5 ho hb hg hat; rw [← Ny411.out] at ho; have n0_ := Aside0.mk (hb); have n1_ := Aside0.mk (ho); clear HB; clear HO410; have HB := n0_; have HO413 := n1_; clear n0_ n1_; clear ho hb hg hat))
 go_ret
 exact ⟨_, by (rfl), by (with_reducible repeat (fail)); exact HO413.out, by repeat ((with_reducible (exact HB.out)))⟩

/-! ### slices_Clone_int_int: function 119 -/
theorem slices_Clone_int_int.nil0 {P : Program} (w : World) (d : Nat) (t e : TypeId) (a : Option Addr) (n c n' c' : Nat) (h : P.underlying t = some (.slice e)) : (Op.equalIn (d + 1) t (.slice a n c) (.slice none n' c')).run P w = .ok a.isNone w := by
 cases a <;> simp [Op.equalIn, run_underlying h]
theorem slices_Clone_int_int.nil {P : Program} (w : World) (t e : TypeId) (a : Option Addr) (n c n' c' : Nat) (h : P.underlying t = some (.slice e)) : (binOp .eql t (.slice a n c) (.slice none n' c')).run P w = .ok (.bool a.isNone) w := by
 simp only [binOp]
 simp [Op.equal, Op.maxDepth, slices_Clone_int_int.nil0 w 9999 t e a n c n' c' h]
theorem slices_Clone_int_int.info : (Try.prog.info? 3).map (fun i => (i.zero, i.size, i.bytes)) = some (some (.int .i64 0), 1, 8) := by kernel_rfl
def slices_Clone_int_int.f (l0 : List Int) : Option (List Int) := if l0.length < 1048576 then some l0 else none
set_option maxHeartbeats 1600000 in
set_option maxRecDepth 100000 in
theorem slices_Clone_int_int.calls (A0 : Option Addr) (c0 : Nat) (l0 : List Int) (r : List Int) (w : World) (hr0 : Kd.C (Kd.int .i64) w A0 l0.length l0) (hc0 : l0.length ≤ c0) (h : slices_Clone_int_int.f l0 = some r) :
  Calls Try.prog 119 #[.slice A0 l0.length c0] w fun e w' => ∃ v0_ : Value, e = .returned v0_ ∧ Kd.R (Kd.int .i64) 3 w' w.heap.size (fun _ => True) v0_ r ∧ Below w.heap.size w w' := by
 have q24 : ∀ (w : World) (a : Option Addr) (n c n2 c2 : Nat), (binOp .eql 30 (.slice a n c) (.slice none n2 c2)).run Try.prog w = .ok (.bool a.isNone) w := fun w a n c n2 c2 => slices_Clone_int_int.nil w _ _ a n c n2 c2 Try.underlying30
 unfold slices_Clone_int_int.f at h
 by_cases cl : l0.length < 1048576
 rotate_left
 ·rw [if_neg cl] at h; cases h
 rw [if_pos cl] at h
 obtain rfl := Option.some.inj h
 have HR0 := Aside0.mk hr0
 have LM := Aside0.mk cl
 have HB := Aside0.mk (Below.refl w.heap.size w)
 cases A0 with
 | none =>
  have h0 : l0.length = 0 := by
   rcases Nat.eq_zero_or_pos l0.length with h0 | h0
   ·exact h0
   obtain ⟨ad, e, _⟩ := hr0.2.2 h0
   cases e
  obtain rfl := List.eq_nil_of_length_eq_zero h0
  clear h h0 cl hr0 hc0
  go_enter Try.func119, Try.ntmps119
  go_wp2
  go_ret
  exact ⟨_, rfl, Kd.R_nil _ _ _ _ _, Below.refl _ _⟩
 | some ad =>
  clear h cl hr0 hc0
  go_enter Try.func119, Try.ntmps119
  go_wp2_with (first | ((with_reducible refine gate_dst (N := 5) rfl ?_); refine Kd.R_lit (Kd.int .i64) _ 3 ?hg (N := 5) ?hd (xs := ([] : List Int)) (inner := []) (ok := fun _ => True) (okp := fun _ => True) ?hr ?hp (fun _ hk => hk) trivial (Below.refl _ _) (Nat.le_refl _) (by simp) ?_; (case hd => rfl); (case hg => rfl); (case hr => (go_simp; done)); (case hp => exact (Reps.none _ _)); intro v5 w3 ho hb hg_ hnew_; have HO := Aside0.mk ho; have n1_ := Aside0.mk (below_step HB.out hb); clear HB hg_ hnew_ ho hb; have HB := n1_; clear n1_) | ((with_reducible refine gate_builtin (b := .append) (xs := #[.tmp 5, .tmp 6]) rfl ?_); at_builtin; refine Kd.R_append_rows (Kd.int .i64) (w0 := w) w.heap.size rfl (.tmp 5) (.tmp 6) 30 3 (.int .i64 0) 8 rfl Try.underlying30 slices_Clone_int_int.info rfl (by decide) (by omega) v5 [] l0 _ _ _ (fun _ => True) (fun _ => False) rfl rfl ?aO ?aR (fun _ _ h => h) (fun _ h => h.elim) ?aF ?aB ?aS ?aL ?_; (case aR => exact Kd.C_below HR0.out HB.out); (case aB => exact HB.out); (case aF => exact (fun _ _ => trivial)); (case aO => exact Kd.R_lower HO.out (Nat.le_refl _)); (case aS => exact below_size HB.out); (case aL => have := LM.out; simp only [List.length_nil]; omega); intro v7 w5 ho hb hg hat; rw [List.nil_append] at ho; have HO7 := Aside0.mk ho; have HB7 := Aside0.mk hb; clear ho hb hg hat))
  go_ret
  exact ⟨_, rfl, HO7.out, HB7.out⟩

end Go.Proofs.Ytogflbocmiogpaa.PFnLoads
