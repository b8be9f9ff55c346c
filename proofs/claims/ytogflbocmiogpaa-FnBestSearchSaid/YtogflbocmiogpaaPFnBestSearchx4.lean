-- Written for this claim by this session's turned copy of the printer.
import Derived.Test.YtogflbocmiogpaaPFnBestSearchx0
import Derived.Test.YtogflbocmiogpaaPFnBestSearchx2
import Derived.Test.YtogflbocmiogpaaPFnBestSearchx3
namespace Go.Proofs.Ytogflbocmiogpaa.PFnBestSearch
open Go.RowKit Go.Proofs.YtogflbocmiogpaaW.PrintWords Go.Proofs.YtogflbocmiogpaaW.PrintLast Go.Proofs.YtogflbocmiogpaaW.PrintMore
open List renaming setIfInBounds_toArray → sT_, set_cons_zero → sZ_, set_cons_succ → sS_, map_toArray → mT_, map_cons → mC_, map_nil → mN_
open Bool renaming true → Y_, false → N_
attribute [local go_sem] max2_int min2_int max_two min_two Fj Fh max_four min_four   -- for this text's walks alone
set_option linter.unusedVariables false
set_option linter.unusedSimpArgs false

/-! ### spec_l1Own: function 134 -/
def spec_l1Own.f (l0 : List Int) : Option (List Int) := (some (([] : List Int) : List Int)).bind fun y142 => (if y142.length + l0.length < 17592186044416 then (some (y142 ++ l0)) else (none))
set_option maxHeartbeats 8000000 in
set_option maxRecDepth 100000 in
theorem spec_l1Own.calls (A0 : Option Addr) (c0 : Nat) (l0 : List Int) (r : List Int) (w : World) (hr0 : Kd.C (Kd.int .i64) w A0 l0.length l0) (hc0 : l0.length ≤ c0) (h : spec_l1Own.f l0 = some r) :
  Calls Try.prog 134 #[.slice A0 l0.length c0] w fun e w' => ∃ v0_ : Value, e = .returned (v0_) ∧ Kd.R (Kd.int .i64) 3 w' w.heap.size (fun _ => True) v0_ r ∧ Below w.heap.size w w' := by
 have HR0 := Aa.k hr0
 have HC0 := Aa.k hc0
 clear hr0 hc0
 have HB := Aa.k (Below.refl w.heap.size w)
 have H : ((some (([] : List Int) : List Int)).bind fun y142 => (if y142.length + l0.length < 17592186044416 then (some (y142 ++ l0)) else (none))) = some r := h
 clear h
 obtain ⟨y142, hy142⟩ : ∃ y_ : List Int, y_ = (([] : List Int)) := ⟨_, rfl⟩
 replace H : (if y142.length + l0.length < 17592186044416 then (some (y142 ++ l0)) else (none)) = some r := by (have H2_ := (Option.bind_some _ _).symm.trans H; rw [hy142]; exact H2_)
 have Ny142 := Aa.k hy142
 clear hy142
 by_cases c2 : y142.length + l0.length < 17592186044416
 rotate_left
 ·rw [if_neg c2] at H
  exact absurd H (by simp)
 rw [if_pos c2] at H
 have LMc2 := Aa.k c2
 clear c2
 obtain ⟨y145, hy145⟩ : ∃ y_ : List Int, y_ = (y142 ++ l0) := ⟨_, rfl⟩
 replace H : (some y145) = some r := by (rw [hy145]; exact H)
 have Ny145 := Aa.k hy145
 clear hy145
 obtain rfl := Option.some.inj H
 go_enter Try.func134, Try.ntmps134
 go_wp2_with (first | ((with_reducible refine Be (N := 3) rfl ?_); refine Kd.R_lit (Kd.int .i64) _ 3 ?hg (N := 3) ?hd (xs := ([] : List Int)) (inner := []) (ok := fun _ => True) (okp := fun _ => True) ?hr ?hp (fun _ hk => hk) trivial (Below.refl _ _) (Nat.le_refl _) (by simp) ?_; (case hd => rfl); (case hg => rfl); (case hr => (go_simp; done)); (case hp => exact (Reps.none _ _)); intro v143 w3 ho4 hb hg_ hnew_; clear hg_ hnew_; ((rw [← Ny142.o] at ho4)); have n0_ := Aa.k (Kd.Ct ho4 (Af HB.o)); have n1_ := Aa.k (Ad HB.o hb); clear HB; have HO144 := n0_; have HB := n1_; clear n0_ n1_; clear hb ho4) | ((with_reducible refine Ef (b := .append) (xs := #[.tmp 3, .tmp 4]) rfl ?_); at_builtin; refine Kd.R_append_rows (Kd.int .i64) (w0 := w) w.heap.size rfl (.tmp 3) (.tmp 4) 30 3 (.int .i64 0) 8 rfl Try.underlying30 info3 rfl (by decide) (by omega) v143 y142 l0 _ _ _ (fun _ => True) (fun _ => False) rfl rfl ?aO ?aR (fun _ _ h => h) (fun _ h => h.elim) ?aF ?aB ?aS ?aL ?_; (case aR => repeat (exact (Kd.Dx HR0.o HB.o))); (case aB => exact HB.o); (case aF => exact (fun _ _ => trivial)); (case aO => exact (by exact HO144.o)); (case aS => exact (Af HB.o)); (case aL => have := LMc2.o; omega); intro v146 w5 ho hb hg hat; rw [← Ny145.o] at ho; have n0_ := Aa.k (hb); have n1_ := Aa.k (ho); clear HB; clear HO144; have HB := n0_; have HO147 := n1_; clear n0_ n1_; clear ho hb hg hat))
 go_ret
 exact ⟨_, by (rfl), by exact HO147.o, by exact HB.o⟩

/-! ### spec_l3All: function 93 -/
/-! ### rows apart, told anew -/
theorem Dw.retag {α : Type} {d : Kd α} {f : Nat → Nat} {e : Nat} {w : World} {base : Nat} {ok : Nat → Prop} {v : Value} {ps : List (α × Nat)} (h : (Kd.tag f d).R e w base ok v ps) (hn : (ps.map Prod.snd).Nodup) : Kd.S d e w base ok v (ps.map Prod.fst) := by
 obtain ⟨h0, inner, ho, hr⟩ := h
 refine ⟨fun k => (ps.map Prod.snd).idxOf (f k), h0, inner, ?_, ?_, fun j p hj => ?_⟩
 ·rw [List.length_zipIdx, List.length_map]; exact ho
 ·rw [List.length_zipIdx, List.length_map]; exact hr.1
 ·rw [List.getElem?_zipIdx, Nat.zero_add] at hj
  obtain ⟨q, hq, rfl⟩ := Option.map_eq_some_iff.1 hj
  rw [List.getElem?_map] at hq
  obtain ⟨p, hp, rfl⟩ := Option.map_eq_some_iff.1 hq
  obtain ⟨hpl, hpe⟩ := List.getElem?_eq_some_iff.1 hp
  have hjl : j < (ps.map Prod.snd).length := by rw [List.length_map]; exact hpl
  have hx : (ps.map Prod.snd)[j] = p.2 := by rw [List.getElem_map, hpe]
  exact d.M_mono (fun k hk => ⟨hk.1, by show (ps.map Prod.snd).idxOf (f k) = j; rw [hk.2, ← hx]; exact List.Nodup.idxOf_getElem hn j hjl⟩) (hr.2 j p hp)
theorem Dw.info : (Try.prog.info? 30).map (fun i => (i.zero, i.size, i.bytes)) = some (some (.slice none 0 0), 1, 24) := by kernel_rfl
theorem Dw.infoI : (Try.prog.info? 3).map (fun i => (i.zero, i.size, i.bytes)) = some (some (.int .i64 0), 1, 8) := by kernel_rfl
mutual
def Er.l0 : Nat → Int → List Int → List (List Int) → Int → Int → Bool → Option (List (List Int))
 | 0, _, _, _, _, _, _ => none
 | k + 1, x1, x2, x3, x9, n, g => if x9 < n then ((De.f k n g x1 x2 x9).bind fun t158 => (if t158 = true then ((spec_l1Own.f x2).bind fun t159 => (if t159.length + 1 < 1048576 then ((Er.f k n g x1 (t159 ++ [x9]) x3).bind fun t168 => (Er.l0 k x1 x2 t168 (wrap64 (x9 + 1)) n g)) else none)) else (Er.l0 k x1 x2 x3 (wrap64 (x9 + 1)) n g))) else (some x3)
def Er.f : Nat → Int → Bool → Int → List Int → List (List Int) → Option (List (List Int))
 | 0, _, _, _, _, _ => none
 | k + 1, n, g, a1, l2, a3 => (Ay.f k n g a1 l2).bind fun t157 => (if t157 = true then (if a3.length < 1048576 then (some (a3 ++ [l2])) else none) else (Er.l0 k a1 l2 a3 0 n g))
end
def Er.T7 : Bool × List (List Nat × List Nat) := (true, [([], []), ([], []), ([], []), ([2], [2]), ([], []), ([4], [4]), ([3, 5, 3], [3, 5]), ([], []), ([0, 1, 6, 7, 6], [0, 1, 6, 7]), ([8, 8, 0, 1, 2, 3, 4, 5, 6, 7, 8], [7, 8])])
def Er.B7 : List Nat := [0, 0, 0, 4, 0, 16, 60, 0, 255, 511]
theorem Er.tab7 : rtab .any (opsOf Try.f125 7) = Er.T7 := by kernel_rfl
theorem Er.bits7 : waitsOk Er.T7.2 Er.B7 = true := by kernel_rfl
set_option maxHeartbeats 8000000 in
set_option maxRecDepth 100000 in
theorem Er.calls (k : Nat) : ∀ (n : Int) (g : Bool) (a1 : Int) (A2 : Option Addr) (c2 : Nat) (l2 : List Int) (v3 : Value) (a3 r : List (List Int)) (ok : Nat → Prop) (w0 w : World) (hB0 : Below w0.heap.size w0 w) (hr2 : Kd.R (Kd.int .i64) 3 w w0.heap.size (fun k_ => some k_ = (.slice A2 l2.length c2 : Value).ownBlock) (.slice A2 l2.length c2) l2)
  (h3 : Kd.S (Kd.slice 3 (Kd.int .i64)) 30 w w0.heap.size (fun k_ => ok k_ ∧ some k_ ≠ (.slice A2 l2.length c2 : Value).ownBlock) v3 a3) (hok : ∀ k_, w.heap.size ≤ k_ → ok k_) (hok2 : ∀ k_, some k_ = (.slice A2 l2.length c2 : Value).ownBlock → ok k_) (h : Er.f k n g a1 l2 a3 = some r),
  Calls Try.prog 125 #[.agg #[.int .i64 n, .bool g], .int .i64 a1, .slice A2 l2.length c2, v3] w fun e w' => ∃ v, e = .returned v ∧ Kd.S (Kd.slice 3 (Kd.int .i64)) 30 w' w0.heap.size ok v r ∧ Below w0.heap.size w0 w' ∧ Kept w w' (fun k_ => ok k_ ∧ some k_ ≠ (.slice A2 l2.length c2 : Value).ownBlock) := by
 induction k using Nat.strongRecOn with
 | _ k ih =>
 intro n g a1 A2 c2 l2 v3 a3 r ok w0 w hB0 hr2 h3 hok hok2 h
 cases k with
 | zero => exact absurd h (by simp [Er.f])
 | succ k =>
 simp only [Er.f] at h
 have hu27 := Try.underlying25
 have HR2 := Aa.k (Kd.Bb hr2).2.2
 have HC2 := Aa.k (Kd.Bb hr2).2.1
 have HLT := Aa.k (Kd.R_lt hr2)
 have HR := Aa.k hr2
 have HS := Aa.k h3
 have HB0 := Aa.k hB0
 have HOK := Aa.k hok
 have HOK2 := Aa.k hok2
 have HIH := Aa.k ih
 have HB := Aa.k (Below.refl w.heap.size w)
 clear hr2 h3 hB0 hok hok2 ih
 obtain ⟨t157, A50, H⟩ := Option.bind_eq_some_iff.mp h
 clear h
 have A5 := Aa.k A50
 clear A50
 cases t157 with
 | true =>
  rw [if_pos rfl] at H
  by_cases c7 : a3.length < 1048576
  rotate_left
  ·rw [if_neg c7] at H; cases H
  rw [if_pos c7] at H
  obtain rfl := Option.some.inj H
  clear H
  have LM := Aa.k c7
  clear c7
  go_enter Try.func125, Try.ntmps125
  go_wp2_with (first | ((with_reducible refine Be (N := 4) rfl ?_); refine Bo ?hg (N := 4) ?hd (cs := #[.int .i64 n, .bool g]) (t := 25) ?hr ?_; (case hd => rfl); (case hg => rfl); (case hr => (go_simp; done)); intro gb hg w7 hbox hb; have n0_ := Aa.k (Ad HB.o hb); have BK := Aa.k hbox; have GE := Aa.k ((by rw [hg]; exact Af HB.o) : w.heap.size ≤ gb); clear HB; have HB := n0_; clear n0_ hb hbox hg; have hcz0 := Bj BK.o; have hcz1 := Bn BK.o; have hfz0 := Ac BK.o 0; have hfz1 := Ac BK.o 1) | ((with_reducible refine Aj (f := 103) rfl ?_); refine Bf (some 13) rfl rfl Try.func103 (by kernel_rfl) rfl #[.agg #[.int .i64 n, .bool g], .int .i64 a1, .slice A2 l2.length c2] rfl (by (try simp only [mT_, mC_, mN_]); rfl) ?_; (with_reducible refine (Ay.calls k n g a1 _ _ l2 true _ ?side1 ?side2 A5.o).mono ?_); (case side1 => exact Kd.Dx HR2.o HB.o); (case side2 => exact HC2.o); rintro e w9 ⟨rfl, hb⟩; refine ⟨_, rfl, ?_⟩; have n0_ := Aa.k (Ae BK.o hb); have n1_ := Aa.k (Ad HB.o hb); clear BK HB hb; have BK := n0_; have HB := n1_; clear n0_ n1_) | ((with_reducible refine Ef (b := .append) (xs := #[.tmp 14, .tmp 16]) rfl ?_); at_builtin; refine Kd.S_append (Kd.slice 3 (Kd.int .i64)) (w0 := w0) w0.heap.size rfl (.tmp 14) (.tmp 16) 48 30 (.slice none 0 0) 24 rfl Try.underlying48 Dw.info rfl (by decide) (by omega) v3 a3 l2 [.slice A2 l2.length c2] ok (fun k_ => some k_ = (.slice A2 l2.length c2 : Value).ownBlock) rfl rfl ?aP ?aK ?aF ?aO ?aB ?aS ?aL ?_; (case aP => exact ⟨_, rfl, Kd.Ba HR.o HB.o⟩); (case aK => exact fun k_ e_ => ⟨HOK2.o k_ e_, fun e2_ => ((Kd.S_R HS.o).1 k_ e2_.symm).2 e_⟩); (case aF => exact fun k_ h_ => HOK.o k_ (Nat.le_trans (Af HB.o) h_)); (case aO => exact Kd.Du HS.o HB.o); (case aB => exact below_weaken HB0.o (Af HB0.o) HB.o); (case aS => exact Nat.le_trans (Af HB0.o) (Af HB.o)); (case aL => have := LM.o; omega); intro v1 w1 hs hb hg hat; have HN := Aa.k hs; have HNB := Aa.k hb; have HNK := Aa.k (Kept.of_grown hg (Kept.of_below HB.o (fun k_ => ok k_ ∧ some k_ ≠ (.slice A2 l2.length c2 : Value).ownBlock)) (fun k_ e_ => .inl ((Kd.S_R HS.o).1 k_ e_))); clear hs hb hg hat))
  go_ret
  exact ⟨_, rfl, HN.o, HNB.o, HNK.o⟩
 | false =>
  rw [if_neg (show ¬ (false = true) by decide)] at H
  have H' := Aa.k H
  clear H
  go_enter Try.func125, Try.ntmps125
  go_wp2_with (first | ((with_reducible refine Be (N := 4) rfl ?_); refine Bo ?hg (N := 4) ?hd (cs := #[.int .i64 n, .bool g]) (t := 25) ?hr ?_; (case hd => rfl); (case hg => rfl); (case hr => (go_simp; done)); intro gb hg w7 hbox hb; have n0_ := Aa.k (Ad HB.o hb); have BK := Aa.k hbox; have GE := Aa.k ((by rw [hg]; exact Af HB.o) : w.heap.size ≤ gb); clear HB; have HB := n0_; clear n0_ hb hbox hg; have hcz0 := Bj BK.o; have hcz1 := Bn BK.o; have hfz0 := Ac BK.o 0; have hfz1 := Ac BK.o 1) | ((with_reducible refine Aj (f := 103) rfl ?_); refine Bf (some 13) rfl rfl Try.func103 (by kernel_rfl) rfl #[.agg #[.int .i64 n, .bool g], .int .i64 a1, .slice A2 l2.length c2] rfl (by (try simp only [mT_, mC_, mN_]); rfl) ?_; (with_reducible refine (Ay.calls k n g a1 _ _ l2 false _ ?side1 ?side2 A5.o).mono ?_); (case side1 => exact Kd.Dx HR2.o HB.o); (case side2 => exact HC2.o); rintro e w9 ⟨rfl, hb⟩; refine ⟨_, rfl, ?_⟩; have n0_ := Aa.k (Ae BK.o hb); have n1_ := Aa.k (Ad HB.o hb); clear BK HB hb; have BK := n0_; have HB := n1_; clear n0_ n1_))
  have n0_ := Aa.k (show Kd.S (Kd.slice 3 (Kd.int .i64)) 30 _ w0.heap.size (fun k_ => (ok k_ ∧ some k_ ≠ (.slice A2 l2.length c2 : Value).ownBlock) ∧ k_ ≠ gb) v3 a3 from Kd.S_mono (Kd.S_old HS.o HB.o) (fun k_ h_ => ⟨h_.1, fun e_ => by have := GE.o; have := h_.2; omega⟩))
  have n1_ := Aa.k (Kd.Ba HR.o HB.o)
  have n2_ := Aa.k (below_weaken HB0.o (Af HB0.o) HB.o)
  have n3_ := Aa.k (Kept.of_below HB.o (fun k_ => ok k_ ∧ some k_ ≠ (.slice A2 l2.length c2 : Value).ownBlock))
  clear HS HR HB HR2 HB0
  have HS := n0_
  have HR := n1_
  have HBB := n2_
  have HKP := n3_
  clear n0_ n1_ n2_ n3_
  go_loopg [3, 9] k (fun kq u3 v9 w' => ∃ (x3 : List (List Int)) (x9 : Int), v9 = .int .i64 x9 ∧ Aa (Er.l0 kq a1 l2 x3 x9 n g = some r) ∧ Aa (kq ≤ k) ∧ Aa (Kd.S (Kd.slice 3 (Kd.int .i64)) 30 w' w0.heap.size (fun k_ => (ok k_ ∧ some k_ ≠ (.slice A2 l2.length c2 : Value).ownBlock) ∧ k_ ≠ gb) u3 x3) ∧ Aa (Kd.R (Kd.int .i64) 3 w' w0.heap.size (fun k_ => some k_ = (.slice A2 l2.length c2 : Value).ownBlock) (.slice A2 l2.length c2) l2) ∧ Aa (w'.heap[gb]? = some (.cells #[.int .i64 n, .bool g] 25 (0, 0))) ∧ Aa (Below w0.heap.size w0 w') ∧ Aa (Kept w w' (fun k_ => ok k_ ∧ some k_ ≠ (.slice A2 l2.length c2 : Value).ownBlock)))
  case atStart => exact ⟨a3, 0, rfl, H', ⟨Nat.le_refl _⟩, HS, HR, BK, HBB, HKP⟩
  case round =>
   clear H' HS HR BK HBB HKP
   clear hcz0 hcz1 hfz0 hfz1
   obtain ⟨x3, x9, rfl, HA, HK1, HS, HR, BK, HBB, HKP⟩ := hrel
   have HR2 := Aa.k (Kd.Bb HR.o).2.2
   have HB := Aa.k (Below.refl wr.heap.size wr)
   have HFR := Aa.k (show ∀ k_, wr.heap.size ≤ k_ → (fun k_ => (ok k_ ∧ some k_ ≠ (.slice A2 l2.length c2 : Value).ownBlock) ∧ k_ ≠ gb) k_ from fun k_ h_ => ⟨⟨HOK.o k_ (Nat.le_trans HKP.o.1 h_), fun e_ => by have := HLT.o k_ e_.symm; have := HKP.o.1; omega⟩, fun e_ => by have := Ca BK.o; omega⟩)
   have hcz0 := Bj BK.o
   have hcz1 := Bn BK.o
   have hfz0 := Ac BK.o 0
   have hfz1 := Ac BK.o 1
   cases gk with
   | zero => exact absurd HA.o (by simp [Er.l0])
   | succ k1 =>
    have H := HA.o
    clear HA
    simp only [Er.l0] at H
    by_cases c13 : x9 < n
    rotate_left
    ·rw [if_neg c13] at H
     have c13b0 : decide (x9 < n) = false := decide_eq_false c13
     clear c13
     obtain rfl := Option.some.inj H
     go_wp2
     go_ret
     exact ⟨_, rfl, Kd.S_mono HS.o (fun _ h_ => h_.1.1), HBB.o, HKP.o⟩
    rw [if_pos c13] at H
    have c13b0 : decide (x9 < n) = true := decide_eq_true c13
    clear c13
    obtain ⟨t158, A140, H⟩ := Option.bind_eq_some_iff.mp H
    have A14 := Aa.k A140
    clear A140
    cases t158 with
    | true =>
     rw [if_pos rfl] at H
     obtain ⟨t159, A160, H⟩ := Option.bind_eq_some_iff.mp H
     have A16 := Aa.k A160
     clear A160
     by_cases c17 : t159.length + 1 < 1048576
     rotate_left
     ·rw [if_neg c17] at H; cases H
     rw [if_pos c17] at H
     have LM := Aa.k c17
     clear c17
     obtain ⟨t168, A180, H⟩ := Option.bind_eq_some_iff.mp H
     have A18 := Aa.k A180
     clear A180
     have H' := Aa.k H
     clear H
     have HS0 := HS
     have HR0 := HR
     have BK0 := BK
     try go_wp2_with (((refine Aj (f := 133) rfl ?_); refine Bf (some 28) rfl rfl Try.func133 (by kernel_rfl) rfl #[.agg #[.int .i64 n, .bool g], .int .i64 a1, .slice A2 l2.length c2, .int .i64 x9] rfl (by (try simp only [mT_, mC_, mN_]); rfl) ?_; (refine (De.calls k1 n g a1 _ _ l2 x9 true _ ?side1 ?side2 A14.o).mono ?_); (case side1 => exact Kd.Dx HR2.o HB.o); (case side2 => exact HC2.o); rintro e w9 ⟨rfl, hb⟩; refine ⟨_, rfl, ?_⟩; have n0_ := Aa.k (Ae BK.o hb); have n1_ := Aa.k (Ad HB.o hb); clear BK HB hb; have BK := n0_; have HB := n1_; clear n0_ n1_))
     have n0_ := Aa.k (Dt BK.o)
     have n1_ := Aa.k (Cf HB.o)
     clear BK HB
     have BK := n0_
     have HB := n1_
     clear n0_ n1_
     refine Fp (n := 10) (S := fun w' => w'.cell? ⟨gb, 0, none⟩ = some (.int .i64 n) ∧ w'.cell? ⟨gb, 1, none⟩ = some (.bool g)) (ds := []) #[N_,N_,N_,N_,N_,N_,N_,N_,N_,N_] (by kernel_rfl) rfl rfl ⟨(Aw BK.o 0).trans rfl, (Aw BK.o 1).trans rfl⟩ (fun hHeld => ?_); refine Dv Er.tab7 Er.bits7 (fun HT_ HW_ => ?_)
     generalize w9.drew = w21 at BK HB hHeld ⊢
     apply pq_ 1 30 #[N_,Y_,N_,N_,N_,N_,N_,N_,N_,N_] HT_ rfl rfl (by kernel_rfl) (fun _ _ _ h => h) (by rfl)
     ·intro w'; go_simp; rfl
     ·simp only [Act.put, sT_, sZ_, sS_, Ah, Ai]; rfl
     apply pq_ 2 31 #[N_,Y_,Y_,N_,N_,N_,N_,N_,N_,N_] HT_ rfl rfl (by kernel_rfl) (fun _ _ _ h => h) (by rfl)
     ·intro w'; go_simp; rfl
     ·simp only [Act.put, sT_, sZ_, sS_, Ah, Ai]; rfl
     apply pq_ 4 33 #[N_,Y_,Y_,N_,Y_,N_,N_,N_,N_,N_] HT_ rfl rfl (by kernel_rfl) (fun _ _ _ h => h) (by rfl)
     ·intro w'; go_simp; rfl
     ·simp only [Act.put, sT_, sZ_, sS_, Ah, Ai]; rfl
     apply pq_ 7 36 #[N_,Y_,Y_,N_,Y_,N_,N_,Y_,N_,N_] HT_ rfl rfl (by kernel_rfl) (fun _ _ _ h => h) (by rfl)
     ·intro w'; go_simp; rfl
     ·simp only [Act.put, sT_, sZ_, sS_, Ah, Ai]; rfl
     refine En (i := 0) (N := some 29) (v := ?_) (a' := ?_) #[Y_,Y_,Y_,N_,Y_,N_,N_,Y_,N_,N_] rfl rfl (Cm HT_.o HW_.o (by kernel_rfl)) (fun _ _ _ h => h) (Or.inl ⟨by rfl, ?_⟩) hHeld ?_ ?_
     rotate_left
     ·rintro w' ⟨s0, s1⟩
      go_simp
      rfl
     rotate_left
     ·simp only [Act.put, sT_, sZ_, sS_, Ah, Ai]
      rfl
     refine join_ (σ := Value × Value) 3 #[Y_,Y_,Y_,Y_,Y_,Y_,N_,Y_,N_,N_] (fun s_ => [(32, s_.1), (34, s_.2)]) (fun s_ w' => (w'.cell? ⟨gb, 0, none⟩ = some (.int .i64 n) ∧ w'.cell? ⟨gb, 1, none⟩ = some (.bool g)) ∧ (Kd.R (Kd.int .i64) 3 w' wr.heap.size (fun k_ => some k_ ≠ (s_.2 : Value).ownBlock) s_.1 t159) ∧ (Kd.R (Kd.int .i64) 3 w' wr.heap.size (fun k_ => some k_ ≠ (s_.1 : Value).ownBlock) s_.2 [x9]) ∧ (w'.heap[gb]? = some (.cells #[.int .i64 n, .bool g] 25 (0, 0))) ∧ (Below wr.heap.size wr w')) ?_ ?_
     rotate_left
     ·intro hCont
      refine two_ (i := 3) (j := 5) (Ni := some 32) (Nj := some 34) #[Y_,Y_,Y_,Y_,Y_,N_,N_,Y_,N_,N_] #[Y_,Y_,Y_,N_,Y_,Y_,N_,Y_,N_,N_] rfl rfl rfl rfl (two_of HT_.o (by kernel_rfl)) (by decide) (by decide) (fun K hK => ?_) (fun K hK => ?_)
      ·skip
       refine goes_ Try.func134 (by kernel_rfl) rfl #[.slice A2 l2.length c2] (by rfl) rfl rfl (by (try simp only [mT_, mC_, mN_]); rfl) ?_
       refine (spec_l1Own.calls _ _ l2 t159 _ ?side1 ?side2 A16.o).mono ?_
       (case side1 => exact Kd.Dx HR2.o HB.o)
       (case side2 => exact HC2.o)
       rintro e w22 ⟨v160, rfl, ho0, hb⟩
       refine ⟨_, rfl, ?_⟩
       have HO161 := Aa.k (Kd.Ct ho0 (Af HB.o))
       clear ho0
       have n2_ := Aa.k (Ae BK.o hb)
       have n3_ := Aa.k (Ad HB.o hb)
       clear BK HB hb
       have BK := n2_
       have HB := n3_
       clear n2_ n3_
       refine hK.out _ _ ⟨(Aw BK.o 0).trans rfl, (Aw BK.o 1).trans rfl⟩ (fun hHeld => ?_)
       clear hK K
       refine Es (a' := ?_) ?_ ?_
       rotate_left
       ·show Act.put _ (some 32) _ = _
        simp only [Act.put, sT_, sZ_, sS_, Ah, Ai]
        rfl
       refine one_ (i := 5) (N := some 34) #[Y_,Y_,Y_,Y_,Y_,Y_,N_,Y_,N_,N_] rfl rfl (Ej HT_.o (by kernel_rfl)) (by decide) (fun K hK => ?_)
       refine Kd.R_lit_step (Kd.int .i64) _ 3 ?hg (N := 34) ?hd (xs := ([x9] : List Int)) (inner := [.int .i64 x9]) (ok := fun _ => True) (okp := fun _ => True) ?hr ?hp (fun _ hk => hk) trivial (Below.refl _ _) (Nat.le_refl _) (by simp) ?_; (case hd => rfl); (case hg => rfl); (case hr => (go_simp; done)); (case hp => exact (Reps.one (show Kd.M (Kd.int .i64) _ _ _ x9 [.int .i64 x9] from rfl) (Reps.none _ _)))
       intro v163 w23 ho24 hb hg_ hnew_
       clear hg_ hnew_
       have n0_ := Aa.k (Kd.Cw HO161.o (Kd.Cy ho24) hb)
       have HO164 := Aa.k (Kd.Ct (Kd.Dz ho24 (Kd.R_lt HO161.o)) (Af HB.o))
       clear HO161 ho24
       have HO161 := n0_
       clear n0_
       have n2_ := Aa.k (Ae BK.o hb)
       have n3_ := Aa.k (Ad HB.o hb)
       clear BK HB hb
       have BK := n2_
       have HB := n3_
       clear n2_ n3_
       refine hK.out _ _ ⟨(Aw BK.o 0).trans rfl, (Aw BK.o 1).trans rfl⟩ (fun hHeld => ?_)
       clear hK K
       refine Es (a' := ?_) ?_ ?_
       rotate_left
       ·show Act.put _ (some 34) _ = _
        simp only [Act.put, sT_, sZ_, sS_, Ah, Ai]
        rfl
       exact Es (by simp only [putAll, Act.put, sT_, sZ_, sS_]) (hCont (v160, v163) _ ⟨hHeld, Kd.Bv HO161.o (fun _ hk => hk.2), Kd.Bv HO164.o (fun _ hk => hk.2), BK.o, HB.o⟩)
      ·skip
       refine Kd.R_lit_step (Kd.int .i64) _ 3 ?hg (N := 34) ?hd (xs := ([x9] : List Int)) (inner := [.int .i64 x9]) (ok := fun _ => True) (okp := fun _ => True) ?hr ?hp (fun _ hk => hk) trivial (Below.refl _ _) (Nat.le_refl _) (by simp) ?_; (case hd => rfl); (case hg => rfl); (case hr => (go_simp; done)); (case hp => exact (Reps.one (show Kd.M (Kd.int .i64) _ _ _ x9 [.int .i64 x9] from rfl) (Reps.none _ _)))
       intro v163 w23 ho24 hb hg_ hnew_
       clear hg_ hnew_
       have HO164 := Aa.k (Kd.Ct ho24 (Af HB.o))
       clear ho24
       have n2_ := Aa.k (Ae BK.o hb)
       have n3_ := Aa.k (Ad HB.o hb)
       clear BK HB hb
       have BK := n2_
       have HB := n3_
       clear n2_ n3_
       refine hK.out _ _ ⟨(Aw BK.o 0).trans rfl, (Aw BK.o 1).trans rfl⟩ (fun hHeld => ?_)
       clear hK K
       refine Es (a' := ?_) ?_ ?_
       rotate_left
       ·show Act.put _ (some 34) _ = _
        simp only [Act.put, sT_, sZ_, sS_, Ah, Ai]
        rfl
       refine one_ (i := 3) (N := some 32) #[Y_,Y_,Y_,Y_,Y_,Y_,N_,Y_,N_,N_] rfl rfl (Ej HT_.o (by kernel_rfl)) (by decide) (fun K hK => ?_)
       refine goes_ Try.func134 (by kernel_rfl) rfl #[.slice A2 l2.length c2] (by rfl) rfl rfl (by (try simp only [mT_, mC_, mN_]); rfl) ?_
       refine (spec_l1Own.calls _ _ l2 t159 _ ?side1 ?side2 A16.o).mono ?_
       (case side1 => exact Kd.Dx HR2.o HB.o)
       (case side2 => exact HC2.o)
       rintro e w22 ⟨v160, rfl, ho0, hb⟩
       refine ⟨_, rfl, ?_⟩
       have n0_ := Aa.k (Kd.Cw HO164.o (Kd.Cy ho0) hb)
       have HO161 := Aa.k (Kd.Ct (Kd.Dz ho0 (Kd.R_lt HO164.o)) (Af HB.o))
       clear HO164 ho0
       have HO164 := n0_
       clear n0_
       have n2_ := Aa.k (Ae BK.o hb)
       have n3_ := Aa.k (Ad HB.o hb)
       clear BK HB hb
       have BK := n2_
       have HB := n3_
       clear n2_ n3_
       refine hK.out _ _ ⟨(Aw BK.o 0).trans rfl, (Aw BK.o 1).trans rfl⟩ (fun hHeld => ?_)
       clear hK K
       refine Es (a' := ?_) ?_ ?_
       rotate_left
       ·show Act.put _ (some 32) _ = _
        simp only [Act.put, sT_, sZ_, sS_, Ah, Ai]
        rfl
       exact Es (by simp only [putAll, Act.put, sT_, sZ_, sS_]) (hCont (v160, v163) _ ⟨hHeld, Kd.Bv HO161.o (fun _ hk => hk.2), Kd.Bv HO164.o (fun _ hk => hk.2), BK.o, HB.o⟩)
     rintro ⟨v160, v163⟩ w25 ⟨hS_, h0_, h1_, h2_, h3_⟩
     clear BK HB
     have HO161 : Aa (Kd.R (Kd.int .i64) 3 w25 wr.heap.size (fun k_ => some k_ ≠ (v163 : Value).ownBlock) v160 t159) := ⟨h0_⟩
     have HO164 : Aa (Kd.R (Kd.int .i64) 3 w25 wr.heap.size (fun k_ => some k_ ≠ (v160 : Value).ownBlock) v163 [x9]) := ⟨h1_⟩
     have BK : Aa (w25.heap[gb]? = some (.cells #[.int .i64 n, .bool g] 25 (0, 0))) := ⟨h2_⟩
     have HB : Aa (Below wr.heap.size wr w25) := ⟨h3_⟩
     clear h0_ h1_ h2_ h3_
     have hHeld : w25.cell? ⟨gb, 0, none⟩ = some (.int .i64 n) ∧ w25.cell? ⟨gb, 1, none⟩ = some (.bool g) := hS_
     clear hS_
     obtain ⟨Ao27, co27, eo27⟩ := Kd.Cx HO164.o
     subst eo27
     refine Es (a' := ?_) ?_ ?_
     rotate_left
     ·simp only [putAll, Act.put, sT_, sZ_, sS_]
      rfl
     refine one_ (i := 6) (N := some 35) #[Y_,Y_,Y_,Y_,Y_,Y_,Y_,Y_,N_,N_] rfl rfl (Ej HT_.o (by kernel_rfl)) (by decide) (fun K hK => ?_)
     refine Kd.R_append_rows_step (Kd.int .i64) (w0 := wr) wr.heap.size (by rfl) (.tmp 32) (.tmp 34) 30 3 (.int .i64 0) 8 rfl Try.underlying30 Dw.infoI rfl (by decide) (by omega) v160 t159 [x9] _ _ _ (fun k_ => some k_ ≠ (.slice Ao27 [x9].length co27 : Value).ownBlock) (fun _ => False) rfl rfl ?aO ?aR (fun _ _ h => h) (fun _ h => h.elim) ?aF ?aB ?aS ?aL ?_
     (case aR => exact (Kd.Bb HO164.o).2.2)
     (case aB => exact HB.o)
     (case aF => exact (fun k_ hk => Kd.fresh' (Kd.R_lt HO164.o) k_ hk))
     (case aO => exact HO161.o)
     (case aS => exact Af HB.o)
     (case aL => have := LM.o; simp only [List.length_cons, List.length_nil]; omega)
     intro v166 w26 ho hb hg hat
     have n0_ := Aa.k (Fb BK.o hg (Kd.R_ne HO161.o BK.o (by decide)))
     clear BK HB HO161 HO164 hg hat
     have BK := n0_
     have HB := Aa.k hb
     have HO167 := Aa.k ho
     clear n0_ hb ho
     obtain ⟨Ao28, co28, eo28⟩ := Kd.Cx HO167.o
     subst eo28
     refine hK.out _ _ ⟨(Aw BK.o 0).trans rfl, (Aw BK.o 1).trans rfl⟩ (fun hHeld => ?_)
     clear hK K
     refine Es (a' := ?_) ?_ ?_
     rotate_left
     ·show Act.put _ (some 35) _ = _
      simp only [Act.put, sT_, sZ_, sS_, Ah, Ai]
      rfl
     refine one_ (i := 8) (N := some 37) #[Y_,Y_,Y_,Y_,Y_,Y_,Y_,Y_,Y_,N_] rfl rfl (Ej HT_.o (by kernel_rfl)) (by decide) (fun K hK => ?_)
     refine goes_ Try.func125 (by kernel_rfl) rfl #[.agg #[.int .i64 n, .bool g], .int .i64 a1, .slice Ao28 (t159 ++ [x9]).length co28, u3] (by rfl) rfl rfl (by (try simp only [mT_, mC_, mN_]); rfl) ?_
     refine (HIH.o k1 (by have := HK1.o; omega) n g a1 _ _ (t159 ++ [x9]) u3 x3 t168 (fun k_ => (ok k_ ∧ some k_ ≠ (.slice A2 l2.length c2 : Value).ownBlock) ∧ k_ ≠ gb) w0 _ ?s1 ?s2 ?s3 ?s4 ?s5 A18.o).mono ?_
     (case s1 => exact below_weaken HBB.o (Af HBB.o) HB.o)
     (case s2 => exact Kd.R_tight rfl (Kd.Ct HO167.o (Af HBB.o)))
     (case s3 => exact Kd.S_mono (Kd.S_old HS.o HB.o) (fun k_ hk => ⟨hk.1, fun e_ => by have := Kd.Cy HO167.o k_ e_.symm; have := hk.2; omega⟩))
     (case s4 => exact fun k_ hk => HFR.o k_ (Nat.le_trans (Af HB.o) hk))
     (case s5 => exact fun k_ e_ => HFR.o k_ (Kd.Cy HO167.o k_ e_.symm))
     rintro e w29 ⟨v168, rfl, hs, hbb, hk⟩
     refine ⟨_, rfl, ?_⟩
     have HSN := Aa.k hs
     have HBBN := Aa.k hbb
     have BKN := Aa.k (blk_kept BK.o hk (fun h_ => h_.1.2 rfl))
     have HRN := Aa.k (Kd.R_kept (Kd.Ba HR.o HB.o) hk (fun k_ e_ h_ => h_.1.1.2 e_))
     have HKPN := Aa.k ((Kept.below HKP.o HB.o).then_ hk (fun k_ h_ => .inl h_.1.1))
     clear BK HB hs hbb hk
     have BK := BKN
     refine hK.out _ _ ⟨(Aw BK.o 0).trans rfl, (Aw BK.o 1).trans rfl⟩ (fun hHeld => ?_)
     clear hK K
     refine Es (a' := ?_) ?_ ?_
     rotate_left
     ·show Act.put _ (some 37) _ = _
      simp only [Act.put, sT_, sZ_, sS_, Ah, Ai]
      rfl
     apply pq_ 9 3 #[Y_,Y_,Y_,Y_,Y_,Y_,Y_,Y_,Y_,Y_] HT_ rfl rfl (by kernel_rfl) (fun _ _ _ h => h) (by rfl)
     ·intro w'; go_simp; rfl
     ·simp only [Act.put, sT_, sZ_, sS_, Ah, Ai]; rfl
     refine done_ (Fa HT_.o (by kernel_rfl)) ?_
     try go_wp2
     go_roundg k1
     case measure => have := HK1.o; omega
     case rel => exact ⟨t168, _, rfl, H', ⟨by have := HK1.o; omega⟩, HSN, HRN, BKN, HBBN, HKPN⟩
    | false =>
     rw [if_neg (show ¬ (false = true) by decide)] at H
     have H' := Aa.k H
     clear H
     have BK0 := BK
     go_wp2_with (((refine Aj (f := 133) rfl ?_); refine Bf (some 28) rfl rfl Try.func133 (by kernel_rfl) rfl #[.agg #[.int .i64 n, .bool g], .int .i64 a1, .slice A2 l2.length c2, .int .i64 x9] rfl (by (try simp only [mT_, mC_, mN_]); rfl) ?_; (refine (De.calls k1 n g a1 _ _ l2 x9 false _ ?side1 ?side2 A14.o).mono ?_); (case side1 => exact Kd.Dx HR2.o HB.o); (case side2 => exact HC2.o); rintro e w9 ⟨rfl, hb⟩; refine ⟨_, rfl, ?_⟩; have n0_ := Aa.k (Ae BK.o hb); have n1_ := Aa.k (Ad HB.o hb); clear BK HB hb; have BK := n0_; have HB := n1_; clear n0_ n1_))
     go_roundg k1
     case measure => have := HK1.o; omega
     case rel => exact ⟨x3, _, rfl, H', ⟨by have := HK1.o; omega⟩, ⟨Kd.Du HS.o HB.o⟩, ⟨Kd.Ba HR.o HB.o⟩, BK, ⟨below_weaken HBB.o (Af HBB.o) HB.o⟩, ⟨Kept.below HKP.o HB.o⟩⟩

theorem Dw.elem {f : Nat → Nat} {w : World} {base n c : Nat} {ok : Nat → Prop} {A : Option Addr} {xs : List (List Int × Nat)} (h : (Kd.tag f (Kd.slice 3 (Kd.int .i64))).R 30 w base ok (.slice A n c) xs) (i : Nat) (hi : i < xs.length) :
  ∃ ad A' c', A = some ad ∧ w.cell? (ad.add i) = some (.slice A' ((xs[i]).1).length c') ∧ (Kd.tag f (Kd.slice 3 (Kd.int .i64))).M w base (fun k => ok k ∧ some k ≠ (Value.slice A n c).ownBlock) xs[i] [.slice A' ((xs[i]).1).length c'] := by
 obtain ⟨g, cap, e, _⟩ := Kd.R_form h (by omega)
 injection e with e1 e2 e3
 subst e1
 obtain ⟨cs, hl, hM, hc⟩ := Kd.R_getA h ([], 0) (i : Int) (by omega) (by omega)
 rw [Int.toNat_natCast, List.getD_eq_getElem?_getD, List.getElem?_eq_getElem hi, Option.getD_some] at hM
 obtain ⟨v, rfl, hv⟩ := hM
 obtain ⟨A', c', rfl⟩ := Kd.Cx hv
 refine ⟨_, A', c', rfl, ?_, ⟨_, rfl, hv⟩⟩
 have h2 := hc 0 _ rfl
 rw [show ((i : Int).toNat * (Kd.tag f (Kd.slice 3 (Kd.int .i64))).sz + 0) = i by rw [Int.toNat_natCast]; show i * 1 + 0 = i; omega] at h2
 exact h2
def Dw.outer (all : List (List Int × Nat)) : Nat → Int → List (List Int × Nat) → Option (List (List Int × Nat))
 | 0, _, _ => none
 | k + 1, m, out => if (out.length : Int) < (all.length : Int) then Dw.outer all k (m + 1) (out ++ all.filter (fun p => decide ((p.1.length : Int) = m))) else some out
def Dw.f (n : Int) (g : Bool) (a1 : Int) : Option (List (List Int)) := (Er.f 200 n g a1 [] []).bind fun all => if all.length < 1048576 then (Dw.outer all.zipIdx 60 1 []).bind fun ps => if (ps.map Prod.snd).Nodup then some (ps.map Prod.fst) else none else none
set_option maxHeartbeats 8000000 in
set_option maxRecDepth 100000 in
theorem Dw.calls (n : Int) (g : Bool) (a1 : Int) (r : List (List Int)) (w : World) (h : Dw.f n g a1 = some r) :
  Calls Try.prog 93 #[.agg #[.int .i64 n, .bool g], .int .i64 a1] w fun e w' => ∃ v0_ : Value, e = .returned v0_ ∧ Kd.S (Kd.slice 3 (Kd.int .i64)) 30 w' w.heap.size (fun _ => True) v0_ r ∧ Below w.heap.size w w' := by
 have hu27 := Try.underlying25
 unfold Dw.f at h
 obtain ⟨all, AM, h⟩ := Option.bind_eq_some_iff.mp h
 by_cases cA : all.length < 1048576
 rotate_left
 ·rw [if_neg cA] at h; cases h
 rw [if_pos cA] at h
 obtain ⟨q, AQ, h⟩ := Option.bind_eq_some_iff.mp h
 by_cases cN : (q.map Prod.snd).Nodup
 rotate_left
 ·rw [if_neg cN] at h; cases h
 rw [if_pos cN] at h
 obtain rfl := Option.some.inj h
 clear h
 have HND := Aa.k cN
 have HAL := Aa.k cA
 have AM := Aa.k AM
 have AQ := Aa.k AQ
 clear cN cA
 have HB := Aa.k (Below.refl w.heap.size w)
 go_enter Try.func93, Try.ntmps93
 go_wp2_with (first | ((with_reducible refine Be (N := 2) rfl ?_); refine Bo ?hg (N := 2) ?hd (cs := #[.int .i64 n, .bool g]) (t := 25) ?hr ?_; (case hd => rfl); (case hg => rfl); (case hr => (go_simp; done)); intro gb hg w7 hbox hb; have n0_ := Aa.k (Ad HB.o hb); have BK := Aa.k hbox; have GE := Aa.k ((by rw [hg]; exact Af HB.o) : w.heap.size ≤ gb); clear HB; have HB := n0_; clear n0_ hb hbox hg; have hcz0 := Bj BK.o; have hcz1 := Bn BK.o; have hfz0 := Ac BK.o 0; have hfz1 := Ac BK.o 1) | ((with_reducible refine Be (N := 11) rfl ?_); refine Kd.R_lit (Kd.int .i64) _ 3 ?hg (N := 11) ?hd (xs := ([] : List Int)) (inner := []) (ok := fun _ => True) (okp := fun _ => True) ?hr ?hp (fun _ hk => hk) trivial (Below.refl _ _) (Nat.le_refl _) (by simp) ?_; (case hd => rfl); (case hg => rfl); (case hr => (go_simp; done)); (case hp => exact (Reps.none _ _)); intro v11 w11 ho hb hg_ hnew_; have HO11 := Aa.k (Kd.Ct ho (Af HB.o)); have n0_ := Aa.k (Ae BK.o hb); have n1_ := Aa.k (Ad HB.o hb); clear BK HB hb ho hg_ hnew_; have BK := n0_; have HB := n1_; clear n0_ n1_; obtain ⟨A11, c11, e11⟩ := Kd.Cx HO11.o; subst e11) | ((with_reducible refine Be (N := 12) rfl ?_); refine Kd.R_lit (Kd.tag (fun _ => 0) (Kd.slice 3 (Kd.int .i64))) _ 30 ?hg (N := 12) ?hd (xs := ([] : List (List Int × Nat))) (inner := []) (ok := fun _ => True) (okp := fun _ => True) ?hr ?hp (fun _ hk => hk) trivial (Below.refl _ _) (Nat.le_refl _) (by simp) ?_; (case hd => rfl); (case hg => rfl); (case hr => (go_simp; done)); (case hp => exact (Reps.none _ _)); intro v12 w12 ho hb hg_ hnew_; have HO12 := Aa.k (Kd.Ct (Kd.Dz ho (Kd.R_lt HO11.o)) (Af HB.o)); have n0_ := Aa.k (Ae BK.o hb); have n1_ := Aa.k (Ad HB.o hb); have n2_ := Aa.k (Kd.Ba HO11.o hb); clear BK HB HO11 hb ho hg_ hnew_; have BK := n0_; have HB := n1_; have HO11 := n2_; clear n0_ n1_ n2_) | ((with_reducible refine Aj (f := 125) rfl ?_); refine Bf (some 13) rfl rfl Try.func125 (by kernel_rfl) rfl #[.agg #[.int .i64 n, .bool g], .int .i64 a1, .slice A11 ([] : List Int).length c11, v12] rfl (by (try simp only [mT_, mC_, mN_]); rfl) ?_; (with_reducible refine (Er.calls 200 n g a1 _ _ ([] : List Int) v12 [] all (fun _ => True) w _ ?s1 ?s2 ?s3 ?s4 ?s5 AM.o).mono ?_); (case s1 => exact HB.o); (case s2 => exact Kd.R_tight rfl HO11.o); (case s3 => exact ⟨fun _ => 0, HO12.o⟩); (case s4 => exact fun _ _ => trivial); (case s5 => exact fun _ _ => trivial); rintro e w13 ⟨v5, rfl, hs, hb, hk⟩; refine ⟨_, rfl, ?_⟩; clear HB BK HO11 HO12; have HBM := Aa.k hb; obtain ⟨A5, c5, e5⟩ := Kd.S_slice hs; subst e5; obtain ⟨f5, hf5⟩ := hs; have HS5 := Aa.k (Kd.Bv (Kd.R_bound hf5) (ok' := fun k_ => k_ < w13.heap.size) (fun _ h_ => h_.2.2.1)); have HB := Aa.k (Below.refl w13.heap.size w13); clear hb hk hf5) | ((with_reducible refine Be (N := 14) rfl ?_); refine Kd.R_lit (Kd.tag f5 (Kd.slice 3 (Kd.int .i64))) _ 30 ?hg (N := 14) ?hd (xs := ([] : List (List Int × Nat))) (inner := []) (ok := fun _ => True) (okp := fun _ => True) ?hr ?hp (fun _ hk => hk) trivial (Below.refl _ _) (Nat.le_refl _) (by simp) ?_; (case hd => rfl); (case hg => rfl); (case hr => (go_simp; done)); (case hp => exact (Reps.none _ _)); intro v6 w14 ho hb hg_ hnew_; have HO := Aa.k (Kd.Ct ho (Af HBM.o)); have HOB := Aa.k (Kd.Cy ho); have n1_ := Aa.k (Ad HB.o hb); clear HB hb ho hg_ hnew_; have HB := n1_; clear n1_))
 clear AM
 go_loopg [6, 7] 60 (fun kq v6 v7 w' => ∃ (ps : List (List Int × Nat)) (m : Int), v7 = .int .i64 m ∧ Aa (Dw.outer all.zipIdx kq m ps = some q) ∧ Aa (kq ≤ 60 ∧ 1 ≤ m ∧ m + kq ≤ 61) ∧ Aa (ps.length ≤ 2097152) ∧ Aa (Kd.R (Kd.tag f5 (Kd.slice 3 (Kd.int .i64))) 30 w' w.heap.size (fun _ => True) v6 ps) ∧ Aa (∀ k_, v6.ownBlock = some k_ → w13.heap.size ≤ k_) ∧ Aa (Below w13.heap.size w13 w'))
 case atStart => exact ⟨[], 1, rfl, AQ, ⟨by omega⟩, ⟨by simp⟩, HO, HOB, HB⟩
 case round =>
  clear AQ HO HOB HB
  obtain ⟨ps, m, rfl, HA, HM0, HPL0, HO, HOB, HB⟩ := hrel
  obtain ⟨A6, c6, e6⟩ := Kd.Cx HO.o
  subst e6
  cases gk with
  | zero => exact absurd HA.o (by simp [Dw.outer])
  | succ k1 =>
   have H := HA.o
   clear HA
   simp only [Dw.outer, List.length_zipIdx] at H
   by_cases c13 : (ps.length : Int) < (all.length : Int)
   rotate_left
   ·rw [if_neg c13] at H
    have c13b0 : decide ((ps.length : Int) < (all.length : Int)) = false := decide_eq_false c13
    have c13n : decide (ps.length < all.length) = false := decide_eq_false (by omega)
    clear c13
    obtain rfl := Option.some.inj H
    go_wp2
    go_ret
    exact ⟨_, rfl, Dw.retag HO.o HND.o, below_weaken HBM.o (Af HBM.o) HB.o⟩
   rw [if_pos c13] at H
   have c13b0 : decide ((ps.length : Int) < (all.length : Int)) = true := decide_eq_true c13
   have c13n : decide (ps.length < all.length) = true := decide_eq_true (by omega)
   have HPL := Aa.k (show ps.length < all.length by omega)
   clear c13
   have H' := Aa.k H
   clear H
   go_wp2_with fail
   go_loopg [6, 8] all.length (fun d v6 v8 w' => ∃ (i : Nat) (qs : List (List Int × Nat)), v8 = .int .i64 (i : Int) ∧ Aa (i + d = all.length) ∧ Aa (qs ++ (all.zipIdx.drop i).filter (fun p => decide ((p.1.length : Int) = m)) = ps ++ all.zipIdx.filter (fun p => decide ((p.1.length : Int) = m))) ∧ Aa (qs.length ≤ ps.length + i) ∧ Aa (Kd.R (Kd.tag f5 (Kd.slice 3 (Kd.int .i64))) 30 w' w.heap.size (fun _ => True) v6 qs) ∧ Aa (∀ k_, v6.ownBlock = some k_ → w13.heap.size ≤ k_) ∧ Aa (Below w13.heap.size w13 w'))
   case atStart => exact ⟨0, ps, rfl, ⟨by omega⟩, ⟨by rw [List.drop_zero]⟩, ⟨by omega⟩, HO, HOB, HB⟩
   case round =>
    clear HO HOB HB c13b0 c13n
    obtain ⟨i, qs, rfl, HID, HQ, HQL, HO, HOB, HB⟩ := hrel
    by_cases ci : i < all.length
    rotate_left
    ·have c1b : decide ((i : Int) < (all.length : Int)) = false := decide_eq_false (by omega)
     have c1n : decide (i < all.length) = false := decide_eq_false ci
     have hq : qs = ps ++ all.zipIdx.filter (fun p => decide ((p.1.length : Int) = m)) := by
      rw [← HQ.o, List.drop_of_length_le (by rw [List.length_zipIdx]; omega), List.filter_nil, List.append_nil]
     subst hq
     have HI := Aa.k (show i = all.length by have := HID.o; omega)
     have hw1 : IntKind.i64.wrap (m + 1) = m + 1 := (Ah _).trans (by have := HM0.o; unfold wrap64; omega)
     clear ci HQ
     go_wp2
     go_roundg k1
     case measure => have := HM0.o; omega
     case rel => exact ⟨_, m + 1, by (rfl), H', ⟨by have := HM0.o; omega⟩, ⟨by have := HQL.o; have := HI.o; have := HAL.o; have := HPL.o; omega⟩, HO, HOB, HB⟩
    have c0i : (0 : Int) ≤ (i : Int) := by omega
    have c1i : (i : Int) < (all.length : Int) := by omega
    have HI0 : i < all.zipIdx.length := by rw [List.length_zipIdx]; exact ci
    have c1b : decide ((i : Int) < (all.length : Int)) = true := decide_eq_true c1i
    have c1n : decide (i < all.length) = true := decide_eq_true ci
    obtain ⟨ad, A', c', e, hx, hM⟩ := Dw.elem (Kd.Ba HS5.o HB.o) i HI0
    subst e
    obtain ⟨x, hz⟩ : ∃ x, all.zipIdx[i]'HI0 = (x, i) := ⟨all[i], by rw [List.getElem_zipIdx, Nat.zero_add]⟩
    have hd : (all.zipIdx.drop i) = all.zipIdx[i]'HI0 :: all.zipIdx.drop (i + 1) := List.drop_eq_getElem_cons HI0
    rw [hd, List.filter_cons, hz] at HQ
    rw [hz] at hM hx
    have hw1 : IntKind.i64.wrap ((i : Int) + 1) = ((i + 1 : Nat) : Int) := (Ah _).trans (by have := HAL.o; unfold wrap64; omega)
    have HI := Aa.k ci
    clear hd ci hz
    by_cases cm : ((x.length : Int) = m)
    rotate_left
    ·rw [if_neg (by rw [decide_eq_true_eq]; exact cm)] at HQ
     have cmb : ((x.length : Int) == m) = false := beq_eq_false_iff_ne.mpr cm
     clear cm
     go_wp2
     go_roundg (gk - 1)
     case measure => have := HID.o; have := HI.o; omega
     case rel => exact ⟨i + 1, qs, by (rfl), ⟨by have := HID.o; have := HI.o; omega⟩, HQ, ⟨by have := HQL.o; omega⟩, HO, HOB, HB⟩
    rw [if_pos (decide_eq_true cm)] at HQ
    have cmb : ((x.length : Int) == m) = true := beq_iff_eq.mpr cm
    clear cm
    have HM := Aa.k ((Kd.tag f5 (Kd.slice 3 (Kd.int .i64))).M_mono (fun _ h_ => h_.1) hM)
    clear hM
    go_wp2_with (((with_reducible refine Ef (b := .append) (xs := #[.tmp 35, .tmp 40]) rfl ?_); at_builtin; refine Kd.R_append (Kd.tag f5 (Kd.slice 3 (Kd.int .i64))) (w0 := w) w.heap.size rfl (.tmp 35) (.tmp 40) 48 30 (.slice none 0 0) 24 rfl Try.underlying48 Dw.info rfl Nat.one_pos (by omega) u6 qs (x, i) [.slice A' x.length c'] (fun _ => True) (fun k_ => k_ < w13.heap.size) rfl rfl ?aP ?aK (fun _ _ => trivial) ?aO ?aB ?aS ?aL ?_; (case aP => exact HM.o); (case aK => exact fun k_ h_ => ⟨trivial, fun e_ => by have := HOB.o k_ e_.symm; omega⟩); (case aO => exact HO.o); (case aB => exact below_weaken HBM.o (Af HBM.o) HB.o); (case aS => exact Af (below_weaken HBM.o (Af HBM.o) HB.o)); (case aL => have := HQL.o; have := HPL.o; have := HAL.o; have := HID.o; omega); intro v1 w1 ho hb hg hat; have HN := Aa.k ho; have HNB := Aa.k (HB.o.grown hg (Af HB.o) (fun k_ e_ => HOB.o k_ e_)); have HNO := Aa.k (show ∀ k_, v1.ownBlock = some k_ → w13.heap.size ≤ k_ from fun k_ e_ => by rcases hat with hat | ⟨b, hat, hle⟩; exact HOB.o k_ (hat ▸ e_); have := hat.symm.trans e_; injection this with this; have := Af HB.o; omega); clear ho hb hg hat))
    go_roundg (gk - 1)
    case measure => have := HID.o; have := HI.o; omega
    case rel => exact ⟨i + 1, qs ++ [(x, i)], by (rfl), ⟨by have := HID.o; have := HI.o; omega⟩, ⟨by rw [List.append_assoc]; exact HQ.o⟩, ⟨by have := HQL.o; simp only [List.length_append, List.length_cons, List.length_nil]; omega⟩, HN, HNO, HNB⟩

/-! ### impl_copied: function 118 -/
def impl_copied.f (l0 : List Int) : Option (List Int) := (some (([] : List Int) : List Int)).bind fun y148 => (if y148.length + l0.length < 17592186044416 then (some (y148 ++ l0)) else (none))
set_option maxHeartbeats 8000000 in
set_option maxRecDepth 100000 in
theorem impl_copied.calls (A0 : Option Addr) (c0 : Nat) (l0 : List Int) (r : List Int) (w : World) (hr0 : Kd.C (Kd.int .i64) w A0 l0.length l0) (hc0 : l0.length ≤ c0) (h : impl_copied.f l0 = some r) :
  Calls Try.prog 118 #[.slice A0 l0.length c0] w fun e w' => ∃ v0_ : Value, e = .returned (v0_) ∧ Kd.R (Kd.int .i64) 3 w' w.heap.size (fun _ => True) v0_ r ∧ Below w.heap.size w w' := by
 have HR0 := Aa.k hr0
 have HC0 := Aa.k hc0
 clear hr0 hc0
 have HB := Aa.k (Below.refl w.heap.size w)
 have H : ((some (([] : List Int) : List Int)).bind fun y148 => (if y148.length + l0.length < 17592186044416 then (some (y148 ++ l0)) else (none))) = some r := h
 clear h
 obtain ⟨y148, hy148⟩ : ∃ y_ : List Int, y_ = (([] : List Int)) := ⟨_, rfl⟩
 replace H : (if y148.length + l0.length < 17592186044416 then (some (y148 ++ l0)) else (none)) = some r := by (have H2_ := (Option.bind_some _ _).symm.trans H; rw [hy148]; exact H2_)
 have Ny148 := Aa.k hy148
 clear hy148
 by_cases c2 : y148.length + l0.length < 17592186044416
 rotate_left
 ·rw [if_neg c2] at H
  exact absurd H (by simp)
 rw [if_pos c2] at H
 have LMc2 := Aa.k c2
 clear c2
 obtain ⟨y151, hy151⟩ : ∃ y_ : List Int, y_ = (y148 ++ l0) := ⟨_, rfl⟩
 replace H : (some y151) = some r := by (rw [hy151]; exact H)
 have Ny151 := Aa.k hy151
 clear hy151
 obtain rfl := Option.some.inj H
 go_enter Try.func118, Try.ntmps118
 go_wp2_with (first | ((with_reducible refine Be (N := 3) rfl ?_); refine Kd.R_lit (Kd.int .i64) _ 3 ?hg (N := 3) ?hd (xs := ([] : List Int)) (inner := []) (ok := fun _ => True) (okp := fun _ => True) ?hr ?hp (fun _ hk => hk) trivial (Below.refl _ _) (Nat.le_refl _) (by simp) ?_; (case hd => rfl); (case hg => rfl); (case hr => (go_simp; done)); (case hp => exact (Reps.none _ _)); intro v149 w3 ho4 hb hg_ hnew_; clear hg_ hnew_; ((rw [← Ny148.o] at ho4)); have n0_ := Aa.k (Kd.Ct ho4 (Af HB.o)); have n1_ := Aa.k (Ad HB.o hb); clear HB; have HO150 := n0_; have HB := n1_; clear n0_ n1_; clear hb ho4) | ((with_reducible refine Ef (b := .append) (xs := #[.tmp 3, .tmp 4]) rfl ?_); at_builtin; refine Kd.R_append_rows (Kd.int .i64) (w0 := w) w.heap.size rfl (.tmp 3) (.tmp 4) 30 3 (.int .i64 0) 8 rfl Try.underlying30 info3 rfl (by decide) (by omega) v149 y148 l0 _ _ _ (fun _ => True) (fun _ => False) rfl rfl ?aO ?aR (fun _ _ h => h) (fun _ h => h.elim) ?aF ?aB ?aS ?aL ?_; (case aR => repeat (exact (Kd.Dx HR0.o HB.o))); (case aB => exact HB.o); (case aF => exact (fun _ _ => trivial)); (case aO => exact (by exact HO150.o)); (case aS => exact (Af HB.o)); (case aL => have := LMc2.o; omega); intro v152 w5 ho hb hg hat; rw [← Ny151.o] at ho; have n0_ := Aa.k (hb); have n1_ := Aa.k (ho); clear HB; clear HO150; have HB := n0_; have HO153 := n1_; clear n0_ n1_; clear ho hb hg hat))
 go_ret
 exact ⟨_, by (rfl), by exact HO153.o, by exact HB.o⟩

/-! ### slices_Clone_int_int: function 119 -/
theorem Dj.nil0 {P : Program} (w : World) (d : Nat) (t e : TypeId) (a : Option Addr) (n c n' c' : Nat) (h : P.underlying t = some (.slice e)) : (Op.equalIn (d + 1) t (.slice a n c) (.slice none n' c')).run P w = .ok a.isNone w := by
 cases a <;> simp [Op.equalIn, run_underlying h]
theorem Dj.nil {P : Program} (w : World) (t e : TypeId) (a : Option Addr) (n c n' c' : Nat) (h : P.underlying t = some (.slice e)) : (binOp .eql t (.slice a n c) (.slice none n' c')).run P w = .ok (.bool a.isNone) w := by
 simp only [binOp]
 simp [Op.equal, Op.maxDepth, Dj.nil0 w 9999 t e a n c n' c' h]
theorem Dj.info : (Try.prog.info? 3).map (fun i => (i.zero, i.size, i.bytes)) = some (some (.int .i64 0), 1, 8) := by kernel_rfl
def Dj.f (l0 : List Int) : Option (List Int) := if l0.length < 1048576 then some l0 else none
set_option maxHeartbeats 1600000 in
set_option maxRecDepth 100000 in
theorem Dj.calls (A0 : Option Addr) (c0 : Nat) (l0 : List Int) (r : List Int) (w : World) (hr0 : Kd.C (Kd.int .i64) w A0 l0.length l0) (hc0 : l0.length ≤ c0) (h : Dj.f l0 = some r) :
  Calls Try.prog 119 #[.slice A0 l0.length c0] w fun e w' => ∃ v0_ : Value, e = .returned v0_ ∧ Kd.R (Kd.int .i64) 3 w' w.heap.size (fun _ => True) v0_ r ∧ Below w.heap.size w w' := by
 have q24 : ∀ (w : World) (a : Option Addr) (n c n2 c2 : Nat), (binOp .eql 30 (.slice a n c) (.slice none n2 c2)).run Try.prog w = .ok (.bool a.isNone) w := fun w a n c n2 c2 => Dj.nil w _ _ a n c n2 c2 Try.underlying30
 unfold Dj.f at h
 by_cases cl : l0.length < 1048576
 rotate_left
 ·rw [if_neg cl] at h; cases h
 rw [if_pos cl] at h
 obtain rfl := Option.some.inj h
 have HR0 := Aa.k hr0
 have LM := Aa.k cl
 have HB := Aa.k (Below.refl w.heap.size w)
 cases A0 with
 | none =>
  have h0 : l0.length = 0 := by
   rcases Nat.eq_zero_or_pos l0.length with h0 | h0
   ·exact h0
   obtain ⟨ad, e, _⟩ := hr0.2.2 h0
   cases e
  obtain rfl := List.eq_nil_of_length_eq_zero h0
  clear h h0 cl hr0 hc0
  go_enter Try.func119, Try.ntmps119
  go_wp2
  go_ret
  exact ⟨_, rfl, Kd.R_nil _ _ _ _ _, Below.refl _ _⟩
 | some ad =>
  clear h cl hr0 hc0
  go_enter Try.func119, Try.ntmps119
  go_wp2_with (first | ((with_reducible refine Be (N := 5) rfl ?_); refine Kd.R_lit (Kd.int .i64) _ 3 ?hg (N := 5) ?hd (xs := ([] : List Int)) (inner := []) (ok := fun _ => True) (okp := fun _ => True) ?hr ?hp (fun _ hk => hk) trivial (Below.refl _ _) (Nat.le_refl _) (by simp) ?_; (case hd => rfl); (case hg => rfl); (case hr => (go_simp; done)); (case hp => exact (Reps.none _ _)); intro v5 w3 ho hb hg_ hnew_; have HO := Aa.k ho; have n1_ := Aa.k (Ad HB.o hb); clear HB hg_ hnew_ ho hb; have HB := n1_; clear n1_) | ((with_reducible refine Ef (b := .append) (xs := #[.tmp 5, .tmp 6]) rfl ?_); at_builtin; refine Kd.R_append_rows (Kd.int .i64) (w0 := w) w.heap.size rfl (.tmp 5) (.tmp 6) 30 3 (.int .i64 0) 8 rfl Try.underlying30 Dj.info rfl (by decide) (by omega) v5 [] l0 _ _ _ (fun _ => True) (fun _ => False) rfl rfl ?aO ?aR (fun _ _ h => h) (fun _ h => h.elim) ?aF ?aB ?aS ?aL ?_; (case aR => exact Kd.Dx HR0.o HB.o); (case aB => exact HB.o); (case aF => exact (fun _ _ => trivial)); (case aO => exact Kd.Ct HO.o (Nat.le_refl _)); (case aS => exact Af HB.o); (case aL => have := LM.o; simp only [List.length_nil]; omega); intro v7 w5 ho hb hg hat; rw [List.nil_append] at ho; have HO7 := Aa.k ho; have HB7 := Aa.k hb; clear ho hb hg hat))
  go_ret
  exact ⟨_, rfl, HO7.o, HB7.o⟩

end Go.Proofs.Ytogflbocmiogpaa.PFnBestSearch
