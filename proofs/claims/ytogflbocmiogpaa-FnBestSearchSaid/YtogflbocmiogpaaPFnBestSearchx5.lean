-- Written for this claim by this session's turned copy of the printer.
import Derived.Test.YtogflbocmiogpaaPFnBestSearchx0
import Derived.Test.YtogflbocmiogpaaPFnBestSearchx4
namespace Go.Proofs.Ytogflbocmiogpaa.PFnBestSearch
open Go.RowKit Go.Proofs.YtogflbocmiogpaaW.PrintWords Go.Proofs.YtogflbocmiogpaaW.PrintLast Go.Proofs.YtogflbocmiogpaaW.PrintMore
open List renaming setIfInBounds_toArray → sT_, set_cons_zero → sZ_, set_cons_succ → sS_, map_toArray → mT_, map_cons → mC_, map_nil → mN_
open Bool renaming true → Y_, false → N_
attribute [local go_sem] max2_int min2_int max_two min_two Fj Fh max_four min_four   -- for this text's walks alone
set_option linter.unusedVariables false
set_option linter.unusedSimpArgs false

/-! ### impl_Road_searches_1: function 117 -/
theorem Ag.info : (Try.prog.info? 30).map (fun i => (i.zero, i.size, i.bytes)) = some (some (.slice none 0 0), 1, 24) := by kernel_rfl
mutual
def Ag.l0 : Nat → Int → Int → List Int → Int → Int → Int → List (List Int) → Option (List (List Int))
 | 0, _, _, _, _, _, _, _ => none
 | k + 1, n, a, t, lo, hi, p, zs => if p < n then (if lo ≤ p ∧ p ≤ hi then Ag.l0 k n a t lo hi (p + 1) zs else (if 0 < t.length ∧ (p < a ↔ rd t ((t.length - 1 : Nat) : Int) < a) then Ag.l0 k n a t lo hi (p + 1) zs else ((Ag.e k n a (t ++ [p]) (if p < lo then p else lo) (if hi < p then p else hi) zs).bind fun q => Ag.l0 k n a t lo hi (p + 1) q))) else some zs
def Ag.e : Nat → Int → Int → List Int → Int → Int → List (List Int) → Option (List (List Int))
 | 0, _, _, _, _, _, _ => none
 | k + 1, n, a, t, lo, hi, zs => if t.length < 1000000 then (if lo = 0 ∧ hi = n - 1 then (if zs.length < 1048576 then some (zs ++ [t]) else none) else Ag.l0 k n a t lo hi 0 zs) else none
end
def Ag.T1 : Bool × List (List Nat × List Nat) := (true, [([], []), ([], []), ([1], [1]), ([2], [2]), ([0, 3, 2], [0, 3]), ([4, 4, 0, 1, 2, 3, 4], [4])])
def Ag.B1 : List Nat := [0, 0, 2, 6, 15, 31]
theorem Ag.tab1 : rtab .any (opsOf Try.f117 1) = Ag.T1 := by kernel_rfl
theorem Ag.bits1 : waitsOk Ag.T1.2 Ag.B1 = true := by kernel_rfl
def Ag.T7 : Bool × List (List Nat × List Nat) := (true, [([], []), ([0], [0]), ([1], [1]), ([2], [2]), ([2], [2]), ([3, 4, 2], [2, 3, 4]), ([2], [2]), ([2], [2]), ([7, 2], [2, 7]), ([6, 8, 2], [2, 6, 8]), ([9, 2], [2, 9]), ([2], [2]), ([10, 11, 2], [2, 10, 11]), ([5, 12, 2], [2, 5, 12]), ([2, 13], [2, 13])])
def Ag.B7 : List Nat := [0, 1, 3, 7, 7, 31, 7, 7, 135, 455, 967, 7, 4039, 8191, 16383]
theorem Ag.tab7 : rtab .any (opsOf Try.f117 7) = Ag.T7 := by kernel_rfl
theorem Ag.bits7 : waitsOk Ag.T7.2 Ag.B7 = true := by kernel_rfl
def Ag.T8 : Bool × List (List Nat × List Nat) := (true, [([], []), ([], []), ([1], [1]), ([], []), ([3], [3]), ([2, 4, 2], [2, 4]), ([], []), ([], []), ([6, 7], [6, 7]), ([], []), ([], []), ([9, 10], [9, 10]), ([0, 5, 8, 11, 5], [0, 5, 8, 11])])
def Ag.B8 : List Nat := [0, 0, 2, 0, 8, 30, 0, 0, 192, 0, 0, 1536, 4095]
theorem Ag.tab8 : rtab .any (opsOf Try.f117 8) = Ag.T8 := by kernel_rfl
theorem Ag.bits8 : waitsOk Ag.T8.2 Ag.B8 = true := by kernel_rfl
theorem Ag.calls_func {P : Program} {ops : Array Oper} {Q : Exit → Act → World → Prop} {oi : Oper} {N : Option Tmp} {a : Act} {w : World} {K : Act → World → Prop} {f : FuncId} {fn : Func} {t : Tmp} {as_ : Array Operand} {ts : Array TypeId} {bs : Array Value} (hf : P.funcs[f]? = some fn) (hname : (fn.name == "runtime.NumGoroutine") = false) (hb : fn.body.isSome = true) (args : Array Value)
  (hw : Region.wanted oi (yielded ops a.tmps) = true) (hN : oi.dst = N) (hop : oi.op = .call { callee := .value (.tmp t), args := as_, argTypes := ts }) (hcal : a.eval (.tmp t) = .func (.func f) #[] bs) (hargs : as_.map a.eval ++ bs = args)
  (h : Calls P f args w fun e w' => ∃ v, e = .returned v ∧ K (a.put N v) w') : if Region.wanted oi (yielded ops a.tmps) = true then Oper.wp P oi a w K Q else K (a.put N undef) w := by
 refine call_ f args hw hN ?_ h
 have he := enters_ hf hname hb args w
 unfold execOp
 simp [hop, resolve, Deferred.ofValue, invoke, hcal, hargs, he]
/-- The state between the calls: the boxes of r, out, a, extend, and the row in out. -/
structure Ag.M (n : Int) (g : Bool) (a : Int) (b0 bo ba be : Nat) (w0 : World) (v : Value) (xs : List (List Int)) (W : World) : Prop where
 h0 : W.heap[b0]? = some (.cells #[.int .i64 n, .bool g] 25 (0, 0))
 ho : W.heap[bo]? = some (.cells #[v] 48 (0, 0))
 ha : W.heap[ba]? = some (.cells #[.int .i64 a] 3 (0, 0))
 he : W.heap[be]? = some (.cells #[.func (.func 117) #[] #[.pointer (some ⟨b0, 0, none⟩), .pointer (some ⟨bo, 0, none⟩), .pointer (some ⟨ba, 0, none⟩), .pointer (some ⟨be, 0, none⟩)]] 109 (0, 0))
 row : Kd.S (Kd.slice 3 (Kd.int .i64)) 30 W w0.heap.size (fun k_ => k_ ≠ ba) v xs
 below0 : Below w0.heap.size w0 W
 base : w0.heap.size ≤ bo
section
variable {n a : Int} {g : Bool} {b0 bo ba be : Nat} {w0 W W' : World} {v v1 : Value} {xs ys : List (List Int)}
theorem Ag.M.below (h : Ag.M n g a b0 bo ba be w0 v xs W) (hb : Below W.heap.size W W') : Ag.M n g a b0 bo ba be w0 v xs W' :=
 ⟨Ae h.h0 hb, Ae h.ho hb, Ae h.ha hb, Ae h.he hb, Kd.Du h.row hb, Ad h.below0 hb, h.base⟩
theorem Ag.M.put (h : Ag.M n g a b0 bo ba be w0 v xs W) (hs : Kd.S (Kd.slice 3 (Kd.int .i64)) 30 W' w0.heap.size (fun k_ => k_ ≠ ba) v1 ys) (hb : Below w0.heap.size w0 W') (hg : W.grownBy W' v.ownBlock) : Ag.M n g a b0 bo ba be w0 v1 ys (W'.setCell ⟨bo, 0, none⟩ v1) := by
 have q0 := Fb h.h0 hg (Kd.S_ne h.row h.h0 (by decide))
 have qo := Fb h.ho hg (Kd.S_ne h.row h.ho (by decide))
 have qa := Fb h.ha hg (Kd.S_ne h.row h.ha (by decide))
 have qe := Fb h.he hg (Kd.S_ne h.row h.he (by decide))
 exact ⟨Cb q0 (p := ⟨bo, 0, none⟩) (blk_ne q0 qo (by decide)) v1, (blk_set qo 0 v1).trans rfl, Cb qa (p := ⟨bo, 0, none⟩) (blk_ne qa qo (by decide)) v1, Cb qe (p := ⟨bo, 0, none⟩) (blk_ne qe qo (by decide)) v1, Kd.S_set hs qo (by decide) 0 v1, Bz hb h.base, h.base⟩
theorem Ag.M.away (h : Ag.M n g a b0 bo ba be w0 v xs W) {A : Option Addr} {c nn base : Nat} {ok : Nat → Prop} {t : List Int} (hr : Kd.R (Kd.int .i64) 3 W base ok (.slice A nn c) t) (k : Nat) (e : some k = (.slice A nn c : Value).ownBlock) : ¬ (k = bo ∨ some k = v.ownBlock) := by
 obtain ⟨cells, hc⟩ := Kd.R_typed hr k e.symm
 rintro (rfl | h2)
 ·rw [h.ho] at hc
  injection hc with hc
  injection hc with _ hc
  exact absurd hc (by decide)
 ·obtain ⟨cells2, hc2⟩ := Kd.S_typed h.row k h2.symm
  rw [hc2] at hc
  injection hc with hc
  injection hc with _ hc
  exact absurd hc (by decide)
def Ag.At (v u : Value) (N : Nat) : Prop := u.ownBlock = v.ownBlock ∨ ∃ b, u.ownBlock = some b ∧ N ≤ b
theorem Ag.At.next {v u : Value} {N : Nat} (h : Ag.At v u N) (k : Nat) (e : some k = u.ownBlock) : (k = bo ∨ some k = v.ownBlock) ∨ N ≤ k := by
 rcases h with h | ⟨b, h, hl⟩
 ·exact .inl (.inr (e.trans h))
 have := e.trans h
 injection this with this
 exact .inr (by omega)
theorem Ag.At.trans {v u u2 : Value} {N N2 : Nat} (h : Ag.At v u N) (h2 : Ag.At u u2 N2) (hl : N ≤ N2) : Ag.At v u2 N := by
 rcases h2 with h2 | ⟨b, h2, hb⟩
 rotate_left
 ·exact .inr ⟨b, h2, by omega⟩
 rcases h with h | ⟨b, h, hb⟩
 ·exact .inl (h2.trans h)
 exact .inr ⟨b, h2.trans h, hb⟩
end
set_option maxHeartbeats 8000000 in
set_option maxRecDepth 100000 in
theorem Ag.fn (k : Nat) : ∀ (n : Int) (g : Bool) (a : Int) (b0 bo ba be : Nat) (A : Option Addr) (c : Nat) (t : List Int) (lo hi : Int) (v : Value) (xs ys : List (List Int)) (w0 W : World) (hM : Ag.M n g a b0 bo ba be w0 v xs W) (hr : Kd.R (Kd.int .i64) 3 W w0.heap.size (fun k_ => some k_ = (.slice A t.length c : Value).ownBlock) (.slice A t.length c) t) (hn : 1 ≤ n ∧ n ≤ 24) (h : Ag.e k n a t lo hi xs = some ys),
  Calls Try.prog 117 #[.slice A t.length c, .int .i64 lo, .int .i64 hi, .pointer (some ⟨b0, 0, none⟩), .pointer (some ⟨bo, 0, none⟩), .pointer (some ⟨ba, 0, none⟩), .pointer (some ⟨be, 0, none⟩)] W fun e W' => e = .returned (.tuple #[]) ∧ ∃ v', Ag.M n g a b0 bo ba be w0 v' ys W' ∧ Kept W W' (fun k_ => k_ = bo ∨ some k_ = v.ownBlock) ∧ Ag.At v v' W.heap.size := by
 induction k using Nat.strongRecOn with
 | _ k ih =>
 intro n g a b0 bo ba be A c t lo hi v xs ys w0 W hM hr hn h
 cases k with
 | zero => exact absurd h (by simp [Ag.e])
 | succ k =>
 simp only [Ag.e] at h
 by_cases cl : t.length < 1000000
 rotate_left
 ·rw [if_neg cl] at h; cases h
 rw [if_pos cl] at h
 have LM := Aa.k cl
 have HM := Aa.k hM
 have HR := Aa.k hr
 have HNN := Aa.k hn
 have HIH := Aa.k ih
 have HB := Aa.k (Below.refl W.heap.size W)
 have hw : IntKind.i64.wrap (n - 1) = n - 1 := (Ah _).trans (by unfold wrap64; omega)
 have hcz0 := Bj hM.h0
 clear hM hr hn ih cl
 by_cases c0 : lo = 0 ∧ hi = n - 1
 ·rw [if_pos c0] at h
  by_cases cz : xs.length < 1048576
  rotate_left
  ·rw [if_neg cz] at h; cases h
  rw [if_pos cz] at h
  obtain rfl := Option.some.inj h
  have LMX := Aa.k cz
  have HCP := Aa.k (show impl_copied.f t = some t by have := LM.o; unfold impl_copied.f; simp; omega)
  obtain ⟨rfl, rfl⟩ := c0
  clear h cz
  go_enter Try.func117, Try.ntmps117
  go_wp2
  have n0_ := Aa.k (HM.o.below (Cf (Below.refl _ _)))
  have n1_ := Aa.k (Kd.Ba HR.o (Cf (Below.refl _ _)))
  have n2_ := Aa.k (Cf HB.o)
  clear HM HR HB hcz0
  have HM := n0_
  have HR := n1_
  have HB := n2_
  clear n0_ n1_ n2_
  refine Fp (n := 6) (S := fun w' => w'.cell? ⟨bo, 0, none⟩ = some v) (ds := [5]) #[N_,N_,N_,N_,N_,N_] (by kernel_rfl) rfl rfl ((Aw HM.o.ho 0).trans rfl) (fun hHeld => ?_); refine Dv Ag.tab1 Ag.bits1 (fun HT_ HW_ => ?_)
  generalize W.drew = w21 at HM HR HB hHeld ⊢
  apply pq_ 1 22 #[N_,Y_,N_,N_,N_,N_] HT_ rfl rfl (by kernel_rfl) (fun _ _ _ h => h) (by rfl)
  ·intro w'; go_simp; rfl
  ·simp only [Act.put, sT_, sZ_, sS_, Ah, Ai]; rfl
  refine En (i := 0) (N := some 21) (v := ?_) (a' := ?_) #[Y_,Y_,N_,N_,N_,N_] rfl rfl (Cm HT_.o HW_.o (by kernel_rfl)) (fun _ _ _ h => h) (Or.inl ⟨by rfl, ?_⟩) hHeld ?_ ?_
  rotate_left
  ·rintro w' s0
   go_simp
   rfl
  rotate_left
  ·simp only [Act.put, sT_, sZ_, sS_, Ah, Ai]
   rfl
  refine one_ (i := 2) (N := some 23) #[Y_,Y_,Y_,N_,N_,N_] rfl rfl (Ej HT_.o (by kernel_rfl)) (by decide) (fun K hK => ?_)
  refine goes_ Try.func118 (by kernel_rfl) rfl #[.slice A t.length c] (by rfl) rfl rfl (by (try simp only [mT_, mC_, mN_]); rfl) ?_
  refine (impl_copied.calls _ _ t t _ (Kd.Bb HR.o).2.2 (Kd.Bb HR.o).2.1 HCP.o).mono ?_
  rintro e w22 ⟨v23, rfl, ho0, hb⟩
  obtain ⟨A23, c23, e23⟩ := Kd.Cx ho0
  subst e23
  refine ⟨_, rfl, ?_⟩
  have HO23 := Aa.k ho0
  have HB2 := Aa.k hb
  have HM1 := HM
  have n0_ := Aa.k (HM.o.below hb)
  have n1_ := Aa.k (Ad HB.o hb)
  clear HM HB ho0 hb
  have HM := n0_
  have HB := n1_
  clear n0_ n1_
  refine hK.out _ _ (by (exact (Aw HM.o.ho 0).trans rfl)) (fun hHeld => ?_)
  clear hK K
  refine Es (a' := ?_) ?_ ?_
  rotate_left
  ·show Act.put _ (some 23) _ = _
   simp only [Act.put, sT_, sZ_, sS_, Ah, Ai]
   rfl
  refine one_ (i := 3) (N := some 24) #[Y_,Y_,Y_,Y_,N_,N_] rfl rfl (Ej HT_.o (by kernel_rfl)) (by decide) (fun K hK => ?_)
  refine value_ (v := .slice (some ⟨w22.heap.size, 0, none⟩) 1 1) (w1 := w22.alloc (.cells #[.slice A23 t.length c23] 30)) (by rfl) rfl ?hr ?_
  (case hr => (go_simp; done))
  refine hK.out _ _ (by (exact (Aw (blk_alloc HM.o.ho _) 0).trans rfl)) (fun hHeld => ?_)
  clear hK K
  refine Es (a' := ?_) ?_ ?_
  rotate_left
  ·show Act.put _ (some 24) _ = _
   simp only [Act.put, sT_, sZ_, sS_, Ah, Ai]
   rfl
  refine one_ (i := 4) (N := some 25) #[Y_,Y_,Y_,Y_,Y_,N_] rfl rfl (Ej HT_.o (by kernel_rfl)) (by decide) (fun K hK => ?_)
  refine Kd.S_append_step (Kd.slice 3 (Kd.int .i64)) (w0 := w0) w0.heap.size (by rfl) (.tmp 21) (.tmp 24) 48 30 (.slice none 0 0) 24 rfl Try.underlying48 Ag.info rfl Nat.one_pos (by omega) v xs t [.slice A23 t.length c23] (fun k_ => k_ ≠ ba) (fun k_ => w21.heap.size ≤ k_) rfl rfl ?aP ?aK ?aF ?aO ?aB ?aS ?aL ?_
  (case aP => exact ⟨_, rfl, Kd.Ct (Kd.Bv (Kd.R_bound HO23.o) (fun _ h_ => h_.2.1)) (Af HM1.o.below0)⟩)
  (case aK => exact fun k_ h_ => ⟨fun e_ => by have := Ca HM1.o.ha; omega, fun e_ => by have := Kd.S_lt HM1.o.row k_ e_.symm; omega⟩)
  (case aF => exact fun k_ h_ e_ => by have := Ca HM.o.ha; omega)
  (case aO => exact Kd.S_mono (Kd.S_old HM1.o.row HB2.o) (fun k_ h_ => ⟨h_.1, by have := h_.2; omega⟩))
  (case aB => exact HM.o.below0)
  (case aS => exact Af HM.o.below0)
  (case aL => have := LMX.o; omega)
  intro v1 w1 hs hb hg hat
  obtain ⟨A1, c1, e1⟩ := Kd.S_slice hs
  subst e1
  have HO1 := Aa.k (Fb HM.o.ho hg (Kd.S_ne HM.o.row HM.o.ho (by decide)))
  have HPUT := Aa.k (HM.o.put hs hb hg)
  have HHAT := Aa.k (show ((.slice A1 (xs ++ [t]).length c1 : Value).ownBlock = v.ownBlock ∨ ∃ b, (.slice A1 (xs ++ [t]).length c1 : Value).ownBlock = some b ∧ W.heap.size ≤ b) from hat.imp_right (fun ⟨b, h1, h2⟩ => ⟨b, h1, Nat.le_trans HB.o.size h2⟩))
  have HKK := Aa.k ((Kept.of_grown hg (Kept.of_below HB.o (fun k_ => k_ = bo ∨ some k_ = v.ownBlock)) (fun k_ e_ => .inl (.inr e_.symm))).setCell (p := ⟨bo, 0, none⟩) (.inl (.inl rfl)) (.slice A1 (xs ++ [t]).length c1))
  clear hs hb hg hat
  refine hK.out _ _ (by (exact (Aw HO1.o 0).trans rfl)) (fun hHeld => ?_)
  clear hK K
  refine Es (a' := ?_) ?_ ?_
  rotate_left
  ·show Act.put _ (some 25) _ = _
   simp only [Act.put, sT_, sZ_, sS_, Ah, Ai]
   rfl
  refine last_ (i := 5) (N := none) #[Y_,Y_,Y_,Y_,Y_,Y_] rfl rfl (Ej HT_.o (by kernel_rfl)) (by decide) (fun K hK => ?_)
  have hc_ : w1.cell? ⟨bo, 0, none⟩ = some v := (Aw HO1.o 0).trans rfl
  have hf_ : w1.frozen? ⟨bo, 0, none⟩ = false := Ac HO1.o 0
  refine skip_ (w1 := w1.setCell ⟨bo, 0, none⟩ (.slice A1 (xs ++ [t]).length c1)) (by rfl) rfl ?hr ?_
  (case hr => (go_simp; done))
  refine hK.out _ _ ?_
  clear hK K
  refine done_ (Fa HT_.o (by kernel_rfl)) ?_
  try go_wp2
  ((try simp only [Exit.inBlock, Exit.then]); refine bodyPost_ret (results_none rfl _ _ _) rfl ?_)
  exact ⟨rfl, _, HPUT.o, HKK.o, HHAT.o⟩
 rw [if_neg c0] at h
 have H' := Aa.k h
 clear h
 have hfacts : ((lo == 0) = true ∧ (hi == n - 1) = false) ∨ (lo == 0) = false := by
  by_cases q : lo = 0
  rotate_left
  ·exact .inr (beq_eq_false_iff_ne.mpr q)
  exact .inl ⟨beq_iff_eq.mpr q, beq_eq_false_iff_ne.mpr (fun e => c0 ⟨q, e⟩)⟩
 clear c0
 have HKP := Aa.k (Kept.refl W (fun k_ => k_ = bo ∨ some k_ = v.ownBlock))
 have HAT := Aa.k (show Ag.At v v W.heap.size from .inl rfl)
 rcases hfacts with ⟨f0, f1⟩ | f0
 all_goals
  go_enter Try.func117, Try.ntmps117
  go_wp2
  go_loopg [28] k (fun kq v28 w' => ∃ (p : Int) (u : Value) (zs : List (List Int)), v28 = .int .i64 p ∧ Aa (Ag.l0 kq n a t lo hi p zs = some ys) ∧ Aa (kq ≤ k) ∧ Aa (0 ≤ p) ∧ Aa (Ag.M n g a b0 bo ba be w0 u zs w') ∧ Aa (Kd.R (Kd.int .i64) 3 w' w0.heap.size (fun k_ => some k_ = (.slice A t.length c : Value).ownBlock) (.slice A t.length c) t) ∧ Aa (Kept W w' (fun k_ => k_ = bo ∨ some k_ = v.ownBlock)) ∧ Aa (Ag.At v u W.heap.size))
  case atStart => exact ⟨0, v, xs, rfl, H', ⟨Nat.le_refl _⟩, ⟨by omega⟩, HM, HR, HKP, HAT⟩
  case round =>
   clear H' HM HR HKP HAT HB f0
   (try clear f1); clear hcz0
   obtain ⟨p, u28, zs, rfl, HA, HK1, HP0, HM, HR, HKP, HAT⟩ := hrel
   cases gk with
   | zero => exact absurd HA.o (by simp [Ag.l0])
   | succ k1 =>
    have H := HA.o
    clear HA
    simp only [Ag.l0] at H
    have HB := Aa.k (Below.refl wr.heap.size wr)
    by_cases c13 : p < n
    ·rw [if_pos c13] at H
     have c13b : decide (p < n) = true := decide_eq_true c13
     have hp1 : IntKind.i64.wrap (p + 1) = p + 1 := (Ah _).trans (by have := HP0.o; have := HNN.o; unfold wrap64; omega)
     clear c13
     by_cases c1 : lo ≤ p ∧ p ≤ hi
     ·rw [if_pos c1] at H
      have H' := Aa.k H
      clear H
      have g1 : decide (lo ≤ p) = true := decide_eq_true c1.1
      have g2 : decide (p ≤ hi) = true := decide_eq_true c1.2
      clear c1
      go_wp2
      go_roundg k1
      case measure => have := HK1.o; omega
      case rel => exact ⟨p + 1, u28, zs, by (rfl), H', ⟨by have := HK1.o; omega⟩, ⟨by have := HP0.o; omega⟩, HM, HR, HKP, HAT⟩
     ·rw [if_neg c1] at H
      have hf : decide (lo ≤ p) = false ∨ (decide (lo ≤ p) = true ∧ decide (p ≤ hi) = false) := by
       by_cases q : lo ≤ p
       ·exact .inr ⟨decide_eq_true q, decide_eq_false (fun q2 => c1 ⟨q, q2⟩)⟩
       ·exact .inl (decide_eq_false q)
      clear c1
      have hd : (∃ (m : Nat) (ad : Addr) (x : Int), rd t ((t.length - 1 : Nat) : Int) = x ∧ t.length = m + 1 ∧ A = some ad ∧ wr.cell? (ad.add m) = some (.int .i64 x)) ∨ t.length = 0 := by
       rcases Nat.eq_zero_or_pos t.length with h0 | h0
       ·exact .inr h0
       ·obtain ⟨ad, e, hx⟩ := Kd.Eo (Kd.Bb HR.o).2.2 ((t.length - 1 : Nat) : Int) (by omega) (by omega)
        rw [Int.toNat_natCast] at hx
        exact .inl ⟨t.length - 1, ad, _, rfl, by omega, e, hx⟩
      by_cases c2 : 0 < t.length ∧ (p < a ↔ rd t ((t.length - 1 : Nat) : Int) < a)
      ·rw [if_pos c2] at H
       have H' := Aa.k H
       clear H
       obtain ⟨m, ad, x, hrx, hm, hA, hx⟩ | h0 := hd
       rotate_left
       ·exact absurd c2.1 (by omega)
       rw [hrx] at c2
       have hab : (decide (p < a) = true ∧ decide (x < a) = true) ∨ (decide (p < a) = false ∧ decide (x < a) = false) := by
        by_cases q : p < a
        ·exact .inl ⟨decide_eq_true q, decide_eq_true (c2.2.1 q)⟩
        ·exact .inr ⟨decide_eq_false q, decide_eq_false (fun q2 => q (c2.2.2 q2))⟩
       have g3 : decide (0 < (t.length : Int)) = true := decide_eq_true (by omega)
       have g3n : decide (0 < t.length) = true := decide_eq_true c2.1
       have hw2 : IntKind.i64.wrap ((t.length : Int) - 1) = (m : Int) := (Ah _).trans (by have := LM.o; unfold wrap64; omega)
       have i0 : (0 : Int) ≤ (m : Int) := by omega
       have i1 : (m : Int) < (t.length : Int) := by omega
       have i1n : m < t.length := by omega
       have HAE := Aa.k hA
       clear hA hrx c2 hm
       rcases hf with g1 | ⟨g1, g2⟩
       all_goals
        rcases hab with ⟨g4, g5⟩ | ⟨g4, g5⟩
        all_goals
         go_wp2
         have hA := HAE.o
         have n0_ := Aa.k (HM.o.below (Cf (Below.refl _ _)))
         have n1_ := Aa.k (Kd.Ba HR.o (Cf (Below.refl _ _)))
         have n2_ := Aa.k (Cf HB.o)
         clear HM HR HB
         have HM := n0_
         have HR := n1_
         have HB := n2_
         clear n0_ n1_ n2_
         refine Fp (n := 15) (S := fun w' => w'.cell? ⟨ba, 0, none⟩ = some (.int .i64 a) ∧ w'.cell? (ad.add m) = some (.int .i64 x)) (ds := []) #[N_,N_,N_,N_,N_,N_,N_,N_,N_,N_,N_,N_,N_,N_,N_] (by kernel_rfl) rfl rfl ⟨(Aw HM.o.ha 0).trans rfl, hx⟩ (fun hHeld => ?_); refine Dv Ag.tab7 Ag.bits7 (fun HT_ HW_ => ?_)
         generalize wr.drew = w31 at HM HR HB hHeld ⊢
         apply pq_ 0 41 #[Y_,N_,N_,N_,N_,N_,N_,N_,N_,N_,N_,N_,N_,N_,N_] HT_ rfl rfl (by kernel_rfl) (fun _ _ _ h => h) (by rfl)
         ·intro w'; go_simp; rfl
         ·simp only [Act.put, sT_, sZ_, sS_, Ah, Ai]; rfl
         apply pq_ 1 42 #[Y_,Y_,N_,N_,N_,N_,N_,N_,N_,N_,N_,N_,N_,N_,N_] HT_ rfl rfl (by kernel_rfl) (fun _ _ _ h => h) (by rfl)
         ·intro w'; go_simp; rfl
         ·simp only [Act.put, sT_, sZ_, sS_, Ah, Ai]; rfl
         apply pq_ 2 43 #[Y_,Y_,Y_,N_,N_,N_,N_,N_,N_,N_,N_,N_,N_,N_,N_] HT_ rfl rfl (by kernel_rfl) (fun _ _ _ h => h) (by rfl)
         ·intro w'; go_simp; rfl
         ·simp only [Act.put, sT_, sZ_, sS_, Ah, Ai]; rfl
         apply pq_ 3 44 #[Y_,Y_,Y_,Y_,N_,N_,N_,N_,N_,N_,N_,N_,N_,N_,N_] HT_ rfl rfl (by kernel_rfl) (fun _ _ _ h => h) (by rfl)
         ·intro w'; go_simp; rfl
         ·simp only [Act.put, sT_, sZ_, sS_, Ah, Ai]; rfl
         refine En (i := 4) (N := some 45) (v := ?_) (a' := ?_) #[Y_,Y_,Y_,Y_,Y_,N_,N_,N_,N_,N_,N_,N_,N_,N_,N_] rfl rfl (Cm HT_.o HW_.o (by kernel_rfl)) (fun _ _ _ h => h) (Or.inl ⟨by rfl, ?_⟩) hHeld ?_ ?_
         rotate_left
         ·rintro w' ⟨s0, s1⟩
          go_simp
          rfl
         rotate_left
         ·simp only [Act.put, sT_, sZ_, sS_, Ah, Ai]
          rfl
         apply pq_ 5 46 #[Y_,Y_,Y_,Y_,Y_,Y_,N_,N_,N_,N_,N_,N_,N_,N_,N_] HT_ rfl rfl (by kernel_rfl) (fun _ _ _ h => h) (by rfl)
         ·intro w'; go_simp; rfl
         ·simp only [Act.put, sT_, sZ_, sS_, Ah, Ai]; rfl
         apply pq_ 6 47 #[Y_,Y_,Y_,Y_,Y_,Y_,Y_,N_,N_,N_,N_,N_,N_,N_,N_] HT_ rfl rfl (by kernel_rfl) (fun _ _ _ h => h) (by rfl)
         ·intro w'; go_simp; rfl
         ·simp only [Act.put, sT_, sZ_, sS_, Ah, Ai]; rfl
         apply pq_ 7 48 #[Y_,Y_,Y_,Y_,Y_,Y_,Y_,Y_,N_,N_,N_,N_,N_,N_,N_] HT_ rfl rfl (by kernel_rfl) (fun _ _ _ h => h) (by rfl)
         ·intro w'; go_simp; rfl
         ·simp only [Act.put, sT_, sZ_, sS_, Ah, Ai]; rfl
         apply pq_ 8 49 #[Y_,Y_,Y_,Y_,Y_,Y_,Y_,Y_,Y_,N_,N_,N_,N_,N_,N_] HT_ rfl rfl (by kernel_rfl) (fun _ _ _ h => h) (by rfl)
         ·intro w'; go_simp; rfl
         ·simp only [Act.put, sT_, sZ_, sS_, Ah, Ai]; rfl
         apply pq_ 9 50 #[Y_,Y_,Y_,Y_,Y_,Y_,Y_,Y_,Y_,Y_,N_,N_,N_,N_,N_] HT_ rfl rfl (by kernel_rfl) (fun _ _ _ h => h) (by rfl)
         ·intro w'; go_simp; rfl
         ·simp only [Act.put, sT_, sZ_, sS_, Ah, Ai]; rfl
         refine En (i := 10) (N := some 51) (v := ?_) (a' := ?_) #[Y_,Y_,Y_,Y_,Y_,Y_,Y_,Y_,Y_,Y_,Y_,N_,N_,N_,N_] rfl rfl (Cm HT_.o HW_.o (by kernel_rfl)) (fun _ _ _ h => h) (Or.inl ⟨by rfl, ?_⟩) hHeld ?_ ?_
         rotate_left
         ·rintro w' ⟨s0, s1⟩
          go_simp
          rfl
         rotate_left
         ·simp only [Act.put, sT_, sZ_, sS_, Ah, Ai]
          rfl
         refine En (i := 11) (N := some 52) (v := ?_) (a' := ?_) #[Y_,Y_,Y_,Y_,Y_,Y_,Y_,Y_,Y_,Y_,Y_,Y_,N_,N_,N_] rfl rfl (Cm HT_.o HW_.o (by kernel_rfl)) (fun _ _ _ h => h) (Or.inl ⟨by rfl, ?_⟩) hHeld ?_ ?_
         rotate_left
         ·rintro w' ⟨s0, s1⟩
          go_simp
          rfl
         rotate_left
         ·simp only [Act.put, sT_, sZ_, sS_, Ah, Ai]
          rfl
         apply pq_ 12 53 #[Y_,Y_,Y_,Y_,Y_,Y_,Y_,Y_,Y_,Y_,Y_,Y_,Y_,N_,N_] HT_ rfl rfl (by kernel_rfl) (fun _ _ _ h => h) (by rfl)
         ·intro w'; go_simp; rfl
         ·simp only [Act.put, sT_, sZ_, sS_, Ah, Ai]; rfl
         apply pq_ 13 54 #[Y_,Y_,Y_,Y_,Y_,Y_,Y_,Y_,Y_,Y_,Y_,Y_,Y_,Y_,N_] HT_ rfl rfl (by kernel_rfl) (fun _ _ _ h => h) (by rfl)
         ·intro w'; go_simp; rfl
         ·simp only [Act.put, sT_, sZ_, sS_, Ah, Ai]; rfl
         apply pq_ 14 55 #[Y_,Y_,Y_,Y_,Y_,Y_,Y_,Y_,Y_,Y_,Y_,Y_,Y_,Y_,Y_] HT_ rfl rfl (by kernel_rfl) (fun _ _ _ h => h) (by rfl)
         ·intro w'; go_simp; rfl
         ·simp only [Act.put, sT_, sZ_, sS_, Ah, Ai]; rfl
         refine done_ (Fa HT_.o (by kernel_rfl)) ?_
         clear hA
         go_wp2
         go_roundg k1
         case measure => have := HK1.o; omega
         case rel => exact ⟨p + 1, u28, zs, by (rfl), H', ⟨by have := HK1.o; omega⟩, ⟨by have := HP0.o; omega⟩, HM, HR, Aa.k (Kept.below HKP.o HB.o), HAT⟩
      ·rw [if_neg c2] at H
       obtain ⟨q, A180, H⟩ := Option.bind_eq_some_iff.mp H
       have A18 := Aa.k A180
       have H' := Aa.k H
       clear A180 H
       have HCL := Aa.k (show Dj.f t = some t by have := LM.o; unfold Dj.f; rw [if_pos (by omega)])
       have hz : (∃ (m : Nat) (ad : Addr) (x : Int), A = some ad ∧ wr.cell? (ad.add m) = some (.int .i64 x) ∧ (decide (0 < (t.length : Int)) = true ∧ decide (0 < t.length) = true) ∧ IntKind.i64.wrap ((t.length : Int) - 1) = (m : Int) ∧ (m : Int) < (t.length : Int) ∧ m < t.length ∧ ((decide (p < a) = true ∧ decide (x < a) = false) ∨ (decide (p < a) = false ∧ decide (x < a) = true))) ∨ (decide (0 < (t.length : Int)) = false ∧ decide (0 < t.length) = false) := by
        rcases hd with ⟨m, ad, x, hrx, hm, hA, hx⟩ | h0
        ·rw [hrx] at c2
         refine .inl ⟨m, ad, x, hA, hx, ⟨decide_eq_true (by omega), decide_eq_true (by omega)⟩, (Ah _).trans (by have := LM.o; unfold wrap64; omega), by omega, by omega, ?_⟩
         by_cases q1 : p < a
         ·exact .inl ⟨decide_eq_true q1, decide_eq_false (fun q2 => c2 ⟨by omega, ⟨fun _ => q2, fun _ => q1⟩⟩)⟩
         ·refine .inr ⟨decide_eq_false q1, decide_eq_true ?_⟩
          by_cases q2 : x < a
          ·exact q2
          ·exact absurd ⟨by omega, ⟨fun h => absurd h q1, fun h => absurd h q2⟩⟩ c2
        ·exact .inr ⟨decide_eq_false (by omega), decide_eq_false (by omega)⟩
       clear hd c2
       rcases hf with g1 | ⟨g1, g2⟩
       all_goals
        rcases hz with ⟨m, ad, x, hA, hx, ⟨g3, g3n⟩, hw2, i1, i1n, ⟨g4, g5⟩ | ⟨g4, g5⟩⟩ | ⟨g3, g3n⟩
        all_goals
         try have HAE := Aa.k hA
         (try clear hA)
         go_wp2
         have n0_ := Aa.k (HM.o.below (Cf (Below.refl _ _)))
         have n1_ := Aa.k (Kd.Ba HR.o (Cf (Below.refl _ _)))
         have n2_ := Aa.k (Cf HB.o)
         clear HM HR HB
         have HM := n0_
         have HR := n1_
         have HB := n2_
         clear n0_ n1_ n2_
         first
         | (have hA := HAE.o
            refine Fp (n := 15) (S := fun w' => w'.cell? ⟨ba, 0, none⟩ = some (.int .i64 a) ∧ w'.cell? (ad.add m) = some (.int .i64 x)) (ds := []) #[N_,N_,N_,N_,N_,N_,N_,N_,N_,N_,N_,N_,N_,N_,N_] (by kernel_rfl) rfl rfl ⟨(Aw HM.o.ha 0).trans rfl, hx⟩ (fun hHeld => ?_); refine Dv Ag.tab7 Ag.bits7 (fun HT_ HW_ => ?_)
            generalize wr.drew = w31 at HM HR HB hHeld ⊢
            apply pq_ 0 41 #[Y_,N_,N_,N_,N_,N_,N_,N_,N_,N_,N_,N_,N_,N_,N_] HT_ rfl rfl (by kernel_rfl) (fun _ _ _ h => h) (by rfl)
            ·intro w'; go_simp; rfl
            ·simp only [Act.put, sT_, sZ_, sS_, Ah, Ai]; rfl
            apply pq_ 1 42 #[Y_,Y_,N_,N_,N_,N_,N_,N_,N_,N_,N_,N_,N_,N_,N_] HT_ rfl rfl (by kernel_rfl) (fun _ _ _ h => h) (by rfl)
            ·intro w'; go_simp; rfl
            ·simp only [Act.put, sT_, sZ_, sS_, Ah, Ai]; rfl
            apply pq_ 2 43 #[Y_,Y_,Y_,N_,N_,N_,N_,N_,N_,N_,N_,N_,N_,N_,N_] HT_ rfl rfl (by kernel_rfl) (fun _ _ _ h => h) (by rfl)
            ·intro w'; go_simp; rfl
            ·simp only [Act.put, sT_, sZ_, sS_, Ah, Ai]; rfl
            apply pq_ 3 44 #[Y_,Y_,Y_,Y_,N_,N_,N_,N_,N_,N_,N_,N_,N_,N_,N_] HT_ rfl rfl (by kernel_rfl) (fun _ _ _ h => h) (by rfl)
            ·intro w'; go_simp; rfl
            ·simp only [Act.put, sT_, sZ_, sS_, Ah, Ai]; rfl
            refine En (i := 4) (N := some 45) (v := ?_) (a' := ?_) #[Y_,Y_,Y_,Y_,Y_,N_,N_,N_,N_,N_,N_,N_,N_,N_,N_] rfl rfl (Cm HT_.o HW_.o (by kernel_rfl)) (fun _ _ _ h => h) (Or.inl ⟨by rfl, ?_⟩) hHeld ?_ ?_
            rotate_left
            ·rintro w' ⟨s0, s1⟩
             go_simp
             rfl
            rotate_left
            ·simp only [Act.put, sT_, sZ_, sS_, Ah, Ai]
             rfl
            apply pq_ 5 46 #[Y_,Y_,Y_,Y_,Y_,Y_,N_,N_,N_,N_,N_,N_,N_,N_,N_] HT_ rfl rfl (by kernel_rfl) (fun _ _ _ h => h) (by rfl)
            ·intro w'; go_simp; rfl
            ·simp only [Act.put, sT_, sZ_, sS_, Ah, Ai]; rfl
            apply pq_ 6 47 #[Y_,Y_,Y_,Y_,Y_,Y_,Y_,N_,N_,N_,N_,N_,N_,N_,N_] HT_ rfl rfl (by kernel_rfl) (fun _ _ _ h => h) (by rfl)
            ·intro w'; go_simp; rfl
            ·simp only [Act.put, sT_, sZ_, sS_, Ah, Ai]; rfl
            apply pq_ 7 48 #[Y_,Y_,Y_,Y_,Y_,Y_,Y_,Y_,N_,N_,N_,N_,N_,N_,N_] HT_ rfl rfl (by kernel_rfl) (fun _ _ _ h => h) (by rfl)
            ·intro w'; go_simp; rfl
            ·simp only [Act.put, sT_, sZ_, sS_, Ah, Ai]; rfl
            apply pq_ 8 49 #[Y_,Y_,Y_,Y_,Y_,Y_,Y_,Y_,Y_,N_,N_,N_,N_,N_,N_] HT_ rfl rfl (by kernel_rfl) (fun _ _ _ h => h) (by rfl)
            ·intro w'; go_simp; rfl
            ·simp only [Act.put, sT_, sZ_, sS_, Ah, Ai]; rfl
            apply pq_ 9 50 #[Y_,Y_,Y_,Y_,Y_,Y_,Y_,Y_,Y_,Y_,N_,N_,N_,N_,N_] HT_ rfl rfl (by kernel_rfl) (fun _ _ _ h => h) (by rfl)
            ·intro w'; go_simp; rfl
            ·simp only [Act.put, sT_, sZ_, sS_, Ah, Ai]; rfl
            refine En (i := 10) (N := some 51) (v := ?_) (a' := ?_) #[Y_,Y_,Y_,Y_,Y_,Y_,Y_,Y_,Y_,Y_,Y_,N_,N_,N_,N_] rfl rfl (Cm HT_.o HW_.o (by kernel_rfl)) (fun _ _ _ h => h) (Or.inl ⟨by rfl, ?_⟩) hHeld ?_ ?_
            rotate_left
            ·rintro w' ⟨s0, s1⟩
             go_simp
             rfl
            rotate_left
            ·simp only [Act.put, sT_, sZ_, sS_, Ah, Ai]
             rfl
            refine En (i := 11) (N := some 52) (v := ?_) (a' := ?_) #[Y_,Y_,Y_,Y_,Y_,Y_,Y_,Y_,Y_,Y_,Y_,Y_,N_,N_,N_] rfl rfl (Cm HT_.o HW_.o (by kernel_rfl)) (fun _ _ _ h => h) (Or.inl ⟨by rfl, ?_⟩) hHeld ?_ ?_
            rotate_left
            ·rintro w' ⟨s0, s1⟩
             go_simp
             rfl
            rotate_left
            ·simp only [Act.put, sT_, sZ_, sS_, Ah, Ai]
             rfl
            apply pq_ 12 53 #[Y_,Y_,Y_,Y_,Y_,Y_,Y_,Y_,Y_,Y_,Y_,Y_,Y_,N_,N_] HT_ rfl rfl (by kernel_rfl) (fun _ _ _ h => h) (by rfl)
            ·intro w'; go_simp; rfl
            ·simp only [Act.put, sT_, sZ_, sS_, Ah, Ai]; rfl
            apply pq_ 13 54 #[Y_,Y_,Y_,Y_,Y_,Y_,Y_,Y_,Y_,Y_,Y_,Y_,Y_,Y_,N_] HT_ rfl rfl (by kernel_rfl) (fun _ _ _ h => h) (by rfl)
            ·intro w'; go_simp; rfl
            ·simp only [Act.put, sT_, sZ_, sS_, Ah, Ai]; rfl
            apply pq_ 14 55 #[Y_,Y_,Y_,Y_,Y_,Y_,Y_,Y_,Y_,Y_,Y_,Y_,Y_,Y_,Y_] HT_ rfl rfl (by kernel_rfl) (fun _ _ _ h => h) (by rfl)
            ·intro w'; go_simp; rfl
            ·simp only [Act.put, sT_, sZ_, sS_, Ah, Ai]; rfl
            refine done_ (Fa HT_.o (by kernel_rfl)) ?_
            clear hA hx hw2 i1 i1n g4 g5)
         | (skip
            refine Fp (n := 15) (S := fun w' => True) (ds := []) #[N_,N_,N_,N_,N_,N_,N_,N_,N_,N_,N_,N_,N_,N_,N_] (by kernel_rfl) rfl rfl trivial (fun hHeld => ?_); refine Dv Ag.tab7 Ag.bits7 (fun HT_ HW_ => ?_)
            generalize wr.drew = w31 at HM HR HB hHeld ⊢
            apply pq_ 0 41 #[Y_,N_,N_,N_,N_,N_,N_,N_,N_,N_,N_,N_,N_,N_,N_] HT_ rfl rfl (by kernel_rfl) (fun _ _ _ h => h) (by rfl)
            ·intro w'; go_simp; rfl
            ·simp only [Act.put, sT_, sZ_, sS_, Ah, Ai]; rfl
            apply pq_ 1 42 #[Y_,Y_,N_,N_,N_,N_,N_,N_,N_,N_,N_,N_,N_,N_,N_] HT_ rfl rfl (by kernel_rfl) (fun _ _ _ h => h) (by rfl)
            ·intro w'; go_simp; rfl
            ·simp only [Act.put, sT_, sZ_, sS_, Ah, Ai]; rfl
            apply pq_ 2 43 #[Y_,Y_,Y_,N_,N_,N_,N_,N_,N_,N_,N_,N_,N_,N_,N_] HT_ rfl rfl (by kernel_rfl) (fun _ _ _ h => h) (by rfl)
            ·intro w'; go_simp; rfl
            ·simp only [Act.put, sT_, sZ_, sS_, Ah, Ai]; rfl
            refine Ei (i := 3) (N := some 44) (v := undef) (a' := ?_) #[Y_,Y_,Y_,Y_,N_,N_,N_,N_,N_,N_,N_,N_,N_,N_,N_] rfl rfl (Di HT_.o (by kernel_rfl)) (fun _ _ _ h => h) (Or.inr ⟨by rfl, rfl⟩) ?_ ?_
            rotate_left
            ·simp only [Act.put, sT_, sZ_, sS_, Ah, Ai]
             rfl
            refine Ei (i := 4) (N := some 45) (v := undef) (a' := ?_) #[Y_,Y_,Y_,Y_,Y_,N_,N_,N_,N_,N_,N_,N_,N_,N_,N_] rfl rfl (Di HT_.o (by kernel_rfl)) (fun _ _ _ h => h) (Or.inr ⟨by rfl, rfl⟩) ?_ ?_
            rotate_left
            ·simp only [Act.put, sT_, sZ_, sS_, Ah, Ai]
             rfl
            refine Ei (i := 5) (N := some 46) (v := undef) (a' := ?_) #[Y_,Y_,Y_,Y_,Y_,Y_,N_,N_,N_,N_,N_,N_,N_,N_,N_] rfl rfl (Di HT_.o (by kernel_rfl)) (fun _ _ _ h => h) (Or.inr ⟨by rfl, rfl⟩) ?_ ?_
            rotate_left
            ·simp only [Act.put, sT_, sZ_, sS_, Ah, Ai]
             rfl
            refine Ei (i := 6) (N := some 47) (v := undef) (a' := ?_) #[Y_,Y_,Y_,Y_,Y_,Y_,Y_,N_,N_,N_,N_,N_,N_,N_,N_] rfl rfl (Di HT_.o (by kernel_rfl)) (fun _ _ _ h => h) (Or.inr ⟨by rfl, rfl⟩) ?_ ?_
            rotate_left
            ·simp only [Act.put, sT_, sZ_, sS_, Ah, Ai]
             rfl
            refine Ei (i := 7) (N := some 48) (v := undef) (a' := ?_) #[Y_,Y_,Y_,Y_,Y_,Y_,Y_,Y_,N_,N_,N_,N_,N_,N_,N_] rfl rfl (Di HT_.o (by kernel_rfl)) (fun _ _ _ h => h) (Or.inr ⟨by rfl, rfl⟩) ?_ ?_
            rotate_left
            ·simp only [Act.put, sT_, sZ_, sS_, Ah, Ai]
             rfl
            refine Ei (i := 8) (N := some 49) (v := undef) (a' := ?_) #[Y_,Y_,Y_,Y_,Y_,Y_,Y_,Y_,Y_,N_,N_,N_,N_,N_,N_] rfl rfl (Di HT_.o (by kernel_rfl)) (fun _ _ _ h => h) (Or.inr ⟨by rfl, rfl⟩) ?_ ?_
            rotate_left
            ·simp only [Act.put, sT_, sZ_, sS_, Ah, Ai]
             rfl
            refine Ei (i := 9) (N := some 50) (v := undef) (a' := ?_) #[Y_,Y_,Y_,Y_,Y_,Y_,Y_,Y_,Y_,Y_,N_,N_,N_,N_,N_] rfl rfl (Di HT_.o (by kernel_rfl)) (fun _ _ _ h => h) (Or.inr ⟨by rfl, rfl⟩) ?_ ?_
            rotate_left
            ·simp only [Act.put, sT_, sZ_, sS_, Ah, Ai]
             rfl
            refine Ei (i := 10) (N := some 51) (v := undef) (a' := ?_) #[Y_,Y_,Y_,Y_,Y_,Y_,Y_,Y_,Y_,Y_,Y_,N_,N_,N_,N_] rfl rfl (Di HT_.o (by kernel_rfl)) (fun _ _ _ h => h) (Or.inr ⟨by rfl, rfl⟩) ?_ ?_
            rotate_left
            ·simp only [Act.put, sT_, sZ_, sS_, Ah, Ai]
             rfl
            refine Ei (i := 11) (N := some 52) (v := undef) (a' := ?_) #[Y_,Y_,Y_,Y_,Y_,Y_,Y_,Y_,Y_,Y_,Y_,Y_,N_,N_,N_] rfl rfl (Di HT_.o (by kernel_rfl)) (fun _ _ _ h => h) (Or.inr ⟨by rfl, rfl⟩) ?_ ?_
            rotate_left
            ·simp only [Act.put, sT_, sZ_, sS_, Ah, Ai]
             rfl
            refine Ei (i := 12) (N := some 53) (v := undef) (a' := ?_) #[Y_,Y_,Y_,Y_,Y_,Y_,Y_,Y_,Y_,Y_,Y_,Y_,Y_,N_,N_] rfl rfl (Di HT_.o (by kernel_rfl)) (fun _ _ _ h => h) (Or.inr ⟨by rfl, rfl⟩) ?_ ?_
            rotate_left
            ·simp only [Act.put, sT_, sZ_, sS_, Ah, Ai]
             rfl
            refine Ei (i := 13) (N := some 54) (v := undef) (a' := ?_) #[Y_,Y_,Y_,Y_,Y_,Y_,Y_,Y_,Y_,Y_,Y_,Y_,Y_,Y_,N_] rfl rfl (Di HT_.o (by kernel_rfl)) (fun _ _ _ h => h) (Or.inr ⟨by rfl, rfl⟩) ?_ ?_
            rotate_left
            ·simp only [Act.put, sT_, sZ_, sS_, Ah, Ai]
             rfl
            apply pq_ 14 55 #[Y_,Y_,Y_,Y_,Y_,Y_,Y_,Y_,Y_,Y_,Y_,Y_,Y_,Y_,Y_] HT_ rfl rfl (by kernel_rfl) (fun _ _ _ h => h) (by rfl)
            ·intro w'; go_simp; rfl
            ·simp only [Act.put, sT_, sZ_, sS_, Ah, Ai]; rfl
            refine done_ (Fa HT_.o (by kernel_rfl)) ?_)
         try go_wp2
         clear g1 g3 g3n
         (try clear g2)
         have n0_ := Aa.k (HM.o.below (Cf (Below.refl _ _)))
         have n1_ := Aa.k (Kd.Ba HR.o (Cf (Below.refl _ _)))
         have n2_ := Aa.k (Cf HB.o)
         clear HM HR HB
         have HM := n0_
         have HR := n1_
         have HB := n2_
         clear n0_ n1_ n2_
         refine Fp (n := 13) (S := fun w' => w'.cell? ⟨be, 0, none⟩ = some (.func (.func 117) #[] #[.pointer (some ⟨b0, 0, none⟩), .pointer (some ⟨bo, 0, none⟩), .pointer (some ⟨ba, 0, none⟩), .pointer (some ⟨be, 0, none⟩)])) (ds := []) #[N_,N_,N_,N_,N_,N_,N_,N_,N_,N_,N_,N_,N_] (by kernel_rfl) rfl rfl ((Aw HM.o.he 0).trans rfl) (fun hHeld => ?_); refine Dv Ag.tab8 Ag.bits8 (fun HT_ HW_ => ?_)
         generalize w31.drew = w41 at HM HR HB hHeld ⊢
         apply pq_ 1 57 #[N_,Y_,N_,N_,N_,N_,N_,N_,N_,N_,N_,N_,N_] HT_ rfl rfl (by kernel_rfl) (fun _ _ _ h => h) (by rfl)
         ·intro w'; go_simp; rfl
         ·simp only [Act.put, sT_, sZ_, sS_, Ah, Ai]; rfl
         apply pq_ 3 59 #[N_,Y_,N_,Y_,N_,N_,N_,N_,N_,N_,N_,N_,N_] HT_ rfl rfl (by kernel_rfl) (fun _ _ _ h => h) (by rfl)
         ·intro w'; go_simp; rfl
         ·simp only [Act.put, sT_, sZ_, sS_, Ah, Ai]; rfl
         apply pq_ 6 62 #[N_,Y_,N_,Y_,N_,N_,Y_,N_,N_,N_,N_,N_,N_] HT_ rfl rfl (by kernel_rfl) (fun _ _ _ h => h) (by rfl)
         ·intro w'; go_simp; rfl
         ·simp only [Act.put, sT_, sZ_, sS_, Ah, Ai]; rfl
         apply pq_ 7 63 #[N_,Y_,N_,Y_,N_,N_,Y_,Y_,N_,N_,N_,N_,N_] HT_ rfl rfl (by kernel_rfl) (fun _ _ _ h => h) (by rfl)
         ·intro w'; go_simp; rfl
         ·simp only [Act.put, sT_, sZ_, sS_, Ah, Ai]; rfl
         apply pq_ 8 64 #[N_,Y_,N_,Y_,N_,N_,Y_,Y_,Y_,N_,N_,N_,N_] HT_ rfl rfl (by kernel_rfl) (fun _ _ _ h => h) (by rfl)
         ·intro w'; go_simp; rfl
         ·simp only [Act.put, sT_, sZ_, sS_, Ah, Ai]; rfl
         apply pq_ 9 65 #[N_,Y_,N_,Y_,N_,N_,Y_,Y_,Y_,Y_,N_,N_,N_] HT_ rfl rfl (by kernel_rfl) (fun _ _ _ h => h) (by rfl)
         ·intro w'; go_simp; rfl
         ·simp only [Act.put, sT_, sZ_, sS_, Ah, Ai]; rfl
         apply pq_ 10 66 #[N_,Y_,N_,Y_,N_,N_,Y_,Y_,Y_,Y_,Y_,N_,N_] HT_ rfl rfl (by kernel_rfl) (fun _ _ _ h => h) (by rfl)
         ·intro w'; go_simp; rfl
         ·simp only [Act.put, sT_, sZ_, sS_, Ah, Ai]; rfl
         apply pq_ 11 67 #[N_,Y_,N_,Y_,N_,N_,Y_,Y_,Y_,Y_,Y_,Y_,N_] HT_ rfl rfl (by kernel_rfl) (fun _ _ _ h => h) (by rfl)
         ·intro w'; go_simp; rfl
         ·simp only [Act.put, sT_, sZ_, sS_, Ah, Ai]; rfl
         refine En (i := 0) (N := some 56) (v := ?_) (a' := ?_) #[Y_,Y_,N_,Y_,N_,N_,Y_,Y_,Y_,Y_,Y_,Y_,N_] rfl rfl (Cm HT_.o HW_.o (by kernel_rfl)) (fun _ _ _ h => h) (Or.inl ⟨by rfl, ?_⟩) hHeld ?_ ?_
         rotate_left
         ·rintro w' s0
          go_simp
          rfl
         rotate_left
         ·simp only [Act.put, sT_, sZ_, sS_, Ah, Ai]
          rfl
         have HM2 := HM
         have HBX := Aa.k (Below.refl w41.heap.size w41)
         refine join_ (σ := Value × Value) 2 #[Y_,Y_,Y_,Y_,Y_,N_,Y_,Y_,Y_,Y_,Y_,Y_,N_] (fun s_ => [(58, s_.1), (60, s_.2)]) (fun s_ w' => (w'.cell? ⟨be, 0, none⟩ = some (.func (.func 117) #[] #[.pointer (some ⟨b0, 0, none⟩), .pointer (some ⟨bo, 0, none⟩), .pointer (some ⟨ba, 0, none⟩), .pointer (some ⟨be, 0, none⟩)])) ∧ (Kd.R (Kd.int .i64) 3 w' w41.heap.size (fun k_ => some k_ ≠ (s_.2 : Value).ownBlock) s_.1 t) ∧ (Kd.R (Kd.int .i64) 3 w' w41.heap.size (fun k_ => some k_ ≠ (s_.1 : Value).ownBlock) s_.2 [p]) ∧ (Ag.M n g a b0 bo ba be w0 u28 zs w') ∧ (Below w41.heap.size w41 w')) ?_ ?_
         rotate_left
         ·intro hCont
          refine two_ (i := 2) (j := 4) (Ni := some 58) (Nj := some 60) #[Y_,Y_,Y_,Y_,N_,N_,Y_,Y_,Y_,Y_,Y_,Y_,N_] #[Y_,Y_,N_,Y_,Y_,N_,Y_,Y_,Y_,Y_,Y_,Y_,N_] rfl rfl rfl rfl (two_of HT_.o (by kernel_rfl)) (by decide) (by decide) (fun K hK => ?_) (fun K hK => ?_)
          ·skip
           refine goes_ Try.func119 (by kernel_rfl) rfl #[.slice A t.length c] (by rfl) rfl rfl (by (try simp only [mT_, mC_, mN_]); rfl) ?_
           refine (Dj.calls _ _ t t _ ?side1 (Kd.Bb HR.o).2.1 HCL.o).mono ?_
           (case side1 => exact Kd.Dx (Kd.Bb HR.o).2.2 HBX.o)
           rintro e w22 ⟨v58, rfl, ho0, hb⟩
           refine ⟨_, rfl, ?_⟩
           have HO58 := Aa.k (Kd.Ct ho0 (Af HBX.o))
           clear ho0
           have n2_ := Aa.k (HM2.o.below hb)
           have n3_ := Aa.k (Ad HBX.o hb)
           clear HM2 HBX hb
           have HM2 := n2_
           have HBX := n3_
           clear n2_ n3_
           refine hK.out _ _ (by (exact (Aw HM2.o.he 0).trans rfl)) (fun hHeld => ?_)
           clear hK K
           refine Es (a' := ?_) ?_ ?_
           rotate_left
           ·show Act.put _ (some 58) _ = _
            simp only [Act.put, sT_, sZ_, sS_, Ah, Ai]
            rfl
           refine one_ (i := 4) (N := some 60) #[Y_,Y_,Y_,Y_,Y_,N_,Y_,Y_,Y_,Y_,Y_,Y_,N_] rfl rfl (Ej HT_.o (by kernel_rfl)) (by decide) (fun K hK => ?_)
           refine Kd.R_lit_step (Kd.int .i64) _ 3 ?hg (N := 60) ?hd (xs := ([p] : List Int)) (inner := [.int .i64 p]) (ok := fun _ => True) (okp := fun _ => True) ?hr ?hp (fun _ hk => hk) trivial (Below.refl _ _) (Nat.le_refl _) (by simp) ?_; (case hd => rfl); (case hg => rfl); (case hr => (go_simp; done)); (case hp => exact (Reps.one (show Kd.M (Kd.int .i64) _ _ _ p [.int .i64 p] from rfl) (Reps.none _ _)))
           intro v60 w23 ho0 hb hg_ hnew_
           clear hg_ hnew_
           have n0_ := Aa.k (Kd.Cw HO58.o (Kd.Cy ho0) hb)
           have HO60 := Aa.k (Kd.Ct (Kd.Dz ho0 (Kd.R_lt HO58.o)) (Af HBX.o))
           clear HO58 ho0
           have HO58 := n0_
           clear n0_
           have n2_ := Aa.k (HM2.o.below hb)
           have n3_ := Aa.k (Ad HBX.o hb)
           clear HM2 HBX hb
           have HM2 := n2_
           have HBX := n3_
           clear n2_ n3_
           refine hK.out _ _ (by (exact (Aw HM2.o.he 0).trans rfl)) (fun hHeld => ?_)
           clear hK K
           refine Es (a' := ?_) ?_ ?_
           rotate_left
           ·show Act.put _ (some 60) _ = _
            simp only [Act.put, sT_, sZ_, sS_, Ah, Ai]
            rfl
           exact Es (by simp only [putAll, Act.put, sT_, sZ_, sS_]) (hCont (v58, v60) _ ⟨hHeld, Kd.Bv HO58.o (fun _ hk => hk.2), Kd.Bv HO60.o (fun _ hk => hk.2), HM2.o, HBX.o⟩)
          ·skip
           refine Kd.R_lit_step (Kd.int .i64) _ 3 ?hg (N := 60) ?hd (xs := ([p] : List Int)) (inner := [.int .i64 p]) (ok := fun _ => True) (okp := fun _ => True) ?hr ?hp (fun _ hk => hk) trivial (Below.refl _ _) (Nat.le_refl _) (by simp) ?_; (case hd => rfl); (case hg => rfl); (case hr => (go_simp; done)); (case hp => exact (Reps.one (show Kd.M (Kd.int .i64) _ _ _ p [.int .i64 p] from rfl) (Reps.none _ _)))
           intro v60 w23 ho0 hb hg_ hnew_
           clear hg_ hnew_
           have HO60 := Aa.k (Kd.Ct ho0 (Af HBX.o))
           clear ho0
           have n2_ := Aa.k (HM2.o.below hb)
           have n3_ := Aa.k (Ad HBX.o hb)
           clear HM2 HBX hb
           have HM2 := n2_
           have HBX := n3_
           clear n2_ n3_
           refine hK.out _ _ (by (exact (Aw HM2.o.he 0).trans rfl)) (fun hHeld => ?_)
           clear hK K
           refine Es (a' := ?_) ?_ ?_
           rotate_left
           ·show Act.put _ (some 60) _ = _
            simp only [Act.put, sT_, sZ_, sS_, Ah, Ai]
            rfl
           refine one_ (i := 2) (N := some 58) #[Y_,Y_,Y_,Y_,Y_,N_,Y_,Y_,Y_,Y_,Y_,Y_,N_] rfl rfl (Ej HT_.o (by kernel_rfl)) (by decide) (fun K hK => ?_)
           refine goes_ Try.func119 (by kernel_rfl) rfl #[.slice A t.length c] (by rfl) rfl rfl (by (try simp only [mT_, mC_, mN_]); rfl) ?_
           refine (Dj.calls _ _ t t _ ?side1 (Kd.Bb HR.o).2.1 HCL.o).mono ?_
           (case side1 => exact Kd.Dx (Kd.Bb HR.o).2.2 HBX.o)
           rintro e w22 ⟨v58, rfl, ho0, hb⟩
           refine ⟨_, rfl, ?_⟩
           have n0_ := Aa.k (Kd.Cw HO60.o (Kd.Cy ho0) hb)
           have HO58 := Aa.k (Kd.Ct (Kd.Dz ho0 (Kd.R_lt HO60.o)) (Af HBX.o))
           clear HO60 ho0
           have HO60 := n0_
           clear n0_
           have n2_ := Aa.k (HM2.o.below hb)
           have n3_ := Aa.k (Ad HBX.o hb)
           clear HM2 HBX hb
           have HM2 := n2_
           have HBX := n3_
           clear n2_ n3_
           refine hK.out _ _ (by (exact (Aw HM2.o.he 0).trans rfl)) (fun hHeld => ?_)
           clear hK K
           refine Es (a' := ?_) ?_ ?_
           rotate_left
           ·show Act.put _ (some 58) _ = _
            simp only [Act.put, sT_, sZ_, sS_, Ah, Ai]
            rfl
           exact Es (by simp only [putAll, Act.put, sT_, sZ_, sS_]) (hCont (v58, v60) _ ⟨hHeld, Kd.Bv HO58.o (fun _ hk => hk.2), Kd.Bv HO60.o (fun _ hk => hk.2), HM2.o, HBX.o⟩)
         rintro ⟨v58, v60⟩ w25 ⟨hS_, h0_, h1_, h2_, h3_⟩
         clear HM2 HBX
         have HO58 : Aa (Kd.R (Kd.int .i64) 3 w25 w41.heap.size (fun k_ => some k_ ≠ (v60 : Value).ownBlock) v58 t) := ⟨h0_⟩
         have HO60 : Aa (Kd.R (Kd.int .i64) 3 w25 w41.heap.size (fun k_ => some k_ ≠ (v58 : Value).ownBlock) v60 [p]) := ⟨h1_⟩
         have HM2 : Aa (Ag.M n g a b0 bo ba be w0 u28 zs w25) := ⟨h2_⟩
         have HBX : Aa (Below w41.heap.size w41 w25) := ⟨h3_⟩
         clear h0_ h1_ h2_ h3_
         have hHeld := hS_
         clear hS_
         obtain ⟨Ao27, co27, eo27⟩ := Kd.Cx HO60.o
         subst eo27
         refine Es (a' := ?_) ?_ ?_
         rotate_left
         ·simp only [putAll, Act.put, sT_, sZ_, sS_]
          rfl
         refine one_ (i := 5) (N := some 61) #[Y_,Y_,Y_,Y_,Y_,Y_,Y_,Y_,Y_,Y_,Y_,Y_,N_] rfl rfl (Ej HT_.o (by kernel_rfl)) (by decide) (fun K hK => ?_)
         refine Kd.R_append_rows_step (Kd.int .i64) (w0 := w41) w41.heap.size (by rfl) (.tmp 58) (.tmp 60) 30 3 (.int .i64 0) 8 rfl Try.underlying30 Dj.info rfl (by decide) (by omega) v58 t [p] _ _ _ (fun k_ => some k_ ≠ (.slice Ao27 [p].length co27 : Value).ownBlock) (fun _ => False) rfl rfl ?aO ?aR (fun _ _ h => h) (fun _ h => h.elim) ?aF ?aB ?aS ?aL ?_
         (case aR => exact (Kd.Bb HO60.o).2.2)
         (case aB => exact HBX.o)
         (case aF => exact (fun k_ hk => Kd.fresh' (Kd.R_lt HO60.o) k_ hk))
         (case aO => exact HO58.o)
         (case aS => exact Af HBX.o)
         (case aL => have := LM.o; simp only [List.length_cons, List.length_nil]; omega)
         intro v61 w26 ho hb hg hat
         have n0_ := Aa.k (HM.o.below hb)
         clear HM2 HBX HO58 HO60 hg hat
         have HM2 := n0_
         have HBX := Aa.k hb
         have HO61 := Aa.k ho
         clear n0_ hb ho
         obtain ⟨Ao28, co28, eo28⟩ := Kd.Cx HO61.o
         subst eo28
         refine hK.out _ _ (by (exact (Aw HM2.o.he 0).trans rfl)) (fun hHeld => ?_)
         clear hK K
         refine Es (a' := ?_) ?_ ?_
         rotate_left
         ·show Act.put _ (some 61) _ = _
          simp only [Act.put, sT_, sZ_, sS_, Ah, Ai]
          rfl
         refine one_ (i := 12) (N := some 68) #[Y_,Y_,Y_,Y_,Y_,Y_,Y_,Y_,Y_,Y_,Y_,Y_,Y_] rfl rfl (Ej HT_.o (by kernel_rfl)) (by decide) (fun K hK => ?_)
         refine Ag.calls_func Try.func117 (by kernel_rfl) rfl #[.slice Ao28 (t ++ [p]).length co28, .int .i64 (if p < lo then p else lo), .int .i64 (if hi < p then p else hi), .pointer (some ⟨b0, 0, none⟩), .pointer (some ⟨bo, 0, none⟩), .pointer (some ⟨ba, 0, none⟩), .pointer (some ⟨be, 0, none⟩)] (by rfl) rfl rfl (by (rfl)) (by (go_simp; done)) ?_
         refine (HIH.o k1 (by have := HK1.o; omega) n g a b0 bo ba be _ _ (t ++ [p]) _ _ u28 zs q w0 _ HM2.o ?s1 HNN.o A18.o).mono ?_
         (case s1 => exact Kd.R_tight rfl (Kd.Ct HO61.o (Af HM.o.below0)))
         rintro e w29 ⟨rfl, u2, hm, hk, hat⟩
         refine ⟨_, rfl, ?_⟩
         have HMN := Aa.k hm
         have HRN := Aa.k (Kd.R_kept (Kd.Ba HR.o HBX.o) hk (fun k_ e_ h_ => by rcases h_ with h_ | h_; exact HM.o.away HR.o k_ e_ (.inl h_); exact HM.o.away HR.o k_ e_ (.inr h_)))
         have HKN := Aa.k ((Kept.below HKP.o (Ad HB.o HBX.o)).then_ hk (fun k_ h_ => by rcases h_ with h_ | h_; exact .inl (.inl h_); exact HAT.o.next k_ h_))
         have HAN := Aa.k (Ag.At.trans HAT.o hat (Nat.le_trans HKP.o.1 (Nat.le_trans HB.o.size HBX.o.size)))
         clear HM2 HBX hm hk hat
         have HM2 := HMN
         refine hK.out _ _ (by (exact (Aw HM2.o.he 0).trans rfl)) (fun hHeld => ?_)
         clear hK K
         refine Es (a' := ?_) ?_ ?_
         rotate_left
         ·show Act.put _ (some 68) _ = _
          simp only [Act.put, sT_, sZ_, sS_, Ah, Ai]
          rfl
         refine done_ (Fa HT_.o (by kernel_rfl)) ?_
         clear A18
         generalize (if p < lo then p else lo) = lo2
         generalize (if hi < p then p else hi) = hi2
         try go_wp2
         go_roundg k1
         case measure => have := HK1.o; omega
         case rel => exact ⟨p + 1, u2, q, by (rfl), H', ⟨by have := HK1.o; omega⟩, ⟨by have := HP0.o; omega⟩, HMN, HRN, HKN, HAN⟩
    ·rw [if_neg c13] at H
     have c13b : decide (p < n) = false := decide_eq_false c13
     clear c13
     obtain rfl := Option.some.inj H
     go_wp2
     (go_end0)
     exact ⟨rfl, _, HM.o, HKP.o, HAT.o⟩

end Go.Proofs.Ytogflbocmiogpaa.PFnBestSearch
