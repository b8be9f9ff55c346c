-- Written for this claim by this session's turned copy of the printer.
import Derived.Test.YtogflbocmiogpaaPFnLoadsx0
import Derived.Test.YtogflbocmiogpaaPFnLoadsx15
namespace Go.Proofs.Ytogflbocmiogpaa.PFnLoads
open Go.RowKit Go.Proofs.YtogflbocmiogpaaW.PrintWords Go.Proofs.YtogflbocmiogpaaW.PrintLast Go.Proofs.YtogflbocmiogpaaW.PrintMore
open Bool renaming true → Y_, false → N_
attribute [local go_sem] max2_int min2_int max_two min_two max_three min_three max_four min_four   -- for this text's walks alone
set_option linter.unusedVariables false
set_option linter.unusedSimpArgs false

/-! ### impl_Road_searches_1: function 117 -/
theorem impl_Road_searches.info : (Try.prog.info? 30).map (fun i => (i.zero, i.size, i.bytes)) = some (some (.slice none 0 0), 1, 24) := by kernel_rfl
mutual
def impl_Road_searches.l0 : Nat → Int → Int → List Int → Int → Int → Int → List (List Int) → Option (List (List Int))
 | 0, _, _, _, _, _, _, _ => none
 | k + 1, n, a, t, lo, hi, p, zs => if p < n then (if lo ≤ p ∧ p ≤ hi then impl_Road_searches.l0 k n a t lo hi (p + 1) zs else (if 0 < t.length ∧ (p < a ↔ rd t ((t.length - 1 : Nat) : Int) < a) then impl_Road_searches.l0 k n a t lo hi (p + 1) zs else ((impl_Road_searches.e k n a (t ++ [p]) (if p < lo then p else lo) (if hi < p then p else hi) zs).bind fun q => impl_Road_searches.l0 k n a t lo hi (p + 1) q))) else some zs
def impl_Road_searches.e : Nat → Int → Int → List Int → Int → Int → List (List Int) → Option (List (List Int))
 | 0, _, _, _, _, _, _ => none
 | k + 1, n, a, t, lo, hi, zs => if t.length < 1000000 then (if lo = 0 ∧ hi = n - 1 then (if zs.length < 1048576 then some (zs ++ [t]) else none) else impl_Road_searches.l0 k n a t lo hi 0 zs) else none
end
def impl_Road_searches.T1 : Bool × List (List Nat × List Nat) := (true, [([], []), ([], []), ([1], [1]), ([2], [2]), ([0, 3, 2], [0, 3]), ([4, 4, 0, 1, 2, 3, 4], [4])])
def impl_Road_searches.B1 : List Nat := [0, 0, 2, 6, 15, 31]
theorem impl_Road_searches.tab1 : rtab .any (opsOf Try.f117 1) = impl_Road_searches.T1 := by kernel_rfl
theorem impl_Road_searches.bits1 : waitsOk impl_Road_searches.T1.2 impl_Road_searches.B1 = true := by kernel_rfl
def impl_Road_searches.T7 : Bool × List (List Nat × List Nat) := (true, [([], []), ([0], [0]), ([1], [1]), ([2], [2]), ([2], [2]), ([3, 4, 2], [2, 3, 4]), ([2], [2]), ([2], [2]), ([7, 2], [2, 7]), ([6, 8, 2], [2, 6, 8]), ([9, 2], [2, 9]), ([2], [2]), ([10, 11, 2], [2, 10, 11]), ([5, 12, 2], [2, 5, 12]), ([2, 13], [2, 13])])
def impl_Road_searches.B7 : List Nat := [0, 1, 3, 7, 7, 31, 7, 7, 135, 455, 967, 7, 4039, 8191, 16383]
theorem impl_Road_searches.tab7 : rtab .any (opsOf Try.f117 7) = impl_Road_searches.T7 := by kernel_rfl
theorem impl_Road_searches.bits7 : waitsOk impl_Road_searches.T7.2 impl_Road_searches.B7 = true := by kernel_rfl
def impl_Road_searches.T8 : Bool × List (List Nat × List Nat) := (true, [([], []), ([], []), ([1], [1]), ([], []), ([3], [3]), ([2, 4, 2], [2, 4]), ([], []), ([], []), ([6, 7], [6, 7]), ([], []), ([], []), ([9, 10], [9, 10]), ([0, 5, 8, 11, 5], [0, 5, 8, 11])])
def impl_Road_searches.B8 : List Nat := [0, 0, 2, 0, 8, 30, 0, 0, 192, 0, 0, 1536, 4095]
theorem impl_Road_searches.tab8 : rtab .any (opsOf Try.f117 8) = impl_Road_searches.T8 := by kernel_rfl
theorem impl_Road_searches.bits8 : waitsOk impl_Road_searches.T8.2 impl_Road_searches.B8 = true := by kernel_rfl
theorem impl_Road_searches.calls_func {P : Program} {ops : Array Oper} {Q : Exit → Act → World → Prop} {oi : Oper} {N : Option Tmp} {a : Act} {w : World} {K : Act → World → Prop} {f : FuncId} {fn : Func} {t : Tmp} {as_ : Array Operand} {ts : Array TypeId} {bs : Array Value} (hf : P.funcs[f]? = some fn) (hname : (fn.name == "runtime.NumGoroutine") = false) (hb : fn.body.isSome = true) (args : Array Value)
  (hw : Region.wanted oi (yielded ops a.tmps) = true) (hN : oi.dst = N) (hop : oi.op = .call { callee := .value (.tmp t), args := as_, argTypes := ts }) (hcal : a.eval (.tmp t) = .func (.func f) #[] bs) (hargs : as_.map a.eval ++ bs = args)
  (h : Calls P f args w fun e w' => ∃ v, e = .returned v ∧ K (a.put N v) w') : if Region.wanted oi (yielded ops a.tmps) = true then Oper.wp P oi a w K Q else K (a.put N undef) w := by
 refine call_ f args hw hN ?_ h
 have he := enters_ hf hname hb args w
 unfold execOp
 simp [hop, resolve, Deferred.ofValue, invoke, hcal, hargs, he]
/-- The state between the calls: the boxes of r, out, a, extend, and the row in out. -/
structure impl_Road_searches.M (n : Int) (g : Bool) (a : Int) (b0 bo ba be : Nat) (w0 : World) (v : Value) (xs : List (List Int)) (W : World) : Prop where
 h0 : W.heap[b0]? = some (.cells #[.int .i64 n, .bool g] 25 (0, 0))
 ho : W.heap[bo]? = some (.cells #[v] 48 (0, 0))
 ha : W.heap[ba]? = some (.cells #[.int .i64 a] 3 (0, 0))
 he : W.heap[be]? = some (.cells #[.func (.func 117) #[] #[.pointer (some ⟨b0, 0, none⟩), .pointer (some ⟨bo, 0, none⟩), .pointer (some ⟨ba, 0, none⟩), .pointer (some ⟨be, 0, none⟩)]] 109 (0, 0))
 row : Kd.S (Kd.slice 3 (Kd.int .i64)) 30 W w0.heap.size (fun k_ => k_ ≠ ba) v xs
 below0 : Below w0.heap.size w0 W
 base : w0.heap.size ≤ bo
section
variable {n a : Int} {g : Bool} {b0 bo ba be : Nat} {w0 W W' : World} {v v1 : Value} {xs ys : List (List Int)}
theorem impl_Road_searches.M.below (h : impl_Road_searches.M n g a b0 bo ba be w0 v xs W) (hb : Below W.heap.size W W') : impl_Road_searches.M n g a b0 bo ba be w0 v xs W' :=
 ⟨blk_below h.h0 hb, blk_below h.ho hb, blk_below h.ha hb, blk_below h.he hb, Kd.S_below h.row hb, below_step h.below0 hb, h.base⟩
theorem impl_Road_searches.M.put (h : impl_Road_searches.M n g a b0 bo ba be w0 v xs W) (hs : Kd.S (Kd.slice 3 (Kd.int .i64)) 30 W' w0.heap.size (fun k_ => k_ ≠ ba) v1 ys) (hb : Below w0.heap.size w0 W') (hg : W.grownBy W' v.ownBlock) : impl_Road_searches.M n g a b0 bo ba be w0 v1 ys (W'.setCell ⟨bo, 0, none⟩ v1) := by
 have q0 := blk_grown h.h0 hg (Kd.S_ne h.row h.h0 (by decide))
 have qo := blk_grown h.ho hg (Kd.S_ne h.row h.ho (by decide))
 have qa := blk_grown h.ha hg (Kd.S_ne h.row h.ha (by decide))
 have qe := blk_grown h.he hg (Kd.S_ne h.row h.he (by decide))
 exact ⟨blk_far q0 (p := ⟨bo, 0, none⟩) (blk_ne q0 qo (by decide)) v1, (blk_set qo 0 v1).trans rfl, blk_far qa (p := ⟨bo, 0, none⟩) (blk_ne qa qo (by decide)) v1, blk_far qe (p := ⟨bo, 0, none⟩) (blk_ne qe qo (by decide)) v1, Kd.S_set hs qo (by decide) 0 v1, below_set hb h.base, h.base⟩
theorem impl_Road_searches.M.away (h : impl_Road_searches.M n g a b0 bo ba be w0 v xs W) {A : Option Addr} {c nn base : Nat} {ok : Nat → Prop} {t : List Int} (hr : Kd.R (Kd.int .i64) 3 W base ok (.slice A nn c) t) (k : Nat) (e : some k = (.slice A nn c : Value).ownBlock) : ¬ (k = bo ∨ some k = v.ownBlock) := by
 obtain ⟨cells, hc⟩ := Kd.R_typed hr k e.symm
 rintro (rfl | h2)
 ·rw [h.ho] at hc
  injection hc with hc
  injection hc with _ hc
  exact absurd hc (by decide)
 ·obtain ⟨cells2, hc2⟩ := Kd.S_typed h.row k h2.symm
  rw [hc2] at hc
  injection hc with hc
  injection hc with _ hc
  exact absurd hc (by decide)
def impl_Road_searches.At (v u : Value) (N : Nat) : Prop := u.ownBlock = v.ownBlock ∨ ∃ b, u.ownBlock = some b ∧ N ≤ b
theorem impl_Road_searches.At.next {v u : Value} {N : Nat} (h : impl_Road_searches.At v u N) (k : Nat) (e : some k = u.ownBlock) : (k = bo ∨ some k = v.ownBlock) ∨ N ≤ k := by
 rcases h with h | ⟨b, h, hl⟩
 ·exact .inl (.inr (e.trans h))
 have := e.trans h
 injection this with this
 exact .inr (by omega)
theorem impl_Road_searches.At.trans {v u u2 : Value} {N N2 : Nat} (h : impl_Road_searches.At v u N) (h2 : impl_Road_searches.At u u2 N2) (hl : N ≤ N2) : impl_Road_searches.At v u2 N := by
 rcases h2 with h2 | ⟨b, h2, hb⟩
 rotate_left
 ·exact .inr ⟨b, h2, by omega⟩
 rcases h with h | ⟨b, h, hb⟩
 ·exact .inl (h2.trans h)
 exact .inr ⟨b, h2.trans h, hb⟩
end
set_option maxHeartbeats 8000000 in
set_option maxRecDepth 100000 in
theorem impl_Road_searches.fn (k : Nat) : ∀ (n : Int) (g : Bool) (a : Int) (b0 bo ba be : Nat) (A : Option Addr) (c : Nat) (t : List Int) (lo hi : Int) (v : Value) (xs ys : List (List Int)) (w0 W : World) (hM : impl_Road_searches.M n g a b0 bo ba be w0 v xs W) (hr : Kd.R (Kd.int .i64) 3 W w0.heap.size (fun k_ => some k_ = (.slice A t.length c : Value).ownBlock) (.slice A t.length c) t) (hn : 1 ≤ n ∧ n ≤ 24) (h : impl_Road_searches.e k n a t lo hi xs = some ys),
  Calls Try.prog 117 #[.slice A t.length c, .int .i64 lo, .int .i64 hi, .pointer (some ⟨b0, 0, none⟩), .pointer (some ⟨bo, 0, none⟩), .pointer (some ⟨ba, 0, none⟩), .pointer (some ⟨be, 0, none⟩)] W fun e W' => e = .returned (.tuple #[]) ∧ ∃ v', impl_Road_searches.M n g a b0 bo ba be w0 v' ys W' ∧ Kept W W' (fun k_ => k_ = bo ∨ some k_ = v.ownBlock) ∧ impl_Road_searches.At v v' W.heap.size := by
 induction k using Nat.strongRecOn with
 | _ k ih =>
 intro n g a b0 bo ba be A c t lo hi v xs ys w0 W hM hr hn h
 cases k with
 | zero => exact absurd h (by simp [impl_Road_searches.e])
 | succ k =>
 simp only [impl_Road_searches.e] at h
 by_cases cl : t.length < 1000000
 rotate_left
 ·rw [if_neg cl] at h; cases h
 rw [if_pos cl] at h
 have LM := Aside0.mk cl
 have HM := Aside0.mk hM
 have HR := Aside0.mk hr
 have HNN := Aside0.mk hn
 have HIH := Aside0.mk ih
 have HB := Aside0.mk (Below.refl W.heap.size W)
 have hw : IntKind.i64.wrap (n - 1) = n - 1 := (i64_w _).trans (by unfold wrap64; omega)
 have hcz0 : W.cell? ⟨b0, 0, none⟩ = some (.int .i64 n) := (blk_cell hM.h0 0).trans rfl
 clear hM hr hn ih cl
 by_cases c0 : lo = 0 ∧ hi = n - 1
 ·rw [if_pos c0] at h
  by_cases cz : xs.length < 1048576
  rotate_left
  ·rw [if_neg cz] at h; cases h
  rw [if_pos cz] at h
  obtain rfl := Option.some.inj h
  have LMX := Aside0.mk cz
  have HCP := Aside0.mk (show impl_copied.f t = some t by have := LM.out; unfold impl_copied.f; simp; omega)
  obtain ⟨rfl, rfl⟩ := c0
  clear h cz
  go_enter Try.func117, Try.ntmps117
  go_wp2
  have n0_ := Aside0.mk (HM.out.below (below_drew1 (Below.refl _ _)))
  have n1_ := Aside0.mk (Kd.R_below HR.out (below_drew1 (Below.refl _ _)))
  have n2_ := Aside0.mk (below_drew1 HB.out)
  clear HM HR HB hcz0
  have HM := n0_
  have HR := n1_
  have HB := n2_
  clear n0_ n1_ n2_
  refine start_ (n := 6) (S := fun w' => w'.cell? ⟨bo, 0, none⟩ = some v) (ds := [5]) #[N_,N_,N_,N_,N_,N_] (by kernel_rfl) rfl rfl ((blk_cell HM.out.ho 0).trans rfl) (fun hHeld => ?_); refine with_tabW impl_Road_searches.tab1 impl_Road_searches.bits1 (fun HT_ HW_ => ?_)
  generalize W.drew = w21 at HM HR HB hHeld ⊢
  refine pure_ (i := 1) (N := some 22) (v := ?_) (a' := ?_) #[N_,Y_,N_,N_,N_,N_] rfl rfl (any_of HT_.out (by kernel_rfl)) (fun _ _ _ h => h) (Or.inl ⟨by rfl, ?_⟩) ?_ ?_
  rotate_left
  ·intro w'
   go_simp
   rfl
  rotate_left
  ·simp only [Act.put, List.setIfInBounds_toArray, List.set_cons_zero, List.set_cons_succ, i64_w, i32_w]
   rfl
  refine take_ (i := 0) (N := some 21) (v := ?_) (a' := ?_) #[Y_,Y_,N_,N_,N_,N_] rfl rfl (take_ofW HT_.out HW_.out (by kernel_rfl)) (fun _ _ _ h => h) (Or.inl ⟨by rfl, ?_⟩) hHeld ?_ ?_
  rotate_left
  ·rintro w' s0
   go_simp
   rfl
  rotate_left
  ·simp only [Act.put, List.setIfInBounds_toArray, List.set_cons_zero, List.set_cons_succ, i64_w, i32_w]
   rfl
  refine one_ (i := 2) (N := some 23) #[Y_,Y_,Y_,N_,N_,N_] rfl rfl (one_of HT_.out (by kernel_rfl)) (by decide) (fun K hK => ?_)
  refine goes_ Try.func118 (by kernel_rfl) rfl #[.slice A t.length c] (by rfl) rfl rfl (by (try simp only [List.map_toArray, List.map_cons, List.map_nil]); (rfl)) ?_
  refine (impl_copied.calls _ _ t t _ (Kd.R_reads' HR.out).2.2 (Kd.R_reads' HR.out).2.1 HCP.out).mono ?_
  rintro e w22 ⟨v23, rfl, ho0, hb⟩
  obtain ⟨A23, c23, e23⟩ := Kd.R_slice ho0
  subst e23
  refine ⟨_, rfl, ?_⟩
  have HO23 := Aside0.mk ho0
  have HB2 := Aside0.mk hb
  have HM1 := HM
  have n0_ := Aside0.mk (HM.out.below hb)
  have n1_ := Aside0.mk (below_step HB.out hb)
  clear HM HB ho0 hb
  have HM := n0_
  have HB := n1_
  clear n0_ n1_
  refine hK.out _ _ (by (exact (blk_cell HM.out.ho 0).trans rfl)) (fun hHeld => ?_)
  clear hK K
  refine norm_ (a' := ?_) ?_ ?_
  rotate_left
  ·show Act.put _ (some 23) _ = _
   simp only [Act.put, List.setIfInBounds_toArray, List.set_cons_zero, List.set_cons_succ, i64_w, i32_w]
   rfl
  refine one_ (i := 3) (N := some 24) #[Y_,Y_,Y_,Y_,N_,N_] rfl rfl (one_of HT_.out (by kernel_rfl)) (by decide) (fun K hK => ?_)
  refine value_ (v := .slice (some ⟨w22.heap.size, 0, none⟩) 1 1) (w1 := w22.alloc (.cells #[.slice A23 t.length c23] 30)) (by rfl) rfl ?hr ?_
  (case hr => (go_simp; done))
  refine hK.out _ _ (by (exact (blk_cell (blk_alloc HM.out.ho _) 0).trans rfl)) (fun hHeld => ?_)
  clear hK K
  refine norm_ (a' := ?_) ?_ ?_
  rotate_left
  ·show Act.put _ (some 24) _ = _
   simp only [Act.put, List.setIfInBounds_toArray, List.set_cons_zero, List.set_cons_succ, i64_w, i32_w]
   rfl
  refine one_ (i := 4) (N := some 25) #[Y_,Y_,Y_,Y_,Y_,N_] rfl rfl (one_of HT_.out (by kernel_rfl)) (by decide) (fun K hK => ?_)
  refine Kd.S_append_step (Kd.slice 3 (Kd.int .i64)) (w0 := w0) w0.heap.size (by rfl) (.tmp 21) (.tmp 24) 48 30 (.slice none 0 0) 24 rfl Try.underlying48 impl_Road_searches.info rfl Nat.one_pos (by omega) v xs t [.slice A23 t.length c23] (fun k_ => k_ ≠ ba) (fun k_ => w21.heap.size ≤ k_) rfl rfl ?aP ?aK ?aF ?aO ?aB ?aS ?aL ?_
  (case aP => exact ⟨_, rfl, Kd.R_lower (Kd.R_mono (Kd.R_bound HO23.out) (fun _ h_ => h_.2.1)) (below_size HM1.out.below0)⟩)
  (case aK => exact fun k_ h_ => ⟨fun e_ => by have := blk_lt HM1.out.ha; omega, fun e_ => by have := Kd.S_lt HM1.out.row k_ e_.symm; omega⟩)
  (case aF => exact fun k_ h_ e_ => by have := blk_lt HM.out.ha; omega)
  (case aO => exact Kd.S_mono (Kd.S_old HM1.out.row HB2.out) (fun k_ h_ => ⟨h_.1, by have := h_.2; omega⟩))
  (case aB => exact HM.out.below0)
  (case aS => exact below_size HM.out.below0)
  (case aL => have := LMX.out; omega)
  intro v1 w1 hs hb hg hat
  obtain ⟨A1, c1, e1⟩ := Kd.S_slice hs
  subst e1
  have HO1 := Aside0.mk (blk_grown HM.out.ho hg (Kd.S_ne HM.out.row HM.out.ho (by decide)))
  have HPUT := Aside0.mk (HM.out.put hs hb hg)
  have HHAT := Aside0.mk (show ((.slice A1 (xs ++ [t]).length c1 : Value).ownBlock = v.ownBlock ∨ ∃ b, (.slice A1 (xs ++ [t]).length c1 : Value).ownBlock = some b ∧ W.heap.size ≤ b) from hat.imp_right (fun ⟨b, h1, h2⟩ => ⟨b, h1, Nat.le_trans HB.out.size h2⟩))
  have HKK := Aside0.mk ((Kept.of_grown hg (Kept.of_below HB.out (fun k_ => k_ = bo ∨ some k_ = v.ownBlock)) (fun k_ e_ => .inl (.inr e_.symm))).setCell (p := ⟨bo, 0, none⟩) (.inl (.inl rfl)) (.slice A1 (xs ++ [t]).length c1))
  clear hs hb hg hat
  refine hK.out _ _ (by (exact (blk_cell HO1.out 0).trans rfl)) (fun hHeld => ?_)
  clear hK K
  refine norm_ (a' := ?_) ?_ ?_
  rotate_left
  ·show Act.put _ (some 25) _ = _
   simp only [Act.put, List.setIfInBounds_toArray, List.set_cons_zero, List.set_cons_succ, i64_w, i32_w]
   rfl
  refine last_ (i := 5) (N := none) #[Y_,Y_,Y_,Y_,Y_,Y_] rfl rfl (one_of HT_.out (by kernel_rfl)) (by decide) (fun K hK => ?_)
  have hc_ : w1.cell? ⟨bo, 0, none⟩ = some v := (blk_cell HO1.out 0).trans rfl
  have hf_ : w1.frozen? ⟨bo, 0, none⟩ = false := blk_frozen HO1.out 0
  refine skip_ (w1 := w1.setCell ⟨bo, 0, none⟩ (.slice A1 (xs ++ [t]).length c1)) (by rfl) rfl ?hr ?_
  (case hr => (go_simp; done))
  refine hK.out _ _ ?_
  clear hK K
  refine done_ (done_of HT_.out (by kernel_rfl)) ?_
  try go_wp2
  ((try simp only [Exit.inBlock, Exit.then]); refine bodyPost_ret (results_none rfl _ _ _) rfl ?_)
  exact ⟨rfl, _, HPUT.out, HKK.out, HHAT.out⟩
 rw [if_neg c0] at h
 have H' := Aside0.mk h
 clear h
 have hfacts : ((lo == 0) = true ∧ (hi == n - 1) = false) ∨ (lo == 0) = false := by
  by_cases q : lo = 0
  rotate_left
  ·exact .inr (beq_eq_false_iff_ne.mpr q)
  exact .inl ⟨beq_iff_eq.mpr q, beq_eq_false_iff_ne.mpr (fun e => c0 ⟨q, e⟩)⟩
 clear c0
 have HKP := Aside0.mk (Kept.refl W (fun k_ => k_ = bo ∨ some k_ = v.ownBlock))
 have HAT := Aside0.mk (show impl_Road_searches.At v v W.heap.size from .inl rfl)
 rcases hfacts with ⟨f0, f1⟩ | f0
 all_goals
  go_enter Try.func117, Try.ntmps117
  go_wp2
  go_loopg [28] k (fun kq v28 w' => ∃ (p : Int) (u : Value) (zs : List (List Int)), v28 = .int .i64 p ∧ Aside0 (impl_Road_searches.l0 kq n a t lo hi p zs = some ys) ∧ Aside0 (kq ≤ k) ∧ Aside0 (0 ≤ p) ∧ Aside0 (impl_Road_searches.M n g a b0 bo ba be w0 u zs w') ∧ Aside0 (Kd.R (Kd.int .i64) 3 w' w0.heap.size (fun k_ => some k_ = (.slice A t.length c : Value).ownBlock) (.slice A t.length c) t) ∧ Aside0 (Kept W w' (fun k_ => k_ = bo ∨ some k_ = v.ownBlock)) ∧ Aside0 (impl_Road_searches.At v u W.heap.size))
  case atStart => exact ⟨0, v, xs, rfl, H', ⟨Nat.le_refl _⟩, ⟨by omega⟩, HM, HR, HKP, HAT⟩
  case round =>
   clear H' HM HR HKP HAT HB f0
   (try clear f1); (try clear hcz0)
   obtain ⟨p, u28, zs, rfl, HA, HK1, HP0, HM, HR, HKP, HAT⟩ := hrel
   cases gk with
   | zero => exact absurd HA.out (by simp [impl_Road_searches.l0])
   | succ k1 =>
    have H := HA.out
    clear HA
    simp only [impl_Road_searches.l0] at H
    have HB := Aside0.mk (Below.refl wr.heap.size wr)
    by_cases c13 : p < n
    ·rw [if_pos c13] at H
     have c13b : decide (p < n) = true := decide_eq_true c13
     have hp1 : IntKind.i64.wrap (p + 1) = p + 1 := (i64_w _).trans (by have := HP0.out; have := HNN.out; unfold wrap64; omega)
     clear c13
     by_cases c1 : lo ≤ p ∧ p ≤ hi
     ·rw [if_pos c1] at H
      have H' := Aside0.mk H
      clear H
      have g1 : decide (lo ≤ p) = true := decide_eq_true c1.1
      have g2 : decide (p ≤ hi) = true := decide_eq_true c1.2
      clear c1
      go_wp2
      go_roundg k1
      case measure => have := HK1.out; omega
      case rel => exact ⟨p + 1, u28, zs, by (rfl), H', ⟨by have := HK1.out; omega⟩, ⟨by have := HP0.out; omega⟩, HM, HR, HKP, HAT⟩
     ·rw [if_neg c1] at H
      have hf : decide (lo ≤ p) = false ∨ (decide (lo ≤ p) = true ∧ decide (p ≤ hi) = false) := by
       by_cases q : lo ≤ p
       ·exact .inr ⟨decide_eq_true q, decide_eq_false (fun q2 => c1 ⟨q, q2⟩)⟩
       ·exact .inl (decide_eq_false q)
      clear c1
      have hd : (∃ (m : Nat) (ad : Addr) (x : Int), rd t ((t.length - 1 : Nat) : Int) = x ∧ t.length = m + 1 ∧ A = some ad ∧ wr.cell? (ad.add m) = some (.int .i64 x)) ∨ t.length = 0 := by
       rcases Nat.eq_zero_or_pos t.length with h0 | h0
       ·exact .inr h0
       ·obtain ⟨ad, e, hx⟩ := Kd.at_int (Kd.R_reads' HR.out).2.2 ((t.length - 1 : Nat) : Int) (by omega) (by omega)
        rw [Int.toNat_natCast] at hx
        exact .inl ⟨t.length - 1, ad, _, rfl, by omega, e, hx⟩
      by_cases c2 : 0 < t.length ∧ (p < a ↔ rd t ((t.length - 1 : Nat) : Int) < a)
      ·rw [if_pos c2] at H
       have H' := Aside0.mk H
       clear H
       obtain ⟨m, ad, x, hrx, hm, hA, hx⟩ | h0 := hd
       rotate_left
       ·exact absurd c2.1 (by omega)
       rw [hrx] at c2
       have hab : (decide (p < a) = true ∧ decide (x < a) = true) ∨ (decide (p < a) = false ∧ decide (x < a) = false) := by
        by_cases q : p < a
        ·exact .inl ⟨decide_eq_true q, decide_eq_true (c2.2.1 q)⟩
        ·exact .inr ⟨decide_eq_false q, decide_eq_false (fun q2 => q (c2.2.2 q2))⟩
       have g3 : decide (0 < (t.length : Int)) = true := decide_eq_true (by omega)
       have g3n : decide (0 < t.length) = true := decide_eq_true c2.1
       have hw2 : IntKind.i64.wrap ((t.length : Int) - 1) = (m : Int) := (i64_w _).trans (by have := LM.out; unfold wrap64; omega)
       have i0 : (0 : Int) ≤ (m : Int) := by omega
       have i1 : (m : Int) < (t.length : Int) := by omega
       have i1n : m < t.length := by omega
       have HAE := Aside0.mk hA
       clear hA hrx c2 hm
       rcases hf with g1 | ⟨g1, g2⟩
       all_goals
        rcases hab with ⟨g4, g5⟩ | ⟨g4, g5⟩
        all_goals
         go_wp2
         have hA := HAE.out
         have n0_ := Aside0.mk (HM.out.below (below_drew1 (Below.refl _ _)))
         have n1_ := Aside0.mk (Kd.R_below HR.out (below_drew1 (Below.refl _ _)))
         have n2_ := Aside0.mk (below_drew1 HB.out)
         clear HM HR HB
         have HM := n0_
         have HR := n1_
         have HB := n2_
         clear n0_ n1_ n2_
         refine start_ (n := 15) (S := fun w' => w'.cell? ⟨ba, 0, none⟩ = some (.int .i64 a) ∧ w'.cell? (ad.add m) = some (.int .i64 x)) (ds := []) #[N_,N_,N_,N_,N_,N_,N_,N_,N_,N_,N_,N_,N_,N_,N_] (by kernel_rfl) rfl rfl ⟨(blk_cell HM.out.ha 0).trans rfl, hx⟩ (fun hHeld => ?_); refine with_tabW impl_Road_searches.tab7 impl_Road_searches.bits7 (fun HT_ HW_ => ?_)
         generalize wr.drew = w31 at HM HR HB hHeld ⊢
         refine pure_ (i := 0) (N := some 41) (v := ?_) (a' := ?_) #[Y_,N_,N_,N_,N_,N_,N_,N_,N_,N_,N_,N_,N_,N_,N_] rfl rfl (any_of HT_.out (by kernel_rfl)) (fun _ _ _ h => h) (Or.inl ⟨by rfl, ?_⟩) ?_ ?_
         rotate_left
         ·intro w'
          go_simp
          rfl
         rotate_left
         ·simp only [Act.put, List.setIfInBounds_toArray, List.set_cons_zero, List.set_cons_succ, i64_w, i32_w]
          rfl
         refine pure_ (i := 1) (N := some 42) (v := ?_) (a' := ?_) #[Y_,Y_,N_,N_,N_,N_,N_,N_,N_,N_,N_,N_,N_,N_,N_] rfl rfl (any_of HT_.out (by kernel_rfl)) (fun _ _ _ h => h) (Or.inl ⟨by rfl, ?_⟩) ?_ ?_
         rotate_left
         ·intro w'
          go_simp
          rfl
         rotate_left
         ·simp only [Act.put, List.setIfInBounds_toArray, List.set_cons_zero, List.set_cons_succ, i64_w, i32_w]
          rfl
         refine pure_ (i := 2) (N := some 43) (v := ?_) (a' := ?_) #[Y_,Y_,Y_,N_,N_,N_,N_,N_,N_,N_,N_,N_,N_,N_,N_] rfl rfl (any_of HT_.out (by kernel_rfl)) (fun _ _ _ h => h) (Or.inl ⟨by rfl, ?_⟩) ?_ ?_
         rotate_left
         ·intro w'
          go_simp
          rfl
         rotate_left
         ·simp only [Act.put, List.setIfInBounds_toArray, List.set_cons_zero, List.set_cons_succ, i64_w, i32_w]
          rfl
         refine pure_ (i := 3) (N := some 44) (v := ?_) (a' := ?_) #[Y_,Y_,Y_,Y_,N_,N_,N_,N_,N_,N_,N_,N_,N_,N_,N_] rfl rfl (any_of HT_.out (by kernel_rfl)) (fun _ _ _ h => h) (Or.inl ⟨by rfl, ?_⟩) ?_ ?_
         rotate_left
         ·intro w'
          go_simp
          rfl
         rotate_left
         ·simp only [Act.put, List.setIfInBounds_toArray, List.set_cons_zero, List.set_cons_succ, i64_w, i32_w]
          rfl
         refine take_ (i := 4) (N := some 45) (v := ?_) (a' := ?_) #[Y_,Y_,Y_,Y_,Y_,N_,N_,N_,N_,N_,N_,N_,N_,N_,N_] rfl rfl (take_ofW HT_.out HW_.out (by kernel_rfl)) (fun _ _ _ h => h) (Or.inl ⟨by rfl, ?_⟩) hHeld ?_ ?_
         rotate_left
         ·rintro w' ⟨s0, s1⟩
          go_simp
          rfl
         rotate_left
         ·simp only [Act.put, List.setIfInBounds_toArray, List.set_cons_zero, List.set_cons_succ, i64_w, i32_w]
          rfl
         refine pure_ (i := 5) (N := some 46) (v := ?_) (a' := ?_) #[Y_,Y_,Y_,Y_,Y_,Y_,N_,N_,N_,N_,N_,N_,N_,N_,N_] rfl rfl (any_of HT_.out (by kernel_rfl)) (fun _ _ _ h => h) (Or.inl ⟨by rfl, ?_⟩) ?_ ?_
         rotate_left
         ·intro w'
          go_simp
          rfl
         rotate_left
         ·simp only [Act.put, List.setIfInBounds_toArray, List.set_cons_zero, List.set_cons_succ, i64_w, i32_w]
          rfl
         refine pure_ (i := 6) (N := some 47) (v := ?_) (a' := ?_) #[Y_,Y_,Y_,Y_,Y_,Y_,Y_,N_,N_,N_,N_,N_,N_,N_,N_] rfl rfl (any_of HT_.out (by kernel_rfl)) (fun _ _ _ h => h) (Or.inl ⟨by rfl, ?_⟩) ?_ ?_
         rotate_left
         ·intro w'
          go_simp
          rfl
         rotate_left
         ·simp only [Act.put, List.setIfInBounds_toArray, List.set_cons_zero, List.set_cons_succ, i64_w, i32_w]
          rfl
         refine pure_ (i := 7) (N := some 48) (v := ?_) (a' := ?_) #[Y_,Y_,Y_,Y_,Y_,Y_,Y_,Y_,N_,N_,N_,N_,N_,N_,N_] rfl rfl (any_of HT_.out (by kernel_rfl)) (fun _ _ _ h => h) (Or.inl ⟨by rfl, ?_⟩) ?_ ?_
         rotate_left
         ·intro w'
          go_simp
          rfl
         rotate_left
         ·simp only [Act.put, List.setIfInBounds_toArray, List.set_cons_zero, List.set_cons_succ, i64_w, i32_w]
          rfl
         refine pure_ (i := 8) (N := some 49) (v := ?_) (a' := ?_) #[Y_,Y_,Y_,Y_,Y_,Y_,Y_,Y_,Y_,N_,N_,N_,N_,N_,N_] rfl rfl (any_of HT_.out (by kernel_rfl)) (fun _ _ _ h => h) (Or.inl ⟨by rfl, ?_⟩) ?_ ?_
         rotate_left
         ·intro w'
          go_simp
          rfl
         rotate_left
         ·simp only [Act.put, List.setIfInBounds_toArray, List.set_cons_zero, List.set_cons_succ, i64_w, i32_w]
          rfl
         refine pure_ (i := 9) (N := some 50) (v := ?_) (a' := ?_) #[Y_,Y_,Y_,Y_,Y_,Y_,Y_,Y_,Y_,Y_,N_,N_,N_,N_,N_] rfl rfl (any_of HT_.out (by kernel_rfl)) (fun _ _ _ h => h) (Or.inl ⟨by rfl, ?_⟩) ?_ ?_
         rotate_left
         ·intro w'
          go_simp
          rfl
         rotate_left
         ·simp only [Act.put, List.setIfInBounds_toArray, List.set_cons_zero, List.set_cons_succ, i64_w, i32_w]
          rfl
         refine take_ (i := 10) (N := some 51) (v := ?_) (a' := ?_) #[Y_,Y_,Y_,Y_,Y_,Y_,Y_,Y_,Y_,Y_,Y_,N_,N_,N_,N_] rfl rfl (take_ofW HT_.out HW_.out (by kernel_rfl)) (fun _ _ _ h => h) (Or.inl ⟨by rfl, ?_⟩) hHeld ?_ ?_
         rotate_left
         ·rintro w' ⟨s0, s1⟩
          go_simp
          rfl
         rotate_left
         ·simp only [Act.put, List.setIfInBounds_toArray, List.set_cons_zero, List.set_cons_succ, i64_w, i32_w]
          rfl
         refine take_ (i := 11) (N := some 52) (v := ?_) (a' := ?_) #[Y_,Y_,Y_,Y_,Y_,Y_,Y_,Y_,Y_,Y_,Y_,Y_,N_,N_,N_] rfl rfl (take_ofW HT_.out HW_.out (by kernel_rfl)) (fun _ _ _ h => h) (Or.inl ⟨by rfl, ?_⟩) hHeld ?_ ?_
         rotate_left
         ·rintro w' ⟨s0, s1⟩
          go_simp
          rfl
         rotate_left
         ·simp only [Act.put, List.setIfInBounds_toArray, List.set_cons_zero, List.set_cons_succ, i64_w, i32_w]
          rfl
         refine pure_ (i := 12) (N := some 53) (v := ?_) (a' := ?_) #[Y_,Y_,Y_,Y_,Y_,Y_,Y_,Y_,Y_,Y_,Y_,Y_,Y_,N_,N_] rfl rfl (any_of HT_.out (by kernel_rfl)) (fun _ _ _ h => h) (Or.inl ⟨by rfl, ?_⟩) ?_ ?_
         rotate_left
         ·intro w'
          go_simp
          rfl
         rotate_left
         ·simp only [Act.put, List.setIfInBounds_toArray, List.set_cons_zero, List.set_cons_succ, i64_w, i32_w]
          rfl
         refine pure_ (i := 13) (N := some 54) (v := ?_) (a' := ?_) #[Y_,Y_,Y_,Y_,Y_,Y_,Y_,Y_,Y_,Y_,Y_,Y_,Y_,Y_,N_] rfl rfl (any_of HT_.out (by kernel_rfl)) (fun _ _ _ h => h) (Or.inl ⟨by rfl, ?_⟩) ?_ ?_
         rotate_left
         ·intro w'
          go_simp
          rfl
         rotate_left
         ·simp only [Act.put, List.setIfInBounds_toArray, List.set_cons_zero, List.set_cons_succ, i64_w, i32_w]
          rfl
         refine pure_ (i := 14) (N := some 55) (v := ?_) (a' := ?_) #[Y_,Y_,Y_,Y_,Y_,Y_,Y_,Y_,Y_,Y_,Y_,Y_,Y_,Y_,Y_] rfl rfl (any_of HT_.out (by kernel_rfl)) (fun _ _ _ h => h) (Or.inl ⟨by rfl, ?_⟩) ?_ ?_
         rotate_left
         ·intro w'
          go_simp
          rfl
         rotate_left
         ·simp only [Act.put, List.setIfInBounds_toArray, List.set_cons_zero, List.set_cons_succ, i64_w, i32_w]
          rfl
         refine done_ (done_of HT_.out (by kernel_rfl)) ?_
         clear hA
         go_wp2
         go_roundg k1
         case measure => have := HK1.out; omega
         case rel => exact ⟨p + 1, u28, zs, by (rfl), H', ⟨by have := HK1.out; omega⟩, ⟨by have := HP0.out; omega⟩, HM, HR, Aside0.mk (Kept.below HKP.out HB.out), HAT⟩
      ·rw [if_neg c2] at H
       obtain ⟨q, A180, H⟩ := Option.bind_eq_some_iff.mp H
       have A18 := Aside0.mk A180
       have H' := Aside0.mk H
       clear A180 H
       have HCL := Aside0.mk (show slices_Clone_int_int.f t = some t by have := LM.out; unfold slices_Clone_int_int.f; rw [if_pos (by omega)])
       have hz : (∃ (m : Nat) (ad : Addr) (x : Int), A = some ad ∧ wr.cell? (ad.add m) = some (.int .i64 x) ∧ (decide (0 < (t.length : Int)) = true ∧ decide (0 < t.length) = true) ∧ IntKind.i64.wrap ((t.length : Int) - 1) = (m : Int) ∧ (m : Int) < (t.length : Int) ∧ m < t.length ∧ ((decide (p < a) = true ∧ decide (x < a) = false) ∨ (decide (p < a) = false ∧ decide (x < a) = true))) ∨ (decide (0 < (t.length : Int)) = false ∧ decide (0 < t.length) = false) := by
        rcases hd with ⟨m, ad, x, hrx, hm, hA, hx⟩ | h0
        ·rw [hrx] at c2
         refine .inl ⟨m, ad, x, hA, hx, ⟨decide_eq_true (by omega), decide_eq_true (by omega)⟩, (i64_w _).trans (by have := LM.out; unfold wrap64; omega), by omega, by omega, ?_⟩
         by_cases q1 : p < a
         ·exact .inl ⟨decide_eq_true q1, decide_eq_false (fun q2 => c2 ⟨by omega, ⟨fun _ => q2, fun _ => q1⟩⟩)⟩
         ·refine .inr ⟨decide_eq_false q1, decide_eq_true ?_⟩
          by_cases q2 : x < a
          ·exact q2
          ·exact absurd ⟨by omega, ⟨fun h => absurd h q1, fun h => absurd h q2⟩⟩ c2
        ·exact .inr ⟨decide_eq_false (by omega), decide_eq_false (by omega)⟩
       clear hd c2
       rcases hf with g1 | ⟨g1, g2⟩
       all_goals
        rcases hz with ⟨m, ad, x, hA, hx, ⟨g3, g3n⟩, hw2, i1, i1n, ⟨g4, g5⟩ | ⟨g4, g5⟩⟩ | ⟨g3, g3n⟩
        all_goals
         try have HAE := Aside0.mk hA
         (try clear hA)
         go_wp2
         have n0_ := Aside0.mk (HM.out.below (below_drew1 (Below.refl _ _)))
         have n1_ := Aside0.mk (Kd.R_below HR.out (below_drew1 (Below.refl _ _)))
         have n2_ := Aside0.mk (below_drew1 HB.out)
         clear HM HR HB
         have HM := n0_
         have HR := n1_
         have HB := n2_
         clear n0_ n1_ n2_
         first
         | (have hA := HAE.out
            refine start_ (n := 15) (S := fun w' => w'.cell? ⟨ba, 0, none⟩ = some (.int .i64 a) ∧ w'.cell? (ad.add m) = some (.int .i64 x)) (ds := []) #[N_,N_,N_,N_,N_,N_,N_,N_,N_,N_,N_,N_,N_,N_,N_] (by kernel_rfl) rfl rfl ⟨(blk_cell HM.out.ha 0).trans rfl, hx⟩ (fun hHeld => ?_); refine with_tabW impl_Road_searches.tab7 impl_Road_searches.bits7 (fun HT_ HW_ => ?_)
            generalize wr.drew = w31 at HM HR HB hHeld ⊢
            refine pure_ (i := 0) (N := some 41) (v := ?_) (a' := ?_) #[Y_,N_,N_,N_,N_,N_,N_,N_,N_,N_,N_,N_,N_,N_,N_] rfl rfl (any_of HT_.out (by kernel_rfl)) (fun _ _ _ h => h) (Or.inl ⟨by rfl, ?_⟩) ?_ ?_
            rotate_left
            ·intro w'
             go_simp
             rfl
            rotate_left
            ·simp only [Act.put, List.setIfInBounds_toArray, List.set_cons_zero, List.set_cons_succ, i64_w, i32_w]
             rfl
            refine pure_ (i := 1) (N := some 42) (v := ?_) (a' := ?_) #[Y_,Y_,N_,N_,N_,N_,N_,N_,N_,N_,N_,N_,N_,N_,N_] rfl rfl (any_of HT_.out (by kernel_rfl)) (fun _ _ _ h => h) (Or.inl ⟨by rfl, ?_⟩) ?_ ?_
            rotate_left
            ·intro w'
             go_simp
             rfl
            rotate_left
            ·simp only [Act.put, List.setIfInBounds_toArray, List.set_cons_zero, List.set_cons_succ, i64_w, i32_w]
             rfl
            refine pure_ (i := 2) (N := some 43) (v := ?_) (a' := ?_) #[Y_,Y_,Y_,N_,N_,N_,N_,N_,N_,N_,N_,N_,N_,N_,N_] rfl rfl (any_of HT_.out (by kernel_rfl)) (fun _ _ _ h => h) (Or.inl ⟨by rfl, ?_⟩) ?_ ?_
            rotate_left
            ·intro w'
             go_simp
             rfl
            rotate_left
            ·simp only [Act.put, List.setIfInBounds_toArray, List.set_cons_zero, List.set_cons_succ, i64_w, i32_w]
             rfl
            refine pure_ (i := 3) (N := some 44) (v := ?_) (a' := ?_) #[Y_,Y_,Y_,Y_,N_,N_,N_,N_,N_,N_,N_,N_,N_,N_,N_] rfl rfl (any_of HT_.out (by kernel_rfl)) (fun _ _ _ h => h) (Or.inl ⟨by rfl, ?_⟩) ?_ ?_
            rotate_left
            ·intro w'
             go_simp
             rfl
            rotate_left
            ·simp only [Act.put, List.setIfInBounds_toArray, List.set_cons_zero, List.set_cons_succ, i64_w, i32_w]
             rfl
            refine take_ (i := 4) (N := some 45) (v := ?_) (a' := ?_) #[Y_,Y_,Y_,Y_,Y_,N_,N_,N_,N_,N_,N_,N_,N_,N_,N_] rfl rfl (take_ofW HT_.out HW_.out (by kernel_rfl)) (fun _ _ _ h => h) (Or.inl ⟨by rfl, ?_⟩) hHeld ?_ ?_
            rotate_left
            ·rintro w' ⟨s0, s1⟩
             go_simp
             rfl
            rotate_left
            ·simp only [Act.put, List.setIfInBounds_toArray, List.set_cons_zero, List.set_cons_succ, i64_w, i32_w]
             rfl
            refine pure_ (i := 5) (N := some 46) (v := ?_) (a' := ?_) #[Y_,Y_,Y_,Y_,Y_,Y_,N_,N_,N_,N_,N_,N_,N_,N_,N_] rfl rfl (any_of HT_.out (by kernel_rfl)) (fun _ _ _ h => h) (Or.inl ⟨by rfl, ?_⟩) ?_ ?_
            rotate_left
            ·intro w'
             go_simp
             rfl
            rotate_left
            ·simp only [Act.put, List.setIfInBounds_toArray, List.set_cons_zero, List.set_cons_succ, i64_w, i32_w]
             rfl
            refine pure_ (i := 6) (N := some 47) (v := ?_) (a' := ?_) #[Y_,Y_,Y_,Y_,Y_,Y_,Y_,N_,N_,N_,N_,N_,N_,N_,N_] rfl rfl (any_of HT_.out (by kernel_rfl)) (fun _ _ _ h => h) (Or.inl ⟨by rfl, ?_⟩) ?_ ?_
            rotate_left
            ·intro w'
             go_simp
             rfl
            rotate_left
            ·simp only [Act.put, List.setIfInBounds_toArray, List.set_cons_zero, List.set_cons_succ, i64_w, i32_w]
             rfl
            refine pure_ (i := 7) (N := some 48) (v := ?_) (a' := ?_) #[Y_,Y_,Y_,Y_,Y_,Y_,Y_,Y_,N_,N_,N_,N_,N_,N_,N_] rfl rfl (any_of HT_.out (by kernel_rfl)) (fun _ _ _ h => h) (Or.inl ⟨by rfl, ?_⟩) ?_ ?_
            rotate_left
            ·intro w'
             go_simp
             rfl
            rotate_left
            ·simp only [Act.put, List.setIfInBounds_toArray, List.set_cons_zero, List.set_cons_succ, i64_w, i32_w]
             rfl
            refine pure_ (i := 8) (N := some 49) (v := ?_) (a' := ?_) #[Y_,Y_,Y_,Y_,Y_,Y_,Y_,Y_,Y_,N_,N_,N_,N_,N_,N_] rfl rfl (any_of HT_.out (by kernel_rfl)) (fun _ _ _ h => h) (Or.inl ⟨by rfl, ?_⟩) ?_ ?_
            rotate_left
            ·intro w'
             go_simp
             rfl
            rotate_left
            ·simp only [Act.put, List.setIfInBounds_toArray, List.set_cons_zero, List.set_cons_succ, i64_w, i32_w]
             rfl
            refine pure_ (i := 9) (N := some 50) (v := ?_) (a' := ?_) #[Y_,Y_,Y_,Y_,Y_,Y_,Y_,Y_,Y_,Y_,N_,N_,N_,N_,N_] rfl rfl (any_of HT_.out (by kernel_rfl)) (fun _ _ _ h => h) (Or.inl ⟨by rfl, ?_⟩) ?_ ?_
            rotate_left
            ·intro w'
             go_simp
             rfl
            rotate_left
            ·simp only [Act.put, List.setIfInBounds_toArray, List.set_cons_zero, List.set_cons_succ, i64_w, i32_w]
             rfl
            refine take_ (i := 10) (N := some 51) (v := ?_) (a' := ?_) #[Y_,Y_,Y_,Y_,Y_,Y_,Y_,Y_,Y_,Y_,Y_,N_,N_,N_,N_] rfl rfl (take_ofW HT_.out HW_.out (by kernel_rfl)) (fun _ _ _ h => h) (Or.inl ⟨by rfl, ?_⟩) hHeld ?_ ?_
            rotate_left
            ·rintro w' ⟨s0, s1⟩
             go_simp
             rfl
            rotate_left
            ·simp only [Act.put, List.setIfInBounds_toArray, List.set_cons_zero, List.set_cons_succ, i64_w, i32_w]
             rfl
            refine take_ (i := 11) (N := some 52) (v := ?_) (a' := ?_) #[Y_,Y_,Y_,Y_,Y_,Y_,Y_,Y_,Y_,Y_,Y_,Y_,N_,N_,N_] rfl rfl (take_ofW HT_.out HW_.out (by kernel_rfl)) (fun _ _ _ h => h) (Or.inl ⟨by rfl, ?_⟩) hHeld ?_ ?_
            rotate_left
            ·rintro w' ⟨s0, s1⟩
             go_simp
             rfl
            rotate_left
            ·simp only [Act.put, List.setIfInBounds_toArray, List.set_cons_zero, List.set_cons_succ, i64_w, i32_w]
             rfl
            refine pure_ (i := 12) (N := some 53) (v := ?_) (a' := ?_) #[Y_,Y_,Y_,Y_,Y_,Y_,Y_,Y_,Y_,Y_,Y_,Y_,Y_,N_,N_] rfl rfl (any_of HT_.out (by kernel_rfl)) (fun _ _ _ h => h) (Or.inl ⟨by rfl, ?_⟩) ?_ ?_
            rotate_left
            ·intro w'
             go_simp
             rfl
            rotate_left
            ·simp only [Act.put, List.setIfInBounds_toArray, List.set_cons_zero, List.set_cons_succ, i64_w, i32_w]
             rfl
            refine pure_ (i := 13) (N := some 54) (v := ?_) (a' := ?_) #[Y_,Y_,Y_,Y_,Y_,Y_,Y_,Y_,Y_,Y_,Y_,Y_,Y_,Y_,N_] rfl rfl (any_of HT_.out (by kernel_rfl)) (fun _ _ _ h => h) (Or.inl ⟨by rfl, ?_⟩) ?_ ?_
            rotate_left
            ·intro w'
             go_simp
             rfl
            rotate_left
            ·simp only [Act.put, List.setIfInBounds_toArray, List.set_cons_zero, List.set_cons_succ, i64_w, i32_w]
             rfl
            refine pure_ (i := 14) (N := some 55) (v := ?_) (a' := ?_) #[Y_,Y_,Y_,Y_,Y_,Y_,Y_,Y_,Y_,Y_,Y_,Y_,Y_,Y_,Y_] rfl rfl (any_of HT_.out (by kernel_rfl)) (fun _ _ _ h => h) (Or.inl ⟨by rfl, ?_⟩) ?_ ?_
            rotate_left
            ·intro w'
             go_simp
             rfl
            rotate_left
            ·simp only [Act.put, List.setIfInBounds_toArray, List.set_cons_zero, List.set_cons_succ, i64_w, i32_w]
             rfl
            refine done_ (done_of HT_.out (by kernel_rfl)) ?_
            clear hA hx hw2 i1 i1n g4 g5)
         | (skip
            refine start_ (n := 15) (S := fun w' => True) (ds := []) #[N_,N_,N_,N_,N_,N_,N_,N_,N_,N_,N_,N_,N_,N_,N_] (by kernel_rfl) rfl rfl trivial (fun hHeld => ?_); refine with_tabW impl_Road_searches.tab7 impl_Road_searches.bits7 (fun HT_ HW_ => ?_)
            generalize wr.drew = w31 at HM HR HB hHeld ⊢
            refine pure_ (i := 0) (N := some 41) (v := ?_) (a' := ?_) #[Y_,N_,N_,N_,N_,N_,N_,N_,N_,N_,N_,N_,N_,N_,N_] rfl rfl (any_of HT_.out (by kernel_rfl)) (fun _ _ _ h => h) (Or.inl ⟨by rfl, ?_⟩) ?_ ?_
            rotate_left
            ·intro w'
             go_simp
             rfl
            rotate_left
            ·simp only [Act.put, List.setIfInBounds_toArray, List.set_cons_zero, List.set_cons_succ, i64_w, i32_w]
             rfl
            refine pure_ (i := 1) (N := some 42) (v := ?_) (a' := ?_) #[Y_,Y_,N_,N_,N_,N_,N_,N_,N_,N_,N_,N_,N_,N_,N_] rfl rfl (any_of HT_.out (by kernel_rfl)) (fun _ _ _ h => h) (Or.inl ⟨by rfl, ?_⟩) ?_ ?_
            rotate_left
            ·intro w'
             go_simp
             rfl
            rotate_left
            ·simp only [Act.put, List.setIfInBounds_toArray, List.set_cons_zero, List.set_cons_succ, i64_w, i32_w]
             rfl
            refine pure_ (i := 2) (N := some 43) (v := ?_) (a' := ?_) #[Y_,Y_,Y_,N_,N_,N_,N_,N_,N_,N_,N_,N_,N_,N_,N_] rfl rfl (any_of HT_.out (by kernel_rfl)) (fun _ _ _ h => h) (Or.inl ⟨by rfl, ?_⟩) ?_ ?_
            rotate_left
            ·intro w'
             go_simp
             rfl
            rotate_left
            ·simp only [Act.put, List.setIfInBounds_toArray, List.set_cons_zero, List.set_cons_succ, i64_w, i32_w]
             rfl
            refine pure_ (i := 3) (N := some 44) (v := undef) (a' := ?_) #[Y_,Y_,Y_,Y_,N_,N_,N_,N_,N_,N_,N_,N_,N_,N_,N_] rfl rfl (any_of HT_.out (by kernel_rfl)) (fun _ _ _ h => h) (Or.inr ⟨by rfl, rfl⟩) ?_ ?_
            rotate_left
            ·simp only [Act.put, List.setIfInBounds_toArray, List.set_cons_zero, List.set_cons_succ, i64_w, i32_w]
             rfl
            refine pure_ (i := 4) (N := some 45) (v := undef) (a' := ?_) #[Y_,Y_,Y_,Y_,Y_,N_,N_,N_,N_,N_,N_,N_,N_,N_,N_] rfl rfl (any_of HT_.out (by kernel_rfl)) (fun _ _ _ h => h) (Or.inr ⟨by rfl, rfl⟩) ?_ ?_
            rotate_left
            ·simp only [Act.put, List.setIfInBounds_toArray, List.set_cons_zero, List.set_cons_succ, i64_w, i32_w]
             rfl
            refine pure_ (i := 5) (N := some 46) (v := undef) (a' := ?_) #[Y_,Y_,Y_,Y_,Y_,Y_,N_,N_,N_,N_,N_,N_,N_,N_,N_] rfl rfl (any_of HT_.out (by kernel_rfl)) (fun _ _ _ h => h) (Or.inr ⟨by rfl, rfl⟩) ?_ ?_
            rotate_left
            ·simp only [Act.put, List.setIfInBounds_toArray, List.set_cons_zero, List.set_cons_succ, i64_w, i32_w]
             rfl
            refine pure_ (i := 6) (N := some 47) (v := undef) (a' := ?_) #[Y_,Y_,Y_,Y_,Y_,Y_,Y_,N_,N_,N_,N_,N_,N_,N_,N_] rfl rfl (any_of HT_.out (by kernel_rfl)) (fun _ _ _ h => h) (Or.inr ⟨by rfl, rfl⟩) ?_ ?_
            rotate_left
            ·simp only [Act.put, List.setIfInBounds_toArray, List.set_cons_zero, List.set_cons_succ, i64_w, i32_w]
             rfl
            refine pure_ (i := 7) (N := some 48) (v := undef) (a' := ?_) #[Y_,Y_,Y_,Y_,Y_,Y_,Y_,Y_,N_,N_,N_,N_,N_,N_,N_] rfl rfl (any_of HT_.out (by kernel_rfl)) (fun _ _ _ h => h) (Or.inr ⟨by rfl, rfl⟩) ?_ ?_
            rotate_left
            ·simp only [Act.put, List.setIfInBounds_toArray, List.set_cons_zero, List.set_cons_succ, i64_w, i32_w]
             rfl
            refine pure_ (i := 8) (N := some 49) (v := undef) (a' := ?_) #[Y_,Y_,Y_,Y_,Y_,Y_,Y_,Y_,Y_,N_,N_,N_,N_,N_,N_] rfl rfl (any_of HT_.out (by kernel_rfl)) (fun _ _ _ h => h) (Or.inr ⟨by rfl, rfl⟩) ?_ ?_
            rotate_left
            ·simp only [Act.put, List.setIfInBounds_toArray, List.set_cons_zero, List.set_cons_succ, i64_w, i32_w]
             rfl
            refine pure_ (i := 9) (N := some 50) (v := undef) (a' := ?_) #[Y_,Y_,Y_,Y_,Y_,Y_,Y_,Y_,Y_,Y_,N_,N_,N_,N_,N_] rfl rfl (any_of HT_.out (by kernel_rfl)) (fun _ _ _ h => h) (Or.inr ⟨by rfl, rfl⟩) ?_ ?_
            rotate_left
            ·simp only [Act.put, List.setIfInBounds_toArray, List.set_cons_zero, List.set_cons_succ, i64_w, i32_w]
             rfl
            refine pure_ (i := 10) (N := some 51) (v := undef) (a' := ?_) #[Y_,Y_,Y_,Y_,Y_,Y_,Y_,Y_,Y_,Y_,Y_,N_,N_,N_,N_] rfl rfl (any_of HT_.out (by kernel_rfl)) (fun _ _ _ h => h) (Or.inr ⟨by rfl, rfl⟩) ?_ ?_
            rotate_left
            ·simp only [Act.put, List.setIfInBounds_toArray, List.set_cons_zero, List.set_cons_succ, i64_w, i32_w]
             rfl
            refine pure_ (i := 11) (N := some 52) (v := undef) (a' := ?_) #[Y_,Y_,Y_,Y_,Y_,Y_,Y_,Y_,Y_,Y_,Y_,Y_,N_,N_,N_] rfl rfl (any_of HT_.out (by kernel_rfl)) (fun _ _ _ h => h) (Or.inr ⟨by rfl, rfl⟩) ?_ ?_
            rotate_left
            ·simp only [Act.put, List.setIfInBounds_toArray, List.set_cons_zero, List.set_cons_succ, i64_w, i32_w]
             rfl
            refine pure_ (i := 12) (N := some 53) (v := undef) (a' := ?_) #[Y_,Y_,Y_,Y_,Y_,Y_,Y_,Y_,Y_,Y_,Y_,Y_,Y_,N_,N_] rfl rfl (any_of HT_.out (by kernel_rfl)) (fun _ _ _ h => h) (Or.inr ⟨by rfl, rfl⟩) ?_ ?_
            rotate_left
            ·simp only [Act.put, List.setIfInBounds_toArray, List.set_cons_zero, List.set_cons_succ, i64_w, i32_w]
             rfl
            refine pure_ (i := 13) (N := some 54) (v := undef) (a' := ?_) #[Y_,Y_,Y_,Y_,Y_,Y_,Y_,Y_,Y_,Y_,Y_,Y_,Y_,Y_,N_] rfl rfl (any_of HT_.out (by kernel_rfl)) (fun _ _ _ h => h) (Or.inr ⟨by rfl, rfl⟩) ?_ ?_
            rotate_left
            ·simp only [Act.put, List.setIfInBounds_toArray, List.set_cons_zero, List.set_cons_succ, i64_w, i32_w]
             rfl
            refine pure_ (i := 14) (N := some 55) (v := ?_) (a' := ?_) #[Y_,Y_,Y_,Y_,Y_,Y_,Y_,Y_,Y_,Y_,Y_,Y_,Y_,Y_,Y_] rfl rfl (any_of HT_.out (by kernel_rfl)) (fun _ _ _ h => h) (Or.inl ⟨by rfl, ?_⟩) ?_ ?_
            rotate_left
            ·intro w'
             go_simp
             rfl
            rotate_left
            ·simp only [Act.put, List.setIfInBounds_toArray, List.set_cons_zero, List.set_cons_succ, i64_w, i32_w]
             rfl
            refine done_ (done_of HT_.out (by kernel_rfl)) ?_)
         try go_wp2
         clear g1 g3 g3n
         (try clear g2)
         have n0_ := Aside0.mk (HM.out.below (below_drew1 (Below.refl _ _)))
         have n1_ := Aside0.mk (Kd.R_below HR.out (below_drew1 (Below.refl _ _)))
         have n2_ := Aside0.mk (below_drew1 HB.out)
         clear HM HR HB
         have HM := n0_
         have HR := n1_
         have HB := n2_
         clear n0_ n1_ n2_
         refine start_ (n := 13) (S := fun w' => w'.cell? ⟨be, 0, none⟩ = some (.func (.func 117) #[] #[.pointer (some ⟨b0, 0, none⟩), .pointer (some ⟨bo, 0, none⟩), .pointer (some ⟨ba, 0, none⟩), .pointer (some ⟨be, 0, none⟩)])) (ds := []) #[N_,N_,N_,N_,N_,N_,N_,N_,N_,N_,N_,N_,N_] (by kernel_rfl) rfl rfl ((blk_cell HM.out.he 0).trans rfl) (fun hHeld => ?_); refine with_tabW impl_Road_searches.tab8 impl_Road_searches.bits8 (fun HT_ HW_ => ?_)
         generalize w31.drew = w41 at HM HR HB hHeld ⊢
         refine pure_ (i := 1) (N := some 57) (v := ?_) (a' := ?_) #[N_,Y_,N_,N_,N_,N_,N_,N_,N_,N_,N_,N_,N_] rfl rfl (any_of HT_.out (by kernel_rfl)) (fun _ _ _ h => h) (Or.inl ⟨by rfl, ?_⟩) ?_ ?_
         rotate_left
         ·intro w'
          go_simp
          rfl
         rotate_left
         ·simp only [Act.put, List.setIfInBounds_toArray, List.set_cons_zero, List.set_cons_succ, i64_w, i32_w]
          rfl
         refine pure_ (i := 3) (N := some 59) (v := ?_) (a' := ?_) #[N_,Y_,N_,Y_,N_,N_,N_,N_,N_,N_,N_,N_,N_] rfl rfl (any_of HT_.out (by kernel_rfl)) (fun _ _ _ h => h) (Or.inl ⟨by rfl, ?_⟩) ?_ ?_
         rotate_left
         ·intro w'
          go_simp
          rfl
         rotate_left
         ·simp only [Act.put, List.setIfInBounds_toArray, List.set_cons_zero, List.set_cons_succ, i64_w, i32_w]
          rfl
         refine pure_ (i := 6) (N := some 62) (v := ?_) (a' := ?_) #[N_,Y_,N_,Y_,N_,N_,Y_,N_,N_,N_,N_,N_,N_] rfl rfl (any_of HT_.out (by kernel_rfl)) (fun _ _ _ h => h) (Or.inl ⟨by rfl, ?_⟩) ?_ ?_
         rotate_left
         ·intro w'
          go_simp
          rfl
         rotate_left
         ·simp only [Act.put, List.setIfInBounds_toArray, List.set_cons_zero, List.set_cons_succ, i64_w, i32_w]
          rfl
         refine pure_ (i := 7) (N := some 63) (v := ?_) (a' := ?_) #[N_,Y_,N_,Y_,N_,N_,Y_,Y_,N_,N_,N_,N_,N_] rfl rfl (any_of HT_.out (by kernel_rfl)) (fun _ _ _ h => h) (Or.inl ⟨by rfl, ?_⟩) ?_ ?_
         rotate_left
         ·intro w'
          go_simp
          rfl
         rotate_left
         ·simp only [Act.put, List.setIfInBounds_toArray, List.set_cons_zero, List.set_cons_succ, i64_w, i32_w]
          rfl
         refine pure_ (i := 8) (N := some 64) (v := ?_) (a' := ?_) #[N_,Y_,N_,Y_,N_,N_,Y_,Y_,Y_,N_,N_,N_,N_] rfl rfl (any_of HT_.out (by kernel_rfl)) (fun _ _ _ h => h) (Or.inl ⟨by rfl, ?_⟩) ?_ ?_
         rotate_left
         ·intro w'
          go_simp
          rfl
         rotate_left
         ·simp only [Act.put, List.setIfInBounds_toArray, List.set_cons_zero, List.set_cons_succ, i64_w, i32_w]
          rfl
         refine pure_ (i := 9) (N := some 65) (v := ?_) (a' := ?_) #[N_,Y_,N_,Y_,N_,N_,Y_,Y_,Y_,Y_,N_,N_,N_] rfl rfl (any_of HT_.out (by kernel_rfl)) (fun _ _ _ h => h) (Or.inl ⟨by rfl, ?_⟩) ?_ ?_
         rotate_left
         ·intro w'
          go_simp
          rfl
         rotate_left
         ·simp only [Act.put, List.setIfInBounds_toArray, List.set_cons_zero, List.set_cons_succ, i64_w, i32_w]
          rfl
         refine pure_ (i := 10) (N := some 66) (v := ?_) (a' := ?_) #[N_,Y_,N_,Y_,N_,N_,Y_,Y_,Y_,Y_,Y_,N_,N_] rfl rfl (any_of HT_.out (by kernel_rfl)) (fun _ _ _ h => h) (Or.inl ⟨by rfl, ?_⟩) ?_ ?_
         rotate_left
         ·intro w'
          go_simp
          rfl
         rotate_left
         ·simp only [Act.put, List.setIfInBounds_toArray, List.set_cons_zero, List.set_cons_succ, i64_w, i32_w]
          rfl
         refine pure_ (i := 11) (N := some 67) (v := ?_) (a' := ?_) #[N_,Y_,N_,Y_,N_,N_,Y_,Y_,Y_,Y_,Y_,Y_,N_] rfl rfl (any_of HT_.out (by kernel_rfl)) (fun _ _ _ h => h) (Or.inl ⟨by rfl, ?_⟩) ?_ ?_
         rotate_left
         ·intro w'
          go_simp
          rfl
         rotate_left
         ·simp only [Act.put, List.setIfInBounds_toArray, List.set_cons_zero, List.set_cons_succ, i64_w, i32_w]
          rfl
         refine take_ (i := 0) (N := some 56) (v := ?_) (a' := ?_) #[Y_,Y_,N_,Y_,N_,N_,Y_,Y_,Y_,Y_,Y_,Y_,N_] rfl rfl (take_ofW HT_.out HW_.out (by kernel_rfl)) (fun _ _ _ h => h) (Or.inl ⟨by rfl, ?_⟩) hHeld ?_ ?_
         rotate_left
         ·rintro w' s0
          go_simp
          rfl
         rotate_left
         ·simp only [Act.put, List.setIfInBounds_toArray, List.set_cons_zero, List.set_cons_succ, i64_w, i32_w]
          rfl
         have HM2 := HM
         have HBX := Aside0.mk (Below.refl w41.heap.size w41)
         refine join_ (σ := Value × Value) 2 #[Y_,Y_,Y_,Y_,Y_,N_,Y_,Y_,Y_,Y_,Y_,Y_,N_] (fun s_ => [(58, s_.1), (60, s_.2)]) (fun s_ w' => (w'.cell? ⟨be, 0, none⟩ = some (.func (.func 117) #[] #[.pointer (some ⟨b0, 0, none⟩), .pointer (some ⟨bo, 0, none⟩), .pointer (some ⟨ba, 0, none⟩), .pointer (some ⟨be, 0, none⟩)])) ∧ (Kd.R (Kd.int .i64) 3 w' w41.heap.size (fun k_ => some k_ ≠ (s_.2 : Value).ownBlock) s_.1 t) ∧ (Kd.R (Kd.int .i64) 3 w' w41.heap.size (fun k_ => some k_ ≠ (s_.1 : Value).ownBlock) s_.2 [p]) ∧ (impl_Road_searches.M n g a b0 bo ba be w0 u28 zs w') ∧ (Below w41.heap.size w41 w')) ?_ ?_
         rotate_left
         ·intro hCont
          refine two_ (i := 2) (j := 4) (Ni := some 58) (Nj := some 60) #[Y_,Y_,Y_,Y_,N_,N_,Y_,Y_,Y_,Y_,Y_,Y_,N_] #[Y_,Y_,N_,Y_,Y_,N_,Y_,Y_,Y_,Y_,Y_,Y_,N_] rfl rfl rfl rfl (two_of HT_.out (by kernel_rfl)) (by decide) (by decide) (fun K hK => ?_) (fun K hK => ?_)
          ·skip
           refine goes_ Try.func119 (by kernel_rfl) rfl #[.slice A t.length c] (by rfl) rfl rfl (by (try simp only [List.map_toArray, List.map_cons, List.map_nil]); (rfl)) ?_
           refine (slices_Clone_int_int.calls _ _ t t _ ?side1 (Kd.R_reads' HR.out).2.1 HCL.out).mono ?_
           (case side1 => exact Kd.C_below (Kd.R_reads' HR.out).2.2 HBX.out)
           rintro e w22 ⟨v58, rfl, ho0, hb⟩
           refine ⟨_, rfl, ?_⟩
           have HO58 := Aside0.mk (Kd.R_lower ho0 (below_size HBX.out))
           clear ho0
           have n2_ := Aside0.mk (HM2.out.below hb)
           have n3_ := Aside0.mk (below_step HBX.out hb)
           clear HM2 HBX hb
           have HM2 := n2_
           have HBX := n3_
           clear n2_ n3_
           refine hK.out _ _ (by (exact (blk_cell HM2.out.he 0).trans rfl)) (fun hHeld => ?_)
           clear hK K
           refine norm_ (a' := ?_) ?_ ?_
           rotate_left
           ·show Act.put _ (some 58) _ = _
            simp only [Act.put, List.setIfInBounds_toArray, List.set_cons_zero, List.set_cons_succ, i64_w, i32_w]
            rfl
           refine one_ (i := 4) (N := some 60) #[Y_,Y_,Y_,Y_,Y_,N_,Y_,Y_,Y_,Y_,Y_,Y_,N_] rfl rfl (one_of HT_.out (by kernel_rfl)) (by decide) (fun K hK => ?_)
           refine Kd.R_lit_step (Kd.int .i64) _ 3 ?hg (N := 60) ?hd (xs := ([p] : List Int)) (inner := [.int .i64 p]) (ok := fun _ => True) (okp := fun _ => True) ?hr ?hp (fun _ hk => hk) trivial (Below.refl _ _) (Nat.le_refl _) (by simp) ?_; (case hd => rfl); (case hg => rfl); (case hr => (go_simp; done)); (case hp => exact (Reps.one (show Kd.M (Kd.int .i64) _ _ _ p [.int .i64 p] from rfl) (Reps.none _ _)))
           intro v60 w23 ho0 hb hg_ hnew_
           clear hg_ hnew_
           have n0_ := Aside0.mk (Kd.R_elder' HO58.out (Kd.R_base ho0) hb)
           have HO60 := Aside0.mk (Kd.R_lower (Kd.R_new' ho0 (Kd.R_lt HO58.out)) (below_size HBX.out))
           clear HO58 ho0
           have HO58 := n0_
           clear n0_
           have n2_ := Aside0.mk (HM2.out.below hb)
           have n3_ := Aside0.mk (below_step HBX.out hb)
           clear HM2 HBX hb
           have HM2 := n2_
           have HBX := n3_
           clear n2_ n3_
           refine hK.out _ _ (by (exact (blk_cell HM2.out.he 0).trans rfl)) (fun hHeld => ?_)
           clear hK K
           refine norm_ (a' := ?_) ?_ ?_
           rotate_left
           ·show Act.put _ (some 60) _ = _
            simp only [Act.put, List.setIfInBounds_toArray, List.set_cons_zero, List.set_cons_succ, i64_w, i32_w]
            rfl
           exact norm_ (by simp only [putAll, Act.put, List.setIfInBounds_toArray, List.set_cons_zero, List.set_cons_succ]) (hCont (v58, v60) _ ⟨hHeld, Kd.R_mono HO58.out (fun _ hk => hk.2), Kd.R_mono HO60.out (fun _ hk => hk.2), HM2.out, HBX.out⟩)
          ·skip
           refine Kd.R_lit_step (Kd.int .i64) _ 3 ?hg (N := 60) ?hd (xs := ([p] : List Int)) (inner := [.int .i64 p]) (ok := fun _ => True) (okp := fun _ => True) ?hr ?hp (fun _ hk => hk) trivial (Below.refl _ _) (Nat.le_refl _) (by simp) ?_; (case hd => rfl); (case hg => rfl); (case hr => (go_simp; done)); (case hp => exact (Reps.one (show Kd.M (Kd.int .i64) _ _ _ p [.int .i64 p] from rfl) (Reps.none _ _)))
           intro v60 w23 ho0 hb hg_ hnew_
           clear hg_ hnew_
           have HO60 := Aside0.mk (Kd.R_lower ho0 (below_size HBX.out))
           clear ho0
           have n2_ := Aside0.mk (HM2.out.below hb)
           have n3_ := Aside0.mk (below_step HBX.out hb)
           clear HM2 HBX hb
           have HM2 := n2_
           have HBX := n3_
           clear n2_ n3_
           refine hK.out _ _ (by (exact (blk_cell HM2.out.he 0).trans rfl)) (fun hHeld => ?_)
           clear hK K
           refine norm_ (a' := ?_) ?_ ?_
           rotate_left
           ·show Act.put _ (some 60) _ = _
            simp only [Act.put, List.setIfInBounds_toArray, List.set_cons_zero, List.set_cons_succ, i64_w, i32_w]
            rfl
           refine one_ (i := 2) (N := some 58) #[Y_,Y_,Y_,Y_,Y_,N_,Y_,Y_,Y_,Y_,Y_,Y_,N_] rfl rfl (one_of HT_.out (by kernel_rfl)) (by decide) (fun K hK => ?_)
           refine goes_ Try.func119 (by kernel_rfl) rfl #[.slice A t.length c] (by rfl) rfl rfl (by (try simp only [List.map_toArray, List.map_cons, List.map_nil]); (rfl)) ?_
           refine (slices_Clone_int_int.calls _ _ t t _ ?side1 (Kd.R_reads' HR.out).2.1 HCL.out).mono ?_
           (case side1 => exact Kd.C_below (Kd.R_reads' HR.out).2.2 HBX.out)
           rintro e w22 ⟨v58, rfl, ho0, hb⟩
           refine ⟨_, rfl, ?_⟩
           have n0_ := Aside0.mk (Kd.R_elder' HO60.out (Kd.R_base ho0) hb)
           have HO58 := Aside0.mk (Kd.R_lower (Kd.R_new' ho0 (Kd.R_lt HO60.out)) (below_size HBX.out))
           clear HO60 ho0
           have HO60 := n0_
           clear n0_
           have n2_ := Aside0.mk (HM2.out.below hb)
           have n3_ := Aside0.mk (below_step HBX.out hb)
           clear HM2 HBX hb
           have HM2 := n2_
           have HBX := n3_
           clear n2_ n3_
           refine hK.out _ _ (by (exact (blk_cell HM2.out.he 0).trans rfl)) (fun hHeld => ?_)
           clear hK K
           refine norm_ (a' := ?_) ?_ ?_
           rotate_left
           ·show Act.put _ (some 58) _ = _
            simp only [Act.put, List.setIfInBounds_toArray, List.set_cons_zero, List.set_cons_succ, i64_w, i32_w]
            rfl
           exact norm_ (by simp only [putAll, Act.put, List.setIfInBounds_toArray, List.set_cons_zero, List.set_cons_succ]) (hCont (v58, v60) _ ⟨hHeld, Kd.R_mono HO58.out (fun _ hk => hk.2), Kd.R_mono HO60.out (fun _ hk => hk.2), HM2.out, HBX.out⟩)
         rintro ⟨v58, v60⟩ w25 ⟨hS_, h0_, h1_, h2_, h3_⟩
         clear HM2 HBX
         have HO58 : Aside0 (Kd.R (Kd.int .i64) 3 w25 w41.heap.size (fun k_ => some k_ ≠ (v60 : Value).ownBlock) v58 t) := ⟨h0_⟩
         have HO60 : Aside0 (Kd.R (Kd.int .i64) 3 w25 w41.heap.size (fun k_ => some k_ ≠ (v58 : Value).ownBlock) v60 [p]) := ⟨h1_⟩
         have HM2 : Aside0 (impl_Road_searches.M n g a b0 bo ba be w0 u28 zs w25) := ⟨h2_⟩
         have HBX : Aside0 (Below w41.heap.size w41 w25) := ⟨h3_⟩
         clear h0_ h1_ h2_ h3_
         have hHeld := hS_
         clear hS_
         obtain ⟨Ao27, co27, eo27⟩ := Kd.R_slice HO60.out
         subst eo27
         refine norm_ (a' := ?_) ?_ ?_
         rotate_left
         ·simp only [putAll, Act.put, List.setIfInBounds_toArray, List.set_cons_zero, List.set_cons_succ]
          rfl
         refine one_ (i := 5) (N := some 61) #[Y_,Y_,Y_,Y_,Y_,Y_,Y_,Y_,Y_,Y_,Y_,Y_,N_] rfl rfl (one_of HT_.out (by kernel_rfl)) (by decide) (fun K hK => ?_)
         refine Kd.R_append_rows_step (Kd.int .i64) (w0 := w41) w41.heap.size (by rfl) (.tmp 58) (.tmp 60) 30 3 (.int .i64 0) 8 rfl Try.underlying30 slices_Clone_int_int.info rfl (by decide) (by omega) v58 t [p] _ _ _ (fun k_ => some k_ ≠ (.slice Ao27 [p].length co27 : Value).ownBlock) (fun _ => False) rfl rfl ?aO ?aR (fun _ _ h => h) (fun _ h => h.elim) ?aF ?aB ?aS ?aL ?_
         (case aR => exact (Kd.R_reads' HO60.out).2.2)
         (case aB => exact HBX.out)
         (case aF => exact (fun k_ hk => Kd.fresh' (Kd.R_lt HO60.out) k_ hk))
         (case aO => exact HO58.out)
         (case aS => exact below_size HBX.out)
         (case aL => have := LM.out; simp only [List.length_cons, List.length_nil]; omega)
         intro v61 w26 ho hb hg hat
         have n0_ := Aside0.mk (HM.out.below hb)
         clear HM2 HBX HO58 HO60 hg hat
         have HM2 := n0_
         have HBX := Aside0.mk hb
         have HO61 := Aside0.mk ho
         clear n0_ hb ho
         obtain ⟨Ao28, co28, eo28⟩ := Kd.R_slice HO61.out
         subst eo28
         refine hK.out _ _ (by (exact (blk_cell HM2.out.he 0).trans rfl)) (fun hHeld => ?_)
         clear hK K
         refine norm_ (a' := ?_) ?_ ?_
         rotate_left
         ·show Act.put _ (some 61) _ = _
          simp only [Act.put, List.setIfInBounds_toArray, List.set_cons_zero, List.set_cons_succ, i64_w, i32_w]
          rfl
         refine one_ (i := 12) (N := some 68) #[Y_,Y_,Y_,Y_,Y_,Y_,Y_,Y_,Y_,Y_,Y_,Y_,Y_] rfl rfl (one_of HT_.out (by kernel_rfl)) (by decide) (fun K hK => ?_)
         refine impl_Road_searches.calls_func Try.func117 (by kernel_rfl) rfl #[.slice Ao28 (t ++ [p]).length co28, .int .i64 (if p < lo then p else lo), .int .i64 (if hi < p then p else hi), .pointer (some ⟨b0, 0, none⟩), .pointer (some ⟨bo, 0, none⟩), .pointer (some ⟨ba, 0, none⟩), .pointer (some ⟨be, 0, none⟩)] (by rfl) rfl rfl (by (rfl)) (by (go_simp; done)) ?_
         refine (HIH.out k1 (by have := HK1.out; omega) n g a b0 bo ba be _ _ (t ++ [p]) _ _ u28 zs q w0 _ HM2.out ?s1 HNN.out A18.out).mono ?_
         (case s1 => exact Kd.R_tight rfl (Kd.R_lower HO61.out (below_size HM.out.below0)))
         rintro e w29 ⟨rfl, u2, hm, hk, hat⟩
         refine ⟨_, rfl, ?_⟩
         have HMN := Aside0.mk hm
         have HRN := Aside0.mk (Kd.R_kept (Kd.R_below HR.out HBX.out) hk (fun k_ e_ h_ => by rcases h_ with h_ | h_; exact HM.out.away HR.out k_ e_ (.inl h_); exact HM.out.away HR.out k_ e_ (.inr h_)))
         have HKN := Aside0.mk ((Kept.below HKP.out (below_step HB.out HBX.out)).then_ hk (fun k_ h_ => by rcases h_ with h_ | h_; exact .inl (.inl h_); exact HAT.out.next k_ h_))
         have HAN := Aside0.mk (impl_Road_searches.At.trans HAT.out hat (Nat.le_trans HKP.out.1 (Nat.le_trans HB.out.size HBX.out.size)))
         clear HM2 HBX hm hk hat
         have HM2 := HMN
         refine hK.out _ _ (by (exact (blk_cell HM2.out.he 0).trans rfl)) (fun hHeld => ?_)
         clear hK K
         refine norm_ (a' := ?_) ?_ ?_
         rotate_left
         ·show Act.put _ (some 68) _ = _
          simp only [Act.put, List.setIfInBounds_toArray, List.set_cons_zero, List.set_cons_succ, i64_w, i32_w]
          rfl
         refine done_ (done_of HT_.out (by kernel_rfl)) ?_
         clear A18
         generalize (if p < lo then p else lo) = lo2
         generalize (if hi < p then p else hi) = hi2
         try go_wp2
         go_roundg k1
         case measure => have := HK1.out; omega
         case rel => exact ⟨p + 1, u2, q, by (rfl), H', ⟨by have := HK1.out; omega⟩, ⟨by have := HP0.out; omega⟩, HMN, HRN, HKN, HAN⟩
    ·rw [if_neg c13] at H
     have c13b : decide (p < n) = false := decide_eq_false c13
     clear c13
     obtain rfl := Option.some.inj H
     go_wp2
     (go_end0)
     exact ⟨rfl, _, HM.out, HKP.out, HAT.out⟩

end Go.Proofs.Ytogflbocmiogpaa.PFnLoads
