-- Written for this claim by this session's turned copy of the printer.
import Derived.Test.YtogflbocmiogpaaPFnLoadsx0
import Derived.Test.YtogflbocmiogpaaPFnLoadsx4
import Derived.Test.YtogflbocmiogpaaPFnLoadsx5
import Derived.Maps.OwnSet
import Derived.WideKeyPair
import Derived.Deep.RegionWith
namespace Go.Proofs.Ytogflbocmiogpaa.PFnLoads
open Go.RowKit Go.Proofs.YtogflbocmiogpaaW.PrintWords Go.Proofs.YtogflbocmiogpaaW.PrintLast Go.Proofs.YtogflbocmiogpaaW.PrintMore
attribute [local go_sem] max2_int min2_int max_two min_two max_three min_three max_four min_four   -- for this text's walks alone
set_option linter.unusedVariables false
set_option linter.unusedSimpArgs false

/-! ### impl_LeastLoad: function 27 -/
/-- The hefts outside low to high. -/
def impl_LeastLoad.left (lo hi : Int) : List Int → Int → Int → Int
 | [], _, s => s
 | x :: t, i, s => impl_LeastLoad.left lo hi t (i + 1) (if i < lo ∨ i > hi then s + x else s)
/-- What is added from the time on at which low to high have been visited, the walker being at pl. -/
def impl_LeastLoad.least (n : Int) (l : List Int) : Nat → Int → Int → Int → Int
 | 0, _, _, _ => 0
 | d + 1, lo, hi, pl =>
  if hi < n - 1 then
   (if 0 < lo then
    (if impl_LeastLoad.left lo hi l 0 0 * (hi + 1 - pl) + impl_LeastLoad.least n l d lo (hi + 1) (hi + 1) < impl_LeastLoad.left lo hi l 0 0 * (pl - lo + 1) + impl_LeastLoad.least n l d (lo - 1) hi (lo - 1)
     then impl_LeastLoad.left lo hi l 0 0 * (hi + 1 - pl) + impl_LeastLoad.least n l d lo (hi + 1) (hi + 1) else impl_LeastLoad.left lo hi l 0 0 * (pl - lo + 1) + impl_LeastLoad.least n l d (lo - 1) hi (lo - 1))
   else impl_LeastLoad.left lo hi l 0 0 * (hi + 1 - pl) + impl_LeastLoad.least n l d lo (hi + 1) (hi + 1))
  else impl_LeastLoad.left lo hi l 0 0 * (pl - lo + 1) + impl_LeastLoad.least n l d (lo - 1) hi (lo - 1)
def impl_LeastLoad.D (n lo hi : Int) : Nat := (n - 1 - (hi - lo)).toNat
def impl_LeastLoad.L (n : Int) (l : List Int) (lo hi pl : Int) : Int := impl_LeastLoad.least n l (impl_LeastLoad.D n lo hi) lo hi pl
def impl_LeastLoad.R (n lo hi pl : Int) : Prop := (0 ≤ lo ∧ lo ≤ hi ∧ hi ≤ n - 1) ∧ lo ≤ pl ∧ pl ≤ hi
theorem impl_LeastLoad.left_b (lo hi : Int) : ∀ (l : List Int) (i s : Int), (∀ x, x ∈ l → 0 ≤ x ∧ x ≤ 99) → s ≤ impl_LeastLoad.left lo hi l i s ∧ impl_LeastLoad.left lo hi l i s ≤ s + 99 * (l.length : Int) := by
 intro l
 induction l with
 | nil => intro i s _; unfold impl_LeastLoad.left; simp
 | cons x t ih =>
  intro i s h
  unfold impl_LeastLoad.left
  have hx := h x (List.mem_cons_self ..)
  have := ih (i + 1) (if i < lo ∨ i > hi then s + x else s) (fun y hy => h y (List.mem_cons_of_mem _ hy))
  rw [List.length_cons]
  split at this <;> split <;> omega
theorem impl_LeastLoad.mul_b {x y X Y : Int} (hx : 0 ≤ x ∧ x ≤ X) (hy : 0 ≤ y ∧ y ≤ Y) : 0 ≤ x * y ∧ x * y ≤ X * Y :=
 ⟨Int.mul_nonneg hx.1 hy.1, Int.mul_le_mul hx.2 hy.2 hy.1 (by omega)⟩
theorem impl_LeastLoad.least_b {n : Int} {l : List Int} (hn : 2 ≤ n ∧ n ≤ 24) (hl : (l.length : Int) = n) (hx : ∀ x, x ∈ l → 0 ≤ x ∧ x ≤ 99) : ∀ (d : Nat) (lo hi pl : Int), impl_LeastLoad.R n lo hi pl → impl_LeastLoad.D n lo hi = d → 0 ≤ impl_LeastLoad.least n l d lo hi pl ∧ impl_LeastLoad.least n l d lo hi pl ≤ 100000 * (d : Int) := by
 intro d
 induction d with
 | zero => intro lo hi pl _ _; unfold impl_LeastLoad.least; simp
 | succ d ih =>
  intro lo hi pl hR hd
  obtain ⟨⟨h1, h2, h3⟩, h4, h5⟩ := hR
  unfold impl_LeastLoad.D at hd
  have hb := impl_LeastLoad.left_b lo hi l 0 0 hx
  have hb2 : 0 ≤ impl_LeastLoad.left lo hi l 0 0 ∧ impl_LeastLoad.left lo hi l 0 0 ≤ 2376 := by omega
  have m1 := impl_LeastLoad.mul_b hb2 (show 0 ≤ hi + 1 - pl ∧ hi + 1 - pl ≤ 24 by omega)
  have m2 := impl_LeastLoad.mul_b hb2 (show 0 ≤ pl - lo + 1 ∧ pl - lo + 1 ≤ 24 by omega)
  unfold impl_LeastLoad.least
  by_cases c1 : hi < n - 1
  rotate_left
  ·have i2 := ih (lo - 1) hi (lo - 1) ⟨⟨by omega, by omega, by omega⟩, by omega, by omega⟩ (by unfold impl_LeastLoad.D; omega)
   rw [if_neg c1]
   omega
  have i1 := ih lo (hi + 1) (hi + 1) ⟨⟨h1, by omega, by omega⟩, by omega, by omega⟩ (by unfold impl_LeastLoad.D; omega)
  rw [if_pos c1]
  by_cases c2 : 0 < lo
  rotate_left
  ·rw [if_neg c2]
   omega
  have i2 := ih (lo - 1) hi (lo - 1) ⟨⟨by omega, by omega, by omega⟩, by omega, by omega⟩ (by unfold impl_LeastLoad.D; omega)
  rw [if_pos c2]
  split <;> omega
def impl_LeastLoad.K (a b c : Int) : Lit := .string (keyBytes [.int .i64 a, .int .i64 b, .int .i64 c])
theorem impl_LeastLoad.arr : Go.WideMaps.ArrKey Try.prog 89 3 3 := ⟨Try.underlying89, by kernel_rfl, by kernel_rfl, by kernel_rfl⟩
theorem impl_LeastLoad.law : Go.Maps.Keyed Try.prog 89 := Go.Maps.Keyed.of_law impl_LeastLoad.arr.law
theorem impl_LeastLoad.keyT : Try.prog.keyType 89 = true := by kernel_rfl
theorem impl_LeastLoad.someSize : ∃ m, Try.prog.types.size = m + 1 := ⟨Try.prog.types.size - 1, by kernel_rfl⟩
theorem impl_LeastLoad.key {n lo hi pl : Int} (hn : 2 ≤ n ∧ n ≤ 24) (hR : impl_LeastLoad.R n lo hi pl) : keyOf Try.prog 89 (.agg #[.int .i64 lo, .int .i64 hi, .int .i64 pl]) = some (impl_LeastLoad.K lo hi pl) := by
 obtain ⟨⟨h1, h2, h3⟩, h4, h5⟩ := hR
 have wf : ∀ x : Int, 0 ≤ x → x ≤ 24 → (Lit.int .i64 x).wf = true := fun x h0 h1 => WalkArith.wf_i64 (by omega)
 have wa := wf lo (by omega) (by omega)
 have wb := wf hi (by omega) (by omega)
 have wc := wf pl (by omega) (by omega)
 have hkt := impl_LeastLoad.keyT
 have A := impl_LeastLoad.arr
 obtain ⟨m, hm⟩ := impl_LeastLoad.someSize
 have he := Try.underlying3
 unfold keyOf impl_LeastLoad.K
 simp only [A.hu]
 rw [if_pos (by simp [hkt, Value.formed, A.hu, A.size]), hm]
 unfold Program.keyLits
 simp only [A.hu, Value.cells]
 rw [if_pos (by rw [A.size]; rfl), show List.range 3 = [0, 1, 2] from rfl, List.mapM_cons, List.mapM_cons, List.mapM_cons, List.mapM_nil]
 simp [A.one, Program.keyLits, he, wa, wb, wc]
/-- The state between the calls: the boxes of r, memo, hefts, least, and the map, all of whose entries are right. -/
structure impl_LeastLoad.M (n : Int) (g : Bool) (A : Option Addr) (c : Nat) (l : List Int) (b0 bm bh bl mb : Nat) (w0 W : World) (N : Nat) (D : DataW Unit) : Prop where
 h0 : W.heap[b0]? = some (.cells #[.int .i64 n, .bool g] 25 (0, 0))
 hm : W.heap[bm]? = some (.cells #[.map (some mb)] 87 (0, 0))
 hh : W.heap[bh]? = some (.cells #[.slice A l.length c] 30 (0, 0))
 hl : W.heap[bl]? = some (.cells #[.func (.func 83) #[] #[.pointer (some ⟨b0, 0, none⟩), .pointer (some ⟨bm, 0, none⟩), .pointer (some ⟨bh, 0, none⟩), .pointer (some ⟨bl, 0, none⟩)]] 88 (0, 0))
 own : W.ownsMap Try.prog 89 (plainElem Try.prog 3) mb N D
 map : Go.Maps.IsMap D
 good : ∀ lo hi pl : Int, impl_LeastLoad.R n lo hi pl → Go.Maps.has D (impl_LeastLoad.K lo hi pl) = true → D.atKey (impl_LeastLoad.K lo hi pl) (.lit (.int .i64 0)) = .lit (.int .i64 (impl_LeastLoad.L n l lo hi pl))
 row : Kd.C (Kd.int .i64) w0 A l.length l
 below : Below w0.heap.size w0 W
 base : w0.heap.size ≤ mb
theorem impl_LeastLoad.M.alloc {n : Int} {g : Bool} {A : Option Addr} {c : Nat} {l : List Int} {b0 bm bh bl mb : Nat} {w0 W : World} {N : Nat} {D : DataW Unit} (h : impl_LeastLoad.M n g A c l b0 bm bh bl mb w0 W N D) (o : Obj) : impl_LeastLoad.M n g A c l b0 bm bh bl mb w0 (W.alloc o) N D :=
 ⟨blk_alloc h.h0 o, blk_alloc h.hm o, blk_alloc h.hh o, blk_alloc h.hl o, h.own.alloc o, h.map, h.good, h.row, below_alloc h.below o, h.base⟩
theorem impl_LeastLoad.M.put {n : Int} {g : Bool} {A : Option Addr} {c : Nat} {l : List Int} {b0 bm bh bl mb : Nat} {w0 W W' : World} {N : Nat} {D : DataW Unit} (h : impl_LeastLoad.M n g A c l b0 bm bh bl mb w0 W N D) (hn : 2 ≤ n ∧ n ≤ 24) {lo hi pl : Int} (hR : impl_LeastLoad.R n lo hi pl)
  (ho : W'.ownsMap Try.prog 89 (plainElem Try.prog 3) mb (N + 1) (D.put (impl_LeastLoad.K lo hi pl) (.lit (.int .i64 (impl_LeastLoad.L n l lo hi pl))))) (hg : W.grownBy W' (some mb)) :
  impl_LeastLoad.M n g A c l b0 bm bh bl mb w0 W' (N + 1) (D.put (impl_LeastLoad.K lo hi pl) (.lit (.int .i64 (impl_LeastLoad.L n l lo hi pl)))) := by
 have hb := h.own
 obtain ⟨es, clock, hb, -⟩ := hb
 have hne : ∀ (b : Nat) (cs : Array Value) (t : TypeId), W.heap[b]? = some (.cells cs t (0, 0)) → some b ≠ some mb := fun b cs t e e' => by
  cases e'
  rw [hb] at e
  cases e
 refine ⟨blk_grown h.h0 hg (hne _ _ _ h.h0), blk_grown h.hm hg (hne _ _ _ h.hm), blk_grown h.hh hg (hne _ _ _ h.hh), blk_grown h.hl hg (hne _ _ _ h.hl), ho, h.map.put _ _, ?_, h.row, h.below.grown hg (below_size h.below) (fun k hk => by cases hk; exact h.base), h.base⟩
 intro lo' hi' pl' hR' hhas
 have k1 := impl_LeastLoad.key hn hR
 have k2 := impl_LeastLoad.key hn hR'
 by_cases e : impl_LeastLoad.K lo' hi' pl' = impl_LeastLoad.K lo hi pl
 rotate_left
 ·rw [Go.Maps.atKey_put_other e]
  refine h.good lo' hi' pl' hR' ?_
  rw [← hhas]
  exact (Go.Maps.has_put_other e _).symm
 have e2 := impl_LeastLoad.law.inj (e ▸ k2) k1
 simp only [Value.agg.injEq, Array.mk.injEq, List.cons.injEq, Value.int.injEq, true_and, and_true] at e2
 obtain ⟨rfl, rfl, rfl⟩ := e2
 exact Go.Maps.atKey_put_same h.map (impl_LeastLoad.law.key k1) _ _
set_option maxHeartbeats 3200000 in
set_option maxRecDepth 100000 in
theorem impl_LeastLoad.fn {n : Int} {g : Bool} {A : Option Addr} {c : Nat} {l : List Int} {b0 bm bh bl mb : Nat} {w0 : World} (hn : 2 ≤ n ∧ n ≤ 24) (hl : (l.length : Int) = n) (hx : ∀ x, x ∈ l → 0 ≤ x ∧ x ≤ 99) : ∀ (d : Nat) (lo hi pl : Int) (W : World) (N : Nat) (D : DataW Unit), impl_LeastLoad.R n lo hi pl → impl_LeastLoad.D n lo hi = d → N + 2 ^ d ≤ 2 ^ 30 → impl_LeastLoad.M n g A c l b0 bm bh bl mb w0 W N D →
  Calls Try.prog 83 #[.int .i64 lo, .int .i64 hi, .int .i64 pl, .pointer (some ⟨b0, 0, none⟩), .pointer (some ⟨bm, 0, none⟩), .pointer (some ⟨bh, 0, none⟩), .pointer (some ⟨bl, 0, none⟩)] W fun e w' => e = .returned (.int .i64 (impl_LeastLoad.L n l lo hi pl)) ∧ ∃ N' D', N' + 1 ≤ N + 2 ^ d ∧ impl_LeastLoad.M n g A c l b0 bm bh bl mb w0 w' N' D' ∧ W.grownBy w' (some mb) := by
 have HN := Aside0.mk hn
 have HL := Aside0.mk hl
 have HX := Aside0.mk hx
 clear hn hl hx
 intro d
 induction d with
 | zero =>
  intro lo hi pl W N D hR hd hN hM
  have HR := Aside0.mk hR
  have HM := Aside0.mk hM
  have hs : impl_LeastLoad.L n l lo hi pl = 0 := by
   unfold impl_LeastLoad.L
   rw [hd]
   rfl
  unfold impl_LeastLoad.D at hd
  have hR' := hR
  obtain ⟨⟨h1, h2, h3⟩, h4, h5⟩ := hR'
  have e1 : lo = 0 := by omega
  have e2 : hi = n - 1 := by omega
  have e0 : W.cell? ⟨b0, 0, none⟩ = some (.int .i64 n) := (blk_cell hM.h0 0).trans rfl
  have hw : IntKind.i64.wrap (n - 1) = n - 1 := (i64_w _).trans (by have := HN.out; unfold wrap64; omega)
  clear hR hM h1 h2 h3 h4 h5 hd
  rw [hs]
  clear hs
  subst e1
  subst e2
  go_enter Try.func83, Try.ntmps83
  go_wp2
  go_ret
  exact ⟨rfl, N, D, by omega, HM.out, ⟨rfl, rfl, rfl, Nat.le_refl _, fun _ _ _ => rfl⟩⟩
 | succ d ih =>
  intro lo hi pl W N D hR hd hN hM
  have HI := Aside0.mk ih
  clear ih
  have HR := Aside0.mk hR
  have HD := Aside0.mk hd
  have HNN := Aside0.mk hN
  have e0 : W.cell? ⟨b0, 0, none⟩ = some (.int .i64 n) := (blk_cell hM.h0 0).trans rfl
  have em : W.cell? ⟨bm, 0, none⟩ = some (.map (some mb)) := (blk_cell hM.hm 0).trans rfl
  have eh : W.cell? ⟨bh, 0, none⟩ = some (.slice A l.length c) := (blk_cell hM.hh 0).trans rfl
  have l0 := blk_lt hM.h0
  have lm := blk_lt hM.hm
  have lh := blk_lt hM.hh
  have HW0 := Aside0.mk hM.own.lt
  have hM1 := hM.alloc (.cells #[.int .i64 lo, .int .i64 hi, .int .i64 pl] 89)
  have HM := Aside0.mk hM1
  have HGOOD := Aside0.mk (hM.good lo hi pl hR)
  have hw : IntKind.i64.wrap (n - 1) = n - 1 := (i64_w _).trans (by have := HN.out; unfold wrap64; omega)
  have hkey := impl_LeastLoad.key HN.out hR
  have hnn : ¬ (lo = 0 ∧ hi = n - 1) := by
   unfold impl_LeastLoad.D at hd
   omega
  have hlo := hR.1.1
  clear hR hM hd hN hM1
  by_cases hh : Go.Maps.has D (impl_LeastLoad.K lo hi pl) = true
  ·have HG := Aside0.mk (HGOOD.out hh)
   by_cases c0 : lo = 0
   rotate_left
   ·clear hnn
    go_enter Try.func83, Try.ntmps83
    go_wp2_with ((at_lookup; refine wpList_lookup_own_ok_int _ rfl _ _ 87 rfl 89 3 .i64 impl_LeastLoad.law Try.underlying87 Try.underlying3 (Try.zeroValue3 _) mb N D rfl HM.out.own _ _ rfl hkey ?_; intro q hat hwc; rw [HG.out] at hat; cases hat; clear hwc))
    go_ret
    exact ⟨rfl, N, D, by have : 0 < 2 ^ (d + 1) := Nat.pow_pos (by omega); omega, HM.out, World.grownBy_alloc W _ (some mb)⟩
   subst c0
   have c1 : ¬ hi = n - 1 := fun h => hnn ⟨rfl, h⟩
   clear hnn
   go_enter Try.func83, Try.ntmps83
   go_wp2_with ((at_lookup; refine wpList_lookup_own_ok_int _ rfl _ _ 87 rfl 89 3 .i64 impl_LeastLoad.law Try.underlying87 Try.underlying3 (Try.zeroValue3 _) mb N D rfl HM.out.own _ _ rfl hkey ?_; intro q hat hwc; rw [HG.out] at hat; cases hat; clear hwc))
   go_ret
   exact ⟨rfl, N, D, by have : 0 < 2 ^ (d + 1) := Nat.pow_pos (by omega); omega, HM.out, World.grownBy_alloc W _ (some mb)⟩
  rw [Bool.not_eq_true] at hh
  by_cases c0 : lo = 0
  ·subst c0
   have c1 : ¬ hi = n - 1 := fun h => hnn ⟨rfl, h⟩
   have c2 : hi < n - 1 := by have := HR.out.1.2.2; omega
   have c3 : ¬ (0 : Int) < 0 := by omega
   clear hnn
   go_enter Try.func83, Try.ntmps83
   go_wp2_with ((at_lookup; refine wpList_lookup_own_ok_int _ rfl _ _ 87 rfl 89 3 .i64 impl_LeastLoad.law Try.underlying87 Try.underlying3 (Try.zeroValue3 _) mb N D rfl HM.out.own _ _ rfl hkey ?_; intro q hat hwc; clear hat hwc))
   go_loopg [14, 15, 16, 42] l.length (fun d v14 v15 v16 v42 w' => ∃ (i : Nat) (s : Int), v14 = .int .i64 s ∧ v42 = .int .i64 (i : Int) ∧ Aside0 (i + d = l.length) ∧ Aside0 (0 ≤ s ∧ s ≤ 99 * (i : Int)) ∧ Aside0 (impl_LeastLoad.left 0 hi (l.drop i) i s = impl_LeastLoad.left 0 hi l 0 0) ∧ Aside0 (w' = W.alloc (.cells #[.int .i64 0, .int .i64 hi, .int .i64 pl] 89)))
   case atStart => exact ⟨0, 0, rfl, rfl, ⟨by omega⟩, ⟨by omega⟩, ⟨by simp⟩, ⟨rfl⟩⟩
   case round =>
    obtain ⟨i, s, rfl, rfl, HDD, HSB, HXX, HWW⟩ := hrel
    have hww := HWW.out
    subst hww
    clear HWW
    by_cases ci : i < l.length
    ·have c0i : (0 : Int) ≤ (i : Int) := by omega
     have c1i : (i : Int) < (l.length : Int) := by omega
     obtain ⟨ad, e, hxx⟩ := Kd.at_int (Kd.C_below HM.out.row HM.out.below) (i : Int) c0i c1i
     cases e
     rw [Int.toNat_natCast] at hxx
     have hd : impl_LeastLoad.left 0 hi (l.drop i) i s = impl_LeastLoad.left 0 hi (l.drop (i + 1)) ((i : Int) + 1) (if (i : Int) < 0 ∨ (i : Int) > hi then s + rd l i else s) := by
      rw [List.drop_eq_getElem_cons ci, impl_LeastLoad.left]
      have : rd l i = l[i] := by
       unfold rd
       rw [Int.toNat_natCast, List.getD_eq_getElem?_getD, List.getElem?_eq_getElem ci]
       rfl
      rw [this]
     have hm : rd l i ∈ l := by
      unfold rd
      rw [Int.toNat_natCast, List.getD_eq_getElem?_getD, List.getElem?_eq_getElem ci]
      exact List.getElem_mem _
     have hb := HX.out _ hm
     rw [hd] at HXX
     clear hd hm
     have hli := HL.out
     have hni := HN.out
     have hsb := HSB.out
     have hw1 : IntKind.i64.wrap ((i : Int) + 1) = (i : Int) + 1 := (i64_w _).trans (by unfold wrap64; omega)
     generalize rd l (i : Int) = x at *
     have hw2 : IntKind.i64.wrap (s + x) = s + x := (i64_w _).trans (by unfold wrap64; omega)
     have HB := Aside0.mk hb
     have HII := Aside0.mk ci
     clear hb ci hli hni hsb
     by_cases c1 : (i : Int) < 0
     ·rw [if_pos (Or.inl c1)] at HXX
      go_wp2_with fail
      go_roundg (gk - 1)
      case measure => have := HDD.out; have := HII.out; omega
      case rel => exact ⟨i + 1, s + x, rfl, rfl, ⟨by have := HDD.out; have := HII.out; omega⟩, ⟨by have := HSB.out; have := HB.out; omega⟩, HXX, ⟨rfl⟩⟩
     by_cases c2 : (i : Int) > hi
     ·rw [if_pos (Or.inr c2)] at HXX
      go_wp2_with fail
      go_roundg (gk - 1)
      case measure => have := HDD.out; have := HII.out; omega
      case rel => exact ⟨i + 1, s + x, rfl, rfl, ⟨by have := HDD.out; have := HII.out; omega⟩, ⟨by have := HSB.out; have := HB.out; omega⟩, HXX, ⟨rfl⟩⟩
     rw [if_neg (fun h => h.elim c1 c2)] at HXX
     go_wp2_with fail
     go_roundg (gk - 1)
     case measure => have := HDD.out; have := HII.out; omega
     case rel => exact ⟨i + 1, s, rfl, rfl, ⟨by have := HDD.out; have := HII.out; omega⟩, ⟨by have := HSB.out; have := HB.out; omega⟩, HXX, ⟨rfl⟩⟩
    have ci' : ¬ (i : Int) < (l.length : Int) := by omega
    have hx' := HXX.out
    rw [List.drop_eq_nil_of_le (by omega), impl_LeastLoad.left] at hx'
    have hb := impl_LeastLoad.left_b 0 hi l 0 0 HX.out
    have hv : 0 ≤ s ∧ s ≤ 2376 := by have := HN.out; have := HL.out; omega
    have hS : impl_LeastLoad.L n l 0 hi pl = _ := congrArg (fun d => impl_LeastLoad.least n l d 0 hi pl) HD.out
    rw [impl_LeastLoad.least, ← hx'] at hS
    clear hx' hb ci HXX HSB HDD
    obtain ⟨⟨r1, r2, r3⟩, r4, r5⟩ := HR.out
    have hn := HN.out
    have hd := HD.out
    unfold impl_LeastLoad.D at hd
    have hN := HNN.out
    rw [Nat.pow_succ] at hN
    rw [if_pos c2, if_neg (by omega)] at hS
    have d2 : impl_LeastLoad.D n 0 (hi + 1) = d := by unfold impl_LeastLoad.D; omega
    have b2 := impl_LeastLoad.least_b HN.out HL.out HX.out d 0 (hi + 1) (hi + 1) ⟨⟨by omega, by omega, by omega⟩, by omega, by omega⟩ d2
    have m2 := impl_LeastLoad.mul_b hv (show 0 ≤ hi + 1 - pl ∧ hi + 1 - pl ≤ 24 by omega)
    have HC2 := Aside0.mk (fun W N D h h' => HI.out 0 (hi + 1) (hi + 1) W N D ⟨⟨by omega, by omega, by omega⟩, by omega, by omega⟩ d2 h h')
    have hl2 : impl_LeastLoad.L n l 0 (hi + 1) (hi + 1) = impl_LeastLoad.least n l d 0 (hi + 1) (hi + 1) := by unfold impl_LeastLoad.L; rw [d2]
    rw [hl2] at HC2
    generalize impl_LeastLoad.least n l d 0 (hi + 1) (hi + 1) = L2 at *
    have v1 : IntKind.i64.wrap (hi + 1) = hi + 1 := (i64_w _).trans (by unfold wrap64; omega)
    have v2 : IntKind.i64.wrap (hi + 1 - pl) = hi + 1 - pl := (i64_w _).trans (by unfold wrap64; omega)
    generalize hq2 : hi + 1 - pl = q2 at *
    have v4 : IntKind.i64.wrap (s * q2) = s * q2 := (i64_w _).trans (by unfold wrap64; omega)
    generalize hp2 : s * q2 = p2 at *
    have v5 : IntKind.i64.wrap (p2 + L2) = p2 + L2 := (i64_w _).trans (by have := HD.out; unfold impl_LeastLoad.D at this; unfold wrap64; omega)
    have HBN := Aside0.mk hN
    have HV := Aside0.mk hv
    have g1 := World.grownBy_alloc W (.cells #[.int .i64 0, .int .i64 hi, .int .i64 pl] 89) (some mb)
    have G1 := Aside0.mk g1
    have hnk := blk_new W (.cells #[.int .i64 0, .int .i64 hi, .int .i64 pl] 89)
    have HNK := Aside0.mk hnk
    have hlt := HM.out.own.lt
    have HLT := Aside0.mk (show some W.heap.size ≠ some mb from fun e => by cases e; have := HW0.out; omega)
    clear g1 hnk hlt
    have HS := Aside0.mk hS
    clear hS
    have WFR := Aside0.mk (show (Lit.int .i64 (impl_LeastLoad.L n l 0 hi pl)).wf = true from WalkArith.wf_i64 (by have := impl_LeastLoad.least_b HN.out HL.out HX.out (d + 1) 0 hi pl HR.out HD.out; unfold impl_LeastLoad.L; rw [HD.out]; omega))
    clear hv hn hd r1 r2 r3 r4 r5 hN b2 m2 d2 hl2
    have el_1 : (W.alloc (.cells #[.int .i64 0, .int .i64 hi, .int .i64 pl] 89)).cell? ⟨bl, 0, none⟩ = some (.func (.func 83) #[] #[.pointer (some ⟨b0, 0, none⟩), .pointer (some ⟨bm, 0, none⟩), .pointer (some ⟨bh, 0, none⟩), .pointer (some ⟨bl, 0, none⟩)]) := (blk_cell HM.out.hl 0).trans rfl
    have e0_1 : (W.alloc (.cells #[.int .i64 0, .int .i64 hi, .int .i64 pl] 89)).cell? ⟨b0, 0, none⟩ = some (.int .i64 n) := (blk_cell HM.out.h0 0).trans rfl
    go_wp2_with fail
    refine (HC2.out _ _ _ (by have := HBN.out; omega) HM.out).mono ?_
    rintro e w3 ⟨rfl, N3, D3, hN3, hM3, hG3⟩
    have HN3 := Aside0.mk hN3
    have HM3 := Aside0.mk hM3
    have G3 := Aside0.mk (G1.out.trans hG3)
    have hk3 := blk_grown HNK.out hG3 HLT.out
    have HK3 := Aside0.mk hk3
    have e0_w3 : w3.cell? ⟨b0, 0, none⟩ = some (.int .i64 n) := (blk_cell HM3.out.h0 0).trans rfl
    have em_w3 : w3.cell? ⟨bm, 0, none⟩ = some (.map (some mb)) := (blk_cell HM3.out.hm 0).trans rfl
    have el_w3 : w3.cell? ⟨bl, 0, none⟩ = some (.func (.func 83) #[] #[.pointer (some ⟨b0, 0, none⟩), .pointer (some ⟨bm, 0, none⟩), .pointer (some ⟨bh, 0, none⟩), .pointer (some ⟨bl, 0, none⟩)]) := (blk_cell HM3.out.hl 0).trans rfl
    have k0_w3 : w3.cell? ⟨W.heap.size, 0, none⟩ = some (.int .i64 0) := (blk_cell HK3.out 0).trans rfl
    have k1_w3 : w3.cell? ⟨W.heap.size, 1, none⟩ = some (.int .i64 hi) := (blk_cell HK3.out 1).trans rfl
    have k2_w3 : w3.cell? ⟨W.heap.size, 2, none⟩ = some (.int .i64 pl) := (blk_cell HK3.out 2).trans rfl
    clear hN3 hM3 hG3 hk3
    go_wp2_with ((at_mapUpdate; refine wpList_mapUpdate_own _ rfl _ _ _ 87 rfl 89 3 impl_LeastLoad.law Try.underlying87 _ mb N3 D3 rfl HM3.out.own (by unfold maxLen; have := HN3.out; have := HBN.out; omega) _ _ _ rfl rfl hkey _ [] (plainElem_int Try.underlying3 (HS.out ▸ WFR.out)) ?_; intro w9 hown9 hgrow9; have HO9 := Aside0.mk hown9; have HG9 := Aside0.mk hgrow9; clear hown9 hgrow9))
    go_ret
    refine ⟨by rw [HS.out]; rfl, N3 + 1, _, by have := HN3.out; clear HNN; rw [Nat.pow_succ]; have := HBN.out; have := Nat.pow_pos (n := d) (show 0 < 2 by omega); omega, HM3.out.put HN.out HR.out (by rw [HS.out]; exact HO9.out) HG9.out, G3.out.trans HG9.out⟩
  have c3 : 0 < lo := by omega
  clear hnn hlo
  by_cases c2 : hi < n - 1
  rotate_left
  ·skip
   go_enter Try.func83, Try.ntmps83
   go_wp2_with ((at_lookup; refine wpList_lookup_own_ok_int _ rfl _ _ 87 rfl 89 3 .i64 impl_LeastLoad.law Try.underlying87 Try.underlying3 (Try.zeroValue3 _) mb N D rfl HM.out.own _ _ rfl hkey ?_; intro q hat hwc; clear hat hwc))
   go_loopg [14, 15, 16, 42] l.length (fun d v14 v15 v16 v42 w' => ∃ (i : Nat) (s : Int), v14 = .int .i64 s ∧ v42 = .int .i64 (i : Int) ∧ Aside0 (i + d = l.length) ∧ Aside0 (0 ≤ s ∧ s ≤ 99 * (i : Int)) ∧ Aside0 (impl_LeastLoad.left lo hi (l.drop i) i s = impl_LeastLoad.left lo hi l 0 0) ∧ Aside0 (w' = W.alloc (.cells #[.int .i64 lo, .int .i64 hi, .int .i64 pl] 89)))
   case atStart => exact ⟨0, 0, rfl, rfl, ⟨by omega⟩, ⟨by omega⟩, ⟨by simp⟩, ⟨rfl⟩⟩
   case round =>
    obtain ⟨i, s, rfl, rfl, HDD, HSB, HXX, HWW⟩ := hrel
    have hww := HWW.out
    subst hww
    clear HWW
    by_cases ci : i < l.length
    ·have c0i : (0 : Int) ≤ (i : Int) := by omega
     have c1i : (i : Int) < (l.length : Int) := by omega
     obtain ⟨ad, e, hxx⟩ := Kd.at_int (Kd.C_below HM.out.row HM.out.below) (i : Int) c0i c1i
     cases e
     rw [Int.toNat_natCast] at hxx
     have hd : impl_LeastLoad.left lo hi (l.drop i) i s = impl_LeastLoad.left lo hi (l.drop (i + 1)) ((i : Int) + 1) (if (i : Int) < lo ∨ (i : Int) > hi then s + rd l i else s) := by
      rw [List.drop_eq_getElem_cons ci, impl_LeastLoad.left]
      have : rd l i = l[i] := by
       unfold rd
       rw [Int.toNat_natCast, List.getD_eq_getElem?_getD, List.getElem?_eq_getElem ci]
       rfl
      rw [this]
     have hm : rd l i ∈ l := by
      unfold rd
      rw [Int.toNat_natCast, List.getD_eq_getElem?_getD, List.getElem?_eq_getElem ci]
      exact List.getElem_mem _
     have hb := HX.out _ hm
     rw [hd] at HXX
     clear hd hm
     have hli := HL.out
     have hni := HN.out
     have hsb := HSB.out
     have hw1 : IntKind.i64.wrap ((i : Int) + 1) = (i : Int) + 1 := (i64_w _).trans (by unfold wrap64; omega)
     generalize rd l (i : Int) = x at *
     have hw2 : IntKind.i64.wrap (s + x) = s + x := (i64_w _).trans (by unfold wrap64; omega)
     have HB := Aside0.mk hb
     have HII := Aside0.mk ci
     clear hb ci hli hni hsb
     by_cases c1 : (i : Int) < lo
     ·rw [if_pos (Or.inl c1)] at HXX
      go_wp2_with fail
      go_roundg (gk - 1)
      case measure => have := HDD.out; have := HII.out; omega
      case rel => exact ⟨i + 1, s + x, rfl, rfl, ⟨by have := HDD.out; have := HII.out; omega⟩, ⟨by have := HSB.out; have := HB.out; omega⟩, HXX, ⟨rfl⟩⟩
     by_cases c2 : (i : Int) > hi
     ·rw [if_pos (Or.inr c2)] at HXX
      go_wp2_with fail
      go_roundg (gk - 1)
      case measure => have := HDD.out; have := HII.out; omega
      case rel => exact ⟨i + 1, s + x, rfl, rfl, ⟨by have := HDD.out; have := HII.out; omega⟩, ⟨by have := HSB.out; have := HB.out; omega⟩, HXX, ⟨rfl⟩⟩
     rw [if_neg (fun h => h.elim c1 c2)] at HXX
     go_wp2_with fail
     go_roundg (gk - 1)
     case measure => have := HDD.out; have := HII.out; omega
     case rel => exact ⟨i + 1, s, rfl, rfl, ⟨by have := HDD.out; have := HII.out; omega⟩, ⟨by have := HSB.out; have := HB.out; omega⟩, HXX, ⟨rfl⟩⟩
    have ci' : ¬ (i : Int) < (l.length : Int) := by omega
    have hx' := HXX.out
    rw [List.drop_eq_nil_of_le (by omega), impl_LeastLoad.left] at hx'
    have hb := impl_LeastLoad.left_b lo hi l 0 0 HX.out
    have hv : 0 ≤ s ∧ s ≤ 2376 := by have := HN.out; have := HL.out; omega
    have hS : impl_LeastLoad.L n l lo hi pl = _ := congrArg (fun d => impl_LeastLoad.least n l d lo hi pl) HD.out
    rw [impl_LeastLoad.least, ← hx'] at hS
    clear hx' hb ci HXX HSB HDD
    obtain ⟨⟨r1, r2, r3⟩, r4, r5⟩ := HR.out
    have hn := HN.out
    have hd := HD.out
    unfold impl_LeastLoad.D at hd
    have hN := HNN.out
    rw [Nat.pow_succ] at hN
    rw [if_neg (show ¬ hi < n - 1 by omega)] at hS
    have d1 : impl_LeastLoad.D n (lo - 1) hi = d := by unfold impl_LeastLoad.D; omega
    have b1 := impl_LeastLoad.least_b HN.out HL.out HX.out d (lo - 1) hi (lo - 1) ⟨⟨by omega, by omega, by omega⟩, by omega, by omega⟩ d1
    have m1 := impl_LeastLoad.mul_b hv (show 0 ≤ pl - lo + 1 ∧ pl - lo + 1 ≤ 24 by omega)
    have HC1 := Aside0.mk (fun W N D h h' => HI.out (lo - 1) hi (lo - 1) W N D ⟨⟨by omega, by omega, by omega⟩, by omega, by omega⟩ d1 h h')
    have hl1 : impl_LeastLoad.L n l (lo - 1) hi (lo - 1) = impl_LeastLoad.least n l d (lo - 1) hi (lo - 1) := by unfold impl_LeastLoad.L; rw [d1]
    rw [hl1] at HC1
    generalize impl_LeastLoad.least n l d (lo - 1) hi (lo - 1) = L1 at *
    have u1 : IntKind.i64.wrap (pl - lo) = pl - lo := (i64_w _).trans (by unfold wrap64; omega)
    have u2 : IntKind.i64.wrap (pl - lo + 1) = pl - lo + 1 := (i64_w _).trans (by unfold wrap64; omega)
    have u3 : IntKind.i64.wrap (lo - 1) = lo - 1 := (i64_w _).trans (by unfold wrap64; omega)
    generalize hq1 : pl - lo + 1 = q1 at *
    have u4 : IntKind.i64.wrap (s * q1) = s * q1 := (i64_w _).trans (by unfold wrap64; omega)
    generalize hp1 : s * q1 = p1 at *
    have u5 : IntKind.i64.wrap (p1 + L1) = p1 + L1 := (i64_w _).trans (by have := HD.out; unfold impl_LeastLoad.D at this; unfold wrap64; omega)
    have HBN := Aside0.mk hN
    have HV := Aside0.mk hv
    have g1 := World.grownBy_alloc W (.cells #[.int .i64 lo, .int .i64 hi, .int .i64 pl] 89) (some mb)
    have G1 := Aside0.mk g1
    have hnk := blk_new W (.cells #[.int .i64 lo, .int .i64 hi, .int .i64 pl] 89)
    have HNK := Aside0.mk hnk
    have hlt := HM.out.own.lt
    have HLT := Aside0.mk (show some W.heap.size ≠ some mb from fun e => by cases e; have := HW0.out; omega)
    clear g1 hnk hlt
    have HS := Aside0.mk hS
    clear hS
    have WFR := Aside0.mk (show (Lit.int .i64 (impl_LeastLoad.L n l lo hi pl)).wf = true from WalkArith.wf_i64 (by have := impl_LeastLoad.least_b HN.out HL.out HX.out (d + 1) lo hi pl HR.out HD.out; unfold impl_LeastLoad.L; rw [HD.out]; omega))
    clear hv hn hd r1 r2 r3 r4 r5 hN b1 m1 d1 hl1
    have el_1 : (W.alloc (.cells #[.int .i64 lo, .int .i64 hi, .int .i64 pl] 89)).cell? ⟨bl, 0, none⟩ = some (.func (.func 83) #[] #[.pointer (some ⟨b0, 0, none⟩), .pointer (some ⟨bm, 0, none⟩), .pointer (some ⟨bh, 0, none⟩), .pointer (some ⟨bl, 0, none⟩)]) := (blk_cell HM.out.hl 0).trans rfl
    have e0_1 : (W.alloc (.cells #[.int .i64 lo, .int .i64 hi, .int .i64 pl] 89)).cell? ⟨b0, 0, none⟩ = some (.int .i64 n) := (blk_cell HM.out.h0 0).trans rfl
    go_wp2_with fail
    refine (HC1.out _ _ _ (by have := HBN.out; omega) HM.out).mono ?_
    rintro e w3 ⟨rfl, N3, D3, hN3, hM3, hG3⟩
    have HN3 := Aside0.mk hN3
    have HM3 := Aside0.mk hM3
    have G3 := Aside0.mk (G1.out.trans hG3)
    have hk3 := blk_grown HNK.out hG3 HLT.out
    have HK3 := Aside0.mk hk3
    have e0_w3 : w3.cell? ⟨b0, 0, none⟩ = some (.int .i64 n) := (blk_cell HM3.out.h0 0).trans rfl
    have em_w3 : w3.cell? ⟨bm, 0, none⟩ = some (.map (some mb)) := (blk_cell HM3.out.hm 0).trans rfl
    have el_w3 : w3.cell? ⟨bl, 0, none⟩ = some (.func (.func 83) #[] #[.pointer (some ⟨b0, 0, none⟩), .pointer (some ⟨bm, 0, none⟩), .pointer (some ⟨bh, 0, none⟩), .pointer (some ⟨bl, 0, none⟩)]) := (blk_cell HM3.out.hl 0).trans rfl
    have k0_w3 : w3.cell? ⟨W.heap.size, 0, none⟩ = some (.int .i64 lo) := (blk_cell HK3.out 0).trans rfl
    have k1_w3 : w3.cell? ⟨W.heap.size, 1, none⟩ = some (.int .i64 hi) := (blk_cell HK3.out 1).trans rfl
    have k2_w3 : w3.cell? ⟨W.heap.size, 2, none⟩ = some (.int .i64 pl) := (blk_cell HK3.out 2).trans rfl
    clear hN3 hM3 hG3 hk3
    go_wp2_with ((at_mapUpdate; refine wpList_mapUpdate_own _ rfl _ _ _ 87 rfl 89 3 impl_LeastLoad.law Try.underlying87 _ mb N3 D3 rfl HM3.out.own (by unfold maxLen; have := HN3.out; have := HBN.out; omega) _ _ _ rfl rfl hkey _ [] (plainElem_int Try.underlying3 (HS.out ▸ WFR.out)) ?_; intro w9 hown9 hgrow9; have HO9 := Aside0.mk hown9; have HG9 := Aside0.mk hgrow9; clear hown9 hgrow9))
    go_ret
    refine ⟨by rw [HS.out]; rfl, N3 + 1, _, by have := HN3.out; clear HNN; rw [Nat.pow_succ]; have := HBN.out; have := Nat.pow_pos (n := d) (show 0 < 2 by omega); omega, HM3.out.put HN.out HR.out (by rw [HS.out]; exact HO9.out) HG9.out, G3.out.trans HG9.out⟩
  skip
  go_enter Try.func83, Try.ntmps83
  go_wp2_with ((at_lookup; refine wpList_lookup_own_ok_int _ rfl _ _ 87 rfl 89 3 .i64 impl_LeastLoad.law Try.underlying87 Try.underlying3 (Try.zeroValue3 _) mb N D rfl HM.out.own _ _ rfl hkey ?_; intro q hat hwc; clear hat hwc))
  go_loopg [14, 15, 16, 42] l.length (fun d v14 v15 v16 v42 w' => ∃ (i : Nat) (s : Int), v14 = .int .i64 s ∧ v42 = .int .i64 (i : Int) ∧ Aside0 (i + d = l.length) ∧ Aside0 (0 ≤ s ∧ s ≤ 99 * (i : Int)) ∧ Aside0 (impl_LeastLoad.left lo hi (l.drop i) i s = impl_LeastLoad.left lo hi l 0 0) ∧ Aside0 (w' = W.alloc (.cells #[.int .i64 lo, .int .i64 hi, .int .i64 pl] 89)))
  case atStart => exact ⟨0, 0, rfl, rfl, ⟨by omega⟩, ⟨by omega⟩, ⟨by simp⟩, ⟨rfl⟩⟩
  case round =>
   obtain ⟨i, s, rfl, rfl, HDD, HSB, HXX, HWW⟩ := hrel
   have hww := HWW.out
   subst hww
   clear HWW
   by_cases ci : i < l.length
   ·have c0i : (0 : Int) ≤ (i : Int) := by omega
    have c1i : (i : Int) < (l.length : Int) := by omega
    obtain ⟨ad, e, hxx⟩ := Kd.at_int (Kd.C_below HM.out.row HM.out.below) (i : Int) c0i c1i
    cases e
    rw [Int.toNat_natCast] at hxx
    have hd : impl_LeastLoad.left lo hi (l.drop i) i s = impl_LeastLoad.left lo hi (l.drop (i + 1)) ((i : Int) + 1) (if (i : Int) < lo ∨ (i : Int) > hi then s + rd l i else s) := by
     rw [List.drop_eq_getElem_cons ci, impl_LeastLoad.left]
     have : rd l i = l[i] := by
      unfold rd
      rw [Int.toNat_natCast, List.getD_eq_getElem?_getD, List.getElem?_eq_getElem ci]
      rfl
     rw [this]
    have hm : rd l i ∈ l := by
     unfold rd
     rw [Int.toNat_natCast, List.getD_eq_getElem?_getD, List.getElem?_eq_getElem ci]
     exact List.getElem_mem _
    have hb := HX.out _ hm
    rw [hd] at HXX
    clear hd hm
    have hli := HL.out
    have hni := HN.out
    have hsb := HSB.out
    have hw1 : IntKind.i64.wrap ((i : Int) + 1) = (i : Int) + 1 := (i64_w _).trans (by unfold wrap64; omega)
    generalize rd l (i : Int) = x at *
    have hw2 : IntKind.i64.wrap (s + x) = s + x := (i64_w _).trans (by unfold wrap64; omega)
    have HB := Aside0.mk hb
    have HII := Aside0.mk ci
    clear hb ci hli hni hsb
    by_cases c1 : (i : Int) < lo
    ·rw [if_pos (Or.inl c1)] at HXX
     go_wp2_with fail
     go_roundg (gk - 1)
     case measure => have := HDD.out; have := HII.out; omega
     case rel => exact ⟨i + 1, s + x, rfl, rfl, ⟨by have := HDD.out; have := HII.out; omega⟩, ⟨by have := HSB.out; have := HB.out; omega⟩, HXX, ⟨rfl⟩⟩
    by_cases c2 : (i : Int) > hi
    ·rw [if_pos (Or.inr c2)] at HXX
     go_wp2_with fail
     go_roundg (gk - 1)
     case measure => have := HDD.out; have := HII.out; omega
     case rel => exact ⟨i + 1, s + x, rfl, rfl, ⟨by have := HDD.out; have := HII.out; omega⟩, ⟨by have := HSB.out; have := HB.out; omega⟩, HXX, ⟨rfl⟩⟩
    rw [if_neg (fun h => h.elim c1 c2)] at HXX
    go_wp2_with fail
    go_roundg (gk - 1)
    case measure => have := HDD.out; have := HII.out; omega
    case rel => exact ⟨i + 1, s, rfl, rfl, ⟨by have := HDD.out; have := HII.out; omega⟩, ⟨by have := HSB.out; have := HB.out; omega⟩, HXX, ⟨rfl⟩⟩
   have ci' : ¬ (i : Int) < (l.length : Int) := by omega
   have hx' := HXX.out
   rw [List.drop_eq_nil_of_le (by omega), impl_LeastLoad.left] at hx'
   have hb := impl_LeastLoad.left_b lo hi l 0 0 HX.out
   have hv : 0 ≤ s ∧ s ≤ 2376 := by have := HN.out; have := HL.out; omega
   have hS : impl_LeastLoad.L n l lo hi pl = _ := congrArg (fun d => impl_LeastLoad.least n l d lo hi pl) HD.out
   rw [impl_LeastLoad.least, ← hx'] at hS
   clear hx' hb ci HXX HSB HDD
   obtain ⟨⟨r1, r2, r3⟩, r4, r5⟩ := HR.out
   have hn := HN.out
   have hd := HD.out
   unfold impl_LeastLoad.D at hd
   have hN := HNN.out
   rw [Nat.pow_succ] at hN
   rw [if_pos c2, if_pos (by omega)] at hS
   have d1 : impl_LeastLoad.D n (lo - 1) hi = d := by unfold impl_LeastLoad.D; omega
   have b1 := impl_LeastLoad.least_b HN.out HL.out HX.out d (lo - 1) hi (lo - 1) ⟨⟨by omega, by omega, by omega⟩, by omega, by omega⟩ d1
   have m1 := impl_LeastLoad.mul_b hv (show 0 ≤ pl - lo + 1 ∧ pl - lo + 1 ≤ 24 by omega)
   have HC1 := Aside0.mk (fun W N D h h' => HI.out (lo - 1) hi (lo - 1) W N D ⟨⟨by omega, by omega, by omega⟩, by omega, by omega⟩ d1 h h')
   have hl1 : impl_LeastLoad.L n l (lo - 1) hi (lo - 1) = impl_LeastLoad.least n l d (lo - 1) hi (lo - 1) := by unfold impl_LeastLoad.L; rw [d1]
   rw [hl1] at HC1
   generalize impl_LeastLoad.least n l d (lo - 1) hi (lo - 1) = L1 at *
   have u1 : IntKind.i64.wrap (pl - lo) = pl - lo := (i64_w _).trans (by unfold wrap64; omega)
   have u2 : IntKind.i64.wrap (pl - lo + 1) = pl - lo + 1 := (i64_w _).trans (by unfold wrap64; omega)
   have u3 : IntKind.i64.wrap (lo - 1) = lo - 1 := (i64_w _).trans (by unfold wrap64; omega)
   generalize hq1 : pl - lo + 1 = q1 at *
   have u4 : IntKind.i64.wrap (s * q1) = s * q1 := (i64_w _).trans (by unfold wrap64; omega)
   generalize hp1 : s * q1 = p1 at *
   have u5 : IntKind.i64.wrap (p1 + L1) = p1 + L1 := (i64_w _).trans (by have := HD.out; unfold impl_LeastLoad.D at this; unfold wrap64; omega)
   have d2 : impl_LeastLoad.D n lo (hi + 1) = d := by unfold impl_LeastLoad.D; omega
   have b2 := impl_LeastLoad.least_b HN.out HL.out HX.out d lo (hi + 1) (hi + 1) ⟨⟨by omega, by omega, by omega⟩, by omega, by omega⟩ d2
   have m2 := impl_LeastLoad.mul_b hv (show 0 ≤ hi + 1 - pl ∧ hi + 1 - pl ≤ 24 by omega)
   have HC2 := Aside0.mk (fun W N D h h' => HI.out lo (hi + 1) (hi + 1) W N D ⟨⟨by omega, by omega, by omega⟩, by omega, by omega⟩ d2 h h')
   have hl2 : impl_LeastLoad.L n l lo (hi + 1) (hi + 1) = impl_LeastLoad.least n l d lo (hi + 1) (hi + 1) := by unfold impl_LeastLoad.L; rw [d2]
   rw [hl2] at HC2
   generalize impl_LeastLoad.least n l d lo (hi + 1) (hi + 1) = L2 at *
   have v1 : IntKind.i64.wrap (hi + 1) = hi + 1 := (i64_w _).trans (by unfold wrap64; omega)
   have v2 : IntKind.i64.wrap (hi + 1 - pl) = hi + 1 - pl := (i64_w _).trans (by unfold wrap64; omega)
   generalize hq2 : hi + 1 - pl = q2 at *
   have v4 : IntKind.i64.wrap (s * q2) = s * q2 := (i64_w _).trans (by unfold wrap64; omega)
   generalize hp2 : s * q2 = p2 at *
   have v5 : IntKind.i64.wrap (p2 + L2) = p2 + L2 := (i64_w _).trans (by have := HD.out; unfold impl_LeastLoad.D at this; unfold wrap64; omega)
   have HBN := Aside0.mk hN
   have HV := Aside0.mk hv
   have g1 := World.grownBy_alloc W (.cells #[.int .i64 lo, .int .i64 hi, .int .i64 pl] 89) (some mb)
   have G1 := Aside0.mk g1
   have hnk := blk_new W (.cells #[.int .i64 lo, .int .i64 hi, .int .i64 pl] 89)
   have HNK := Aside0.mk hnk
   have hlt := HM.out.own.lt
   have HLT := Aside0.mk (show some W.heap.size ≠ some mb from fun e => by cases e; have := HW0.out; omega)
   clear g1 hnk hlt
   have HS := Aside0.mk hS
   clear hS
   have WFR := Aside0.mk (show (Lit.int .i64 (impl_LeastLoad.L n l lo hi pl)).wf = true from WalkArith.wf_i64 (by have := impl_LeastLoad.least_b HN.out HL.out HX.out (d + 1) lo hi pl HR.out HD.out; unfold impl_LeastLoad.L; rw [HD.out]; omega))
   have B1 := Aside0.mk (show 0 ≤ p1 + L1 by omega)
   clear hv hn hd r1 r2 r3 r4 r5 hN b1 m1 d1 hl1 b2 m2 d2 hl2
   have el_1 : (W.alloc (.cells #[.int .i64 lo, .int .i64 hi, .int .i64 pl] 89)).cell? ⟨bl, 0, none⟩ = some (.func (.func 83) #[] #[.pointer (some ⟨b0, 0, none⟩), .pointer (some ⟨bm, 0, none⟩), .pointer (some ⟨bh, 0, none⟩), .pointer (some ⟨bl, 0, none⟩)]) := (blk_cell HM.out.hl 0).trans rfl
   have e0_1 : (W.alloc (.cells #[.int .i64 lo, .int .i64 hi, .int .i64 pl] 89)).cell? ⟨b0, 0, none⟩ = some (.int .i64 n) := (blk_cell HM.out.h0 0).trans rfl
   go_wp2_with fail
   refine (HC1.out _ _ _ (by have := HBN.out; omega) HM.out).mono ?_
   rintro e w3 ⟨rfl, N3, D3, hN3, hM3, hG3⟩
   have HN3 := Aside0.mk hN3
   have HM3 := Aside0.mk hM3
   have G3 := Aside0.mk (G1.out.trans hG3)
   have hk3 := blk_grown HNK.out hG3 HLT.out
   have HK3 := Aside0.mk hk3
   have e0_w3 : w3.cell? ⟨b0, 0, none⟩ = some (.int .i64 n) := (blk_cell HM3.out.h0 0).trans rfl
   have em_w3 : w3.cell? ⟨bm, 0, none⟩ = some (.map (some mb)) := (blk_cell HM3.out.hm 0).trans rfl
   have el_w3 : w3.cell? ⟨bl, 0, none⟩ = some (.func (.func 83) #[] #[.pointer (some ⟨b0, 0, none⟩), .pointer (some ⟨bm, 0, none⟩), .pointer (some ⟨bh, 0, none⟩), .pointer (some ⟨bl, 0, none⟩)]) := (blk_cell HM3.out.hl 0).trans rfl
   have k0_w3 : w3.cell? ⟨W.heap.size, 0, none⟩ = some (.int .i64 lo) := (blk_cell HK3.out 0).trans rfl
   have k1_w3 : w3.cell? ⟨W.heap.size, 1, none⟩ = some (.int .i64 hi) := (blk_cell HK3.out 1).trans rfl
   have k2_w3 : w3.cell? ⟨W.heap.size, 2, none⟩ = some (.int .i64 pl) := (blk_cell HK3.out 2).trans rfl
   clear hN3 hM3 hG3 hk3
   go_wp2_with fail
   refine (HC2.out _ _ _ (by have := HBN.out; have := HN3.out; omega) HM3.out).mono ?_
   rintro e w4 ⟨rfl, N4, D4, hN4, hM4, hG4⟩
   have HN4 := Aside0.mk hN4
   have HM4 := Aside0.mk hM4
   have G4 := Aside0.mk (G3.out.trans hG4)
   have hk4 := blk_grown HK3.out hG4 HLT.out
   have HK4 := Aside0.mk hk4
   have e0_w4 : w4.cell? ⟨b0, 0, none⟩ = some (.int .i64 n) := (blk_cell HM4.out.h0 0).trans rfl
   have em_w4 : w4.cell? ⟨bm, 0, none⟩ = some (.map (some mb)) := (blk_cell HM4.out.hm 0).trans rfl
   have el_w4 : w4.cell? ⟨bl, 0, none⟩ = some (.func (.func 83) #[] #[.pointer (some ⟨b0, 0, none⟩), .pointer (some ⟨bm, 0, none⟩), .pointer (some ⟨bh, 0, none⟩), .pointer (some ⟨bl, 0, none⟩)]) := (blk_cell HM4.out.hl 0).trans rfl
   have k0_w4 : w4.cell? ⟨W.heap.size, 0, none⟩ = some (.int .i64 lo) := (blk_cell HK4.out 0).trans rfl
   have k1_w4 : w4.cell? ⟨W.heap.size, 1, none⟩ = some (.int .i64 hi) := (blk_cell HK4.out 1).trans rfl
   have k2_w4 : w4.cell? ⟨W.heap.size, 2, none⟩ = some (.int .i64 pl) := (blk_cell HK4.out 2).trans rfl
   clear hN4 hM4 hG4 hk4
   have nb : ¬ p1 + L1 < 0 := by have := B1.out; omega
   by_cases cc : p2 + L2 < p1 + L1
   rotate_left
   ·rw [if_neg cc] at HS
    go_wp2_with ((at_mapUpdate; refine wpList_mapUpdate_own _ rfl _ _ _ 87 rfl 89 3 impl_LeastLoad.law Try.underlying87 _ mb N4 D4 rfl HM4.out.own (by unfold maxLen; have := HN4.out; have := HN3.out; have := HBN.out; omega) _ _ _ rfl rfl hkey _ [] (plainElem_int Try.underlying3 (HS.out ▸ WFR.out)) ?_; intro w9 hown9 hgrow9; have HO9 := Aside0.mk hown9; have HG9 := Aside0.mk hgrow9; clear hown9 hgrow9))
    go_ret
    refine ⟨by rw [HS.out]; rfl, N4 + 1, _, by have := HN4.out; have := HN3.out; clear HNN; rw [Nat.pow_succ]; have := HBN.out; have := Nat.pow_pos (n := d) (show 0 < 2 by omega); omega, HM4.out.put HN.out HR.out (by rw [HS.out]; exact HO9.out) HG9.out, G4.out.trans HG9.out⟩
   rw [if_pos cc] at HS
   go_wp2_with ((at_mapUpdate; refine wpList_mapUpdate_own _ rfl _ _ _ 87 rfl 89 3 impl_LeastLoad.law Try.underlying87 _ mb N4 D4 rfl HM4.out.own (by unfold maxLen; have := HN4.out; have := HN3.out; have := HBN.out; omega) _ _ _ rfl rfl hkey _ [] (plainElem_int Try.underlying3 (HS.out ▸ WFR.out)) ?_; intro w9 hown9 hgrow9; have HO9 := Aside0.mk hown9; have HG9 := Aside0.mk hgrow9; clear hown9 hgrow9))
   go_ret
   refine ⟨by rw [HS.out]; rfl, N4 + 1, _, by have := HN4.out; have := HN3.out; clear HNN; rw [Nat.pow_succ]; have := HBN.out; have := Nat.pow_pos (n := d) (show 0 < 2 by omega); omega, HM4.out.put HN.out HR.out (by rw [HS.out]; exact HO9.out) HG9.out, G4.out.trans HG9.out⟩
def impl_LeastLoad.f (k : Nat) (a0_0 : Int) (a0_1 : Bool) (a1 : Int) (l2 : List Int) : Option (Int × Bool) :=
 (impl_isStart.f k a0_0 a0_1 a1).bind fun t1 => if t1 = true then ((impl_Road_areHefts.f k a0_0 a0_1 l2).bind fun t2 => if t2 = true then (if (2 ≤ a0_0 ∧ a0_0 ≤ 24) ∧ (0 ≤ a1 ∧ a1 ≤ a0_0 - 1) ∧ (l2.length : Int) = a0_0 ∧ ∀ x, x ∈ l2 → 0 ≤ x ∧ x ≤ 99 then some (impl_LeastLoad.L a0_0 l2 a1 a1 a1, true) else none) else some (0, false)) else some (0, false)
set_option maxHeartbeats 3200000 in
set_option maxRecDepth 100000 in
theorem impl_LeastLoad.calls (k : Nat) (a0_0 : Int) (a0_1 : Bool) (a1 : Int) (A2 : Option Addr) (c2 : Nat) (l2 : List Int) (r1 : Int) (r2 : Bool) (w : World) (hr2 : Kd.C (Kd.int .i64) w A2 l2.length l2) (hc2 : l2.length ≤ c2) (h : impl_LeastLoad.f k a0_0 a0_1 a1 l2 = some (r1, r2)) :
  Calls Try.prog 27 #[.agg #[.int .i64 a0_0, .bool a0_1], .int .i64 a1, .slice A2 l2.length c2] w fun e w' => e = .returned (.tuple #[.int .i64 r1, .bool r2]) ∧ Below w.heap.size w w' := by
 have hu := Try.underlying25
 have HR := Aside0.mk hr2
 have HC := Aside0.mk hc2
 unfold impl_LeastLoad.f at h
 obtain ⟨t1, A1, h⟩ := Option.bind_eq_some_iff.mp h
 have HA1 := Aside0.mk A1
 clear A1 hr2 hc2
 have hb1 : Below w.heap.size w ((w.alloc (Obj.cells #[.int .i64 a0_0, .bool a0_1] 25)).alloc (Obj.cells #[.slice A2 l2.length c2] 30)) := below_alloc (below_alloc (Below.refl w.heap.size w) _) _
 have HB1 := Aside0.mk hb1
 clear hb1
 have q0 := blk_alloc (blk_new w (Obj.cells #[.int .i64 a0_0, .bool a0_1] 25)) (Obj.cells #[.slice A2 l2.length c2] 30)
 have q1 := blk_new (w.alloc (Obj.cells #[.int .i64 a0_0, .bool a0_1] 25)) (Obj.cells #[.slice A2 l2.length c2] 30)
 rw [show (w.alloc (Obj.cells #[.int .i64 a0_0, .bool a0_1] 25)).heap.size = w.heap.size + 1 from Array.size_push ..] at q1
 have Q0 := Aside0.mk q0
 have Q1 := Aside0.mk q1
 clear q0 q1
 cases t1 with
 | false =>
  rw [if_neg (by decide)] at h
  cases h
  have hmm := @run_makeMap Try.prog
  go_enter Try.func27, Try.ntmps27
  go_wp2_with (go_at_call 82; refine (impl_isStart.calls k a0_0 a0_1 a1 false _ HA1.out).mono ?_; rintro e w2 ⟨rfl, hb⟩; have HB2 := Aside0.mk (below_step HB1.out hb); clear hb)
  go_ret2
  exact ⟨rfl, HB2.out⟩
 | true =>
  rw [if_pos rfl] at h
  obtain ⟨t2, A2', h⟩ := Option.bind_eq_some_iff.mp h
  have HA2 := Aside0.mk A2'
  clear A2'
  have H := Aside0.mk h
  clear h
  have hmm := @run_makeMap Try.prog
  go_enter Try.func27, Try.ntmps27
  go_wp2_with fail
  refine (impl_isStart.calls k a0_0 a0_1 a1 true _ HA1.out).mono ?_
  rintro e w2 ⟨rfl, hb⟩
  have HB2 := Aside0.mk (below_step HB1.out hb)
  have HK0 := Aside0.mk (blk_below Q0.out hb)
  have HK1 := Aside0.mk (blk_below Q1.out hb)
  have e0 : w2.cell? ⟨w.heap.size, 0, none⟩ = some (.int .i64 a0_0) := (blk_cell HK0.out 0).trans rfl
  have e1 : w2.cell? ⟨w.heap.size, 1, none⟩ = some (.bool a0_1) := (blk_cell HK0.out 1).trans rfl
  have e2 : w2.cell? ⟨w.heap.size + 1, 0, none⟩ = some (.slice A2 l2.length c2) := (blk_cell HK1.out 0).trans rfl
  clear hb Q0 Q1
  go_wp2_with fail
  refine (impl_Road_areHefts.calls k a0_0 a0_1 A2 c2 l2 t2 _ (Kd.C_below HR.out HB2.out) HC.out HA2.out).mono ?_
  rintro e w3 ⟨rfl, hb⟩
  have HB3 := Aside0.mk (below_step HB2.out hb)
  have hk0 := blk_below HK0.out hb
  have hk1 := blk_below HK1.out hb
  clear hb e0 e1 e2
  have h := H.out
  clear H
  cases t2 with
  | false =>
   rw [if_neg (by decide)] at h
   cases h
   clear hk0 hk1
   go_wp2
   go_ret2
   exact ⟨rfl, HB3.out⟩
  | true =>
   rw [if_pos rfl] at h
   by_cases hn : (2 ≤ a0_0 ∧ a0_0 ≤ 24) ∧ (0 ≤ a1 ∧ a1 ≤ a0_0 - 1) ∧ (l2.length : Int) = a0_0 ∧ ∀ x, x ∈ l2 → 0 ≤ x ∧ x ≤ 99
   rotate_left
   ·rw [if_neg hn] at h
    cases h
   rw [if_pos hn] at h
   cases h
   have HN := Aside0.mk hn
   clear hn
   have H0 := Aside0.mk hk0
   have H1 := Aside0.mk hk1
   clear hk0 hk1
   have s1 : (w3.alloc (Obj.map #[] 0)).heap.size = w3.heap.size + 1 := Array.size_push ..
   have s2 : ((w3.alloc (Obj.map #[] 0)).alloc (Obj.cells #[.map (some w3.heap.size)] 87)).heap.size = w3.heap.size + 1 + 1 := by
    rw [show ((w3.alloc (Obj.map #[] 0)).alloc (Obj.cells #[.map (some w3.heap.size)] 87)).heap.size = (w3.alloc (Obj.map #[] 0)).heap.size + 1 from Array.size_push .., s1]
   have hnew := blk_new ((w3.alloc (Obj.map #[] 0)).alloc (Obj.cells #[.map (some w3.heap.size)] 87)) (Obj.cells #[(.func (.func 83) #[] #[.pointer (some ⟨w.heap.size, 0, none⟩), .pointer (some ⟨w3.heap.size + 1, 0, none⟩), .pointer (some ⟨w.heap.size + 1, 0, none⟩), .pointer (some ⟨w3.heap.size + 1 + 1, 0, none⟩)])] 88)
   rw [s2] at hnew
   have hmemo := blk_new (w3.alloc (Obj.map #[] 0)) (Obj.cells #[.map (some w3.heap.size)] 87)
   rw [s1] at hmemo
   have lt0 := blk_lt H0.out
   have lt1 := blk_lt H1.out
   have hM : impl_LeastLoad.M a0_0 a0_1 A2 c2 l2 w.heap.size (w3.heap.size + 1) (w.heap.size + 1) (w3.heap.size + 1 + 1) w3.heap.size w (((w3.alloc (Obj.map #[] 0)).alloc (Obj.cells #[.map (some w3.heap.size)] 87)).alloc (Obj.cells #[(.func (.func 83) #[] #[.pointer (some ⟨w.heap.size, 0, none⟩), .pointer (some ⟨w3.heap.size + 1, 0, none⟩), .pointer (some ⟨w.heap.size + 1, 0, none⟩), .pointer (some ⟨w3.heap.size + 1 + 1, 0, none⟩)])] 88)) 0 (.map []) := by
    refine ⟨blk_alloc (blk_alloc (blk_alloc H0.out _) _) _, blk_alloc hmemo _, blk_alloc (blk_alloc (blk_alloc H1.out _) _) _, hnew, ?_, Go.Maps.isMap_empty, ?_, HR.out, below_alloc (below_alloc (below_alloc HB3.out _) _) _, by omega⟩
    ·exact ((World.ownsMap_made (H := Unit) w3 Try.prog 89 (plainElem Try.prog 3)).alloc _).alloc _
    ·intro lo hi pl _ h
     cases h
   have HM := Aside0.mk hM
   have e9 := (blk_cell hM.hl 0).trans (show _ = some (.func (.func 83) #[] #[.pointer (some ⟨w.heap.size, 0, none⟩), .pointer (some ⟨w3.heap.size + 1, 0, none⟩), .pointer (some ⟨w.heap.size + 1, 0, none⟩), .pointer (some ⟨w3.heap.size + 1 + 1, 0, none⟩)]) from rfl)
   clear hM s1 s2 hnew hmemo lt0 lt1
   have HD := Aside0.mk (show impl_LeastLoad.D a0_0 a1 a1 ≤ 24 by have := HN.out.1; unfold impl_LeastLoad.D; omega)
   have HP := Aside0.mk (show (0 : Nat) + 2 ^ (impl_LeastLoad.D a0_0 a1 a1) ≤ 2 ^ 30 by rw [Nat.zero_add]; exact Nat.pow_le_pow_right (by omega) (by have := HD.out; omega))
   go_wp2_with fail
   refine (impl_LeastLoad.fn HN.out.1 HN.out.2.2.1 HN.out.2.2.2 _ a1 a1 a1 _ 0 (.map []) ⟨⟨HN.out.2.1.1, Int.le_refl _, HN.out.2.1.2⟩, Int.le_refl _, Int.le_refl _⟩ rfl HP.out HM.out).mono ?_
   rintro e w4 ⟨rfl, N', D', -, hM', -⟩
   have HB4 := Aside0.mk hM'.below
   clear hM'
   go_wp2_with fail
   go_ret2
   exact ⟨rfl, HB4.out⟩

/-! ### spec_l3Left: function 85 -/
def spec_l3Left.l0 : Nat → List Int → Int → Int → Int → Int → Option (Int)
 | 0, _, _, _, _, _ => none
 | k + 1, x0, x1, x2, x7, x8 => if x8 < (x0.length : Int) then (if x8 < x1 then (if 0 ≤ x8 then (spec_l3Left.l0 k x0 x1 x2 (wrap64 (x7 + (rd x0 x8))) (wrap64 (x8 + 1))) else (none)) else (if x8 > x2 then (if 0 ≤ x8 then (spec_l3Left.l0 k x0 x1 x2 (wrap64 (x7 + (rd x0 x8))) (wrap64 (x8 + 1))) else (none)) else (spec_l3Left.l0 k x0 x1 x2 x7 (wrap64 (x8 + 1))))) else (some x7)
def spec_l3Left.f (k : Nat) (l0 : List Int) (a1 : Int) (a2 : Int) : Option (Int) := spec_l3Left.l0 k l0 a1 a2 0 0
set_option maxHeartbeats 8000000 in
set_option maxRecDepth 100000 in
theorem spec_l3Left.calls (k : Nat) (A0 : Option Addr) (c0 : Nat) (l0 : List Int) (a1 : Int) (a2 : Int) (r : Int) (w : World) (hr0 : Kd.C (Kd.int .i64) w A0 l0.length l0) (hc0 : l0.length ≤ c0) (h : spec_l3Left.f k l0 a1 a2 = some r) :
  Calls Try.prog 85 #[.slice A0 l0.length c0, .int .i64 a1, .int .i64 a2] w fun e w' => e = .returned (.int .i64 r) ∧ Drawn0 w w' := by
 have HR0 := Aside0.mk hr0
 have HC0 := Aside0.mk hc0
 clear hr0 hc0
 have H : (spec_l3Left.l0 k l0 a1 a2 0 0) = some r := h
 clear h
 have H' := Aside0.mk H
 clear H
 go_enter Try.func85, Try.ntmps85
 go_wp2
 go_loopg [7, 8] k (fun kq v7 v8 w' => ∃ (x7_1 : Int) (x8_1 : Int), v7 = .int .i64 x7_1 ∧ v8 = .int .i64 x8_1 ∧ Aside0 (spec_l3Left.l0 kq l0 a1 a2 x7_1 x8_1 = some r) ∧ Aside0 (kq ≤ k) ∧ Drawn0 w w')
 case atStart => exact ⟨(0), (0), (by (rfl)), (by (rfl)), H', ⟨Nat.le_refl _⟩, by repeat (exact Drawn0.refl _)⟩
 case round =>
  clear H'
  (try clear p2)
  obtain ⟨x7_1, x8_1, rfl, rfl, HA, HK1, ⟨m1, rfl⟩⟩ := hrel
  cases gk with
  | zero => exact absurd HA.out (by simp [spec_l3Left.l0])
  | succ k1 =>
   have H := HA.out
   clear HA
   simp only [spec_l3Left.l0] at H
   by_cases c4 : x8_1 < (l0.length : Int)
   rotate_left
   ·rw [if_neg c4] at H
    have c4b0 : decide (x8_1 < (l0.length : Int)) = false := decide_eq_false c4
    clear c4
    obtain rfl := Option.some.inj H
    go_wp2
    go_ret
    exact ⟨by (rfl), by repeat (first | exact Drawn0.refl _ | apply Drawn0.step)⟩
   rw [if_pos c4] at H
   have c4b0 : decide (x8_1 < (l0.length : Int)) = true := decide_eq_true c4
   clear c4
   by_cases c5 : x8_1 < a1
   ·rw [if_pos c5] at H
    have c5b0 : decide (x8_1 < a1) = true := decide_eq_true c5
    clear c5
    by_cases c6 : 0 ≤ x8_1
    rotate_left
    ·rw [if_neg c6] at H
     exact absurd H (by simp)
    rw [if_pos c6] at H
    have c6b0 : decide (0 ≤ x8_1) = true := decide_eq_true c6
    clear c6
    have H' := Aside0.mk H
    clear H
    have p391 : 0 ≤ (x8_1 : Int) := of_decide_eq_true (by (assumption))
    have q391 : x8_1 < (l0.length : Int) := of_decide_eq_true (by (assumption))
    obtain ⟨ad391, e391, hx391_0⟩ := Kd.at_int HR0.out x8_1 p391 q391
    cases e391
    replace p391 := eq_true p391
    replace q391 := eq_true q391
    go_wp2
    go_roundg k1
    case measure => have := HK1.out; omega
    case rel => exact ⟨(wrap64 (x7_1 + (rd l0 x8_1))), (wrap64 (x8_1 + 1)), (by (rfl)), (by (rfl)), H', ⟨by have := HK1.out; omega⟩, by repeat (first | exact Drawn0.refl _ | apply Drawn0.step)⟩
   rw [if_neg c5] at H
   have c5b0 : decide (x8_1 < a1) = false := decide_eq_false c5
   clear c5
   by_cases c7 : x8_1 > a2
   rotate_left
   ·rw [if_neg c7] at H
    have c7b0 : decide (a2 < x8_1) = false := decide_eq_false c7
    clear c7
    have H' := Aside0.mk H
    clear H
    go_wp2
    go_roundg k1
    case measure => have := HK1.out; omega
    case rel => exact ⟨(x7_1), (wrap64 (x8_1 + 1)), (by (rfl)), (by (rfl)), H', ⟨by have := HK1.out; omega⟩, by repeat (first | exact Drawn0.refl _ | apply Drawn0.step)⟩
   rw [if_pos c7] at H
   have c7b0 : decide (a2 < x8_1) = true := decide_eq_true c7
   clear c7
   by_cases c8 : 0 ≤ x8_1
   rotate_left
   ·rw [if_neg c8] at H
    exact absurd H (by simp)
   rw [if_pos c8] at H
   have c8b0 : decide (0 ≤ x8_1) = true := decide_eq_true c8
   clear c8
   have H' := Aside0.mk H
   clear H
   have p392 : 0 ≤ (x8_1 : Int) := of_decide_eq_true (by (assumption))
   have q392 : x8_1 < (l0.length : Int) := of_decide_eq_true (by (assumption))
   obtain ⟨ad392, e392, hx392_0⟩ := Kd.at_int HR0.out x8_1 p392 q392
   cases e392
   replace p392 := eq_true p392
   replace q392 := eq_true q392
   go_wp2
   go_roundg k1
   case measure => have := HK1.out; omega
   case rel => exact ⟨(wrap64 (x7_1 + (rd l0 x8_1))), (wrap64 (x8_1 + 1)), (by (rfl)), (by (rfl)), H', ⟨by have := HK1.out; omega⟩, by repeat (first | exact Drawn0.refl _ | apply Drawn0.step)⟩

end Go.Proofs.Ytogflbocmiogpaa.PFnLoads
