-- Written for this claim by this session's turned copy of the printer.
import Derived.Test.YtogflbocmiogpaaPFnBestSearchx0
import Derived.Test.YtogflbocmiogpaaPFnBestSearchx1
import Derived.Test.YtogflbocmiogpaaPFnBestSearchx4
import Derived.Test.YtogflbocmiogpaaPFnBestSearchx10
import Derived.Test.YtogflbocmiogpaaPFnBestSearchx14
import Derived.Test.YtogflbocmiogpaaPFnBestSearchx15
namespace Go.Proofs.Ytogflbocmiogpaa.PFnBestSearch
open Go.RowKit Go.Proofs.YtogflbocmiogpaaW.PrintWords Go.Proofs.YtogflbocmiogpaaW.PrintLast Go.Proofs.YtogflbocmiogpaaW.PrintMore
open List renaming setIfInBounds_toArray → sT_, set_cons_zero → sZ_, set_cons_succ → sS_, map_toArray → mT_, map_cons → mC_, map_nil → mN_
open Bool renaming true → Y_, false → N_
attribute [local go_sem] max2_int min2_int max_two min_two Fj Fh max_four min_four   -- for this text's walks alone
set_option linter.unusedVariables false
set_option linter.unusedSimpArgs false

/-! ### spec_BestSearch: function 32 -/
theorem Ci.add0 (ad : Addr) : ad.add 0 = ad := by
 obtain ⟨b, o, s⟩ := ad
 unfold Addr.add
 split <;> simp_all
def Ci.l0 (k : Nat) (n : Int) (g : Bool) (a ex : Int) : List (List Int) → List Int → Option (List Int)
 | [], b => some b
 | l :: rest, b => (Da.f k n g a l ex).bind fun x => (Da.f k n g a b ex).bind fun y => if wrap64 (x.2.1 * y.2.2) < wrap64 (y.2.1 * x.2.2) then Ci.l0 k n g a ex rest l else Ci.l0 k n g a ex rest b
def Ci.f (k : Nat) (n : Int) (g : Bool) (a ex : Int) : Option (List Int × Bool) := (Ea.f n g a).bind fun t => if t = true then (if n > 10 then some ([], false) else (spec_l3Extra.f ex).bind fun u => if u = true then (Dw.f n g a).bind fun L => (if L.length < 1048576 then (match L with | [] => none | b :: rest => (Ci.l0 k n g a ex rest b).bind fun r => some (r, true)) else none) else some ([], false)) else some ([], false)
def Ci.T8 : Bool × List (List Nat × List Nat) := (true, [([], []), ([], []), ([], []), ([], []), ([2, 3], [2, 3]), ([4], [4]), ([], []), ([0, 1, 5, 6], [0, 1, 5, 6]), ([7], [7]), ([8], [8]), ([8], [8]), ([8], [8]), ([9, 7, 0, 1, 2, 3, 4, 5, 6, 7, 8, 9], [9]), ([10, 12, 0, 1, 2, 3, 4, 5, 6, 7, 8, 9, 10, 12], [10]), ([11, 13, 0, 1, 2, 3, 4, 5, 6, 7, 8, 9, 10, 11, 12, 13], [11])])
def Ci.B8 : List Nat := [0, 0, 0, 0, 12, 28, 0, 127, 255, 511, 511, 511, 1023, 6143, 16383]
theorem Ci.tab8 : rtab .any (opsOf Try.f32 8) = Ci.T8 := by kernel_rfl
theorem Ci.bits8 : waitsOk Ci.T8.2 Ci.B8 = true := by kernel_rfl
set_option maxHeartbeats 8000000 in
set_option maxRecDepth 100000 in
theorem Ci.calls (k : Nat) (n : Int) (g : Bool) (a ex : Int) (r1 : List Int) (r2 : Bool) (w : World) (h : Ci.f k n g a ex = some (r1, r2)) :
  Calls Try.prog 32 #[.agg #[.int .i64 n, .bool g], .int .i64 a, .int .i64 ex] w fun e w' => ∃ v0_ : Value, e = .returned (.tuple #[v0_, .bool r2]) ∧ Kd.R (Kd.int .i64) 3 w' w.heap.size (fun _ => True) v0_ r1 ∧ Below w.heap.size w w' := by
 have hu27 := Try.underlying25
 have HB := Aa.k (Below.refl w.heap.size w)
 obtain ⟨t, h1, h⟩ := Option.bind_eq_some_iff.mp h
 have H1 := Aa.k h1
 clear h1
 have lits : r1 = [] → r2 = false → True := fun _ _ => trivial
 by_cases ct : t = true ∧ n ≤ 10
 rotate_left
 ·have hr : r1 = [] ∧ r2 = false ∧ (t = false ∨ t = true ∧ decide (10 < n) = true) := by
   cases t with
   | false => rw [if_neg (by decide)] at h; injection h with h; injection h with h2 h3; exact ⟨h2.symm, h3.symm, .inl rfl⟩
   | true => rw [if_pos rfl, if_pos (show n > 10 by by_cases q : n ≤ 10; exact absurd ⟨rfl, q⟩ ct; omega)] at h; injection h with h; injection h with h2 h3; exact ⟨h2.symm, h3.symm, .inr ⟨rfl, decide_eq_true (by by_cases q : n ≤ 10; exact absurd ⟨rfl, q⟩ ct; omega)⟩⟩
  obtain ⟨rfl, rfl, hr⟩ := hr
  clear h ct
  rcases hr with rfl | ⟨rfl, hn⟩
  all_goals
   go_enter Try.func32, Try.ntmps32
   go_wp2_with (first | ((with_reducible refine Be (N := 3) rfl ?_); refine Bo ?hg (N := 3) ?hd (cs := #[.int .i64 n, .bool g]) (t := 25) ?hr ?_; (case hd => rfl); (case hg => rfl); (case hr => (go_simp; done)); intro gb hg w7 hbox hb; have n0_ := Aa.k (Ad HB.o hb); have BK := Aa.k hbox; have GE := Aa.k ((by rw [hg]; exact Af HB.o) : w.heap.size ≤ gb); clear HB; have HB := n0_; clear n0_ hb hbox hg; have hcz0 := Bj BK.o; have hcz1 := Bn BK.o) | (first | ((with_reducible refine Aj (f := 84) rfl ?_); refine Bf (some 19) rfl rfl Try.func84 (by kernel_rfl) rfl #[.agg #[.int .i64 n, .bool g], .int .i64 a] rfl (by (try simp only [mT_, mC_, mN_]); rfl) ?_; (with_reducible refine (Ea.calls n g a true _ H1.o).mono ?_); rintro e w8 ⟨rfl, hb⟩; refine ⟨_, rfl, ?_⟩; have n0_ := Aa.k (Ae BK.o hb); have n1_ := Aa.k (Ad HB.o hb); clear BK HB hb hcz0 hcz1; have BK := n0_; have HB := n1_; clear n0_ n1_; have hcz0 := Bj BK.o; have hcz1 := Bn BK.o) | ((with_reducible refine Aj (f := 84) rfl ?_); refine Bf (some 19) rfl rfl Try.func84 (by kernel_rfl) rfl #[.agg #[.int .i64 n, .bool g], .int .i64 a] rfl (by (try simp only [mT_, mC_, mN_]); rfl) ?_; (with_reducible refine (Ea.calls n g a false _ H1.o).mono ?_); rintro e w8 ⟨rfl, hb⟩; refine ⟨_, rfl, ?_⟩; have n0_ := Aa.k (Ae BK.o hb); have n1_ := Aa.k (Ad HB.o hb); clear BK HB hb hcz0 hcz1; have BK := n0_; have HB := n1_; clear n0_ n1_; have hcz0 := Bj BK.o; have hcz1 := Bn BK.o)) | ((with_reducible refine Be (N := 31) rfl ?_); refine Kd.R_lit (Kd.int .i64) _ 3 ?hg (N := 31) ?hd (xs := ([] : List Int)) (inner := []) (ok := fun _ => True) (okp := fun _ => True) ?hr ?hp (fun _ hk => hk) trivial (Below.refl _ _) (Nat.le_refl _) (by simp) ?_; (case hd => rfl); (case hg => rfl); (case hr => (go_simp; done)); (case hp => exact (Reps.none _ _)); intro v31 w31 ho hb hg_ hnew_; have HN := Aa.k (Kd.Ct ho (Af HB.o)); have n1_ := Aa.k (Ad HB.o hb); clear HB hb ho hg_ hnew_; have HB := n1_; clear n1_))
   go_ret2
   exact ⟨_, rfl, HN.o, HB.o⟩
 ·obtain ⟨rfl, hn⟩ := ct
  rw [if_pos rfl, if_neg (by omega)] at h
  have hnb : decide (10 < n) = false := decide_eq_false (by omega)
  obtain ⟨u, h2, h⟩ := Option.bind_eq_some_iff.mp h
  have H2 := Aa.k h2
  clear h2 hn
  cases u with
  | false =>
   rw [if_neg (by decide)] at h
   injection h with h
   injection h with h3 h4
   subst h3 h4
   go_enter Try.func32, Try.ntmps32
   go_wp2_with (first | ((with_reducible refine Be (N := 3) rfl ?_); refine Bo ?hg (N := 3) ?hd (cs := #[.int .i64 n, .bool g]) (t := 25) ?hr ?_; (case hd => rfl); (case hg => rfl); (case hr => (go_simp; done)); intro gb hg w7 hbox hb; have n0_ := Aa.k (Ad HB.o hb); have BK := Aa.k hbox; have GE := Aa.k ((by rw [hg]; exact Af HB.o) : w.heap.size ≤ gb); clear HB; have HB := n0_; clear n0_ hb hbox hg; have hcz0 := Bj BK.o; have hcz1 := Bn BK.o) | ((with_reducible refine Aj (f := 84) rfl ?_); refine Bf (some 19) rfl rfl Try.func84 (by kernel_rfl) rfl #[.agg #[.int .i64 n, .bool g], .int .i64 a] rfl (by (try simp only [mT_, mC_, mN_]); rfl) ?_; (with_reducible refine (Ea.calls n g a true _ H1.o).mono ?_); rintro e w8 ⟨rfl, hb⟩; refine ⟨_, rfl, ?_⟩; have n0_ := Aa.k (Ae BK.o hb); have n1_ := Aa.k (Ad HB.o hb); clear BK HB hb hcz0 hcz1; have BK := n0_; have HB := n1_; clear n0_ n1_; have hcz0 := Bj BK.o; have hcz1 := Bn BK.o))
   refine (spec_l3Extra.calls ex false _ H2.o).mono ?_
   rintro e w9 ⟨rfl, hd⟩
   have n0_ := Aa.k (Ae BK.o hd.below)
   have n1_ := Aa.k (Ad HB.o hd.below)
   clear BK HB hd hcz0 hcz1
   have BK := n0_
   have HB := n1_
   clear n0_ n1_
   have hcz0 := Bj BK.o
   have hcz1 := Bn BK.o
   go_wp2_with (((refine Be (N := 31) rfl ?_); refine Kd.R_lit (Kd.int .i64) _ 3 ?hg (N := 31) ?hd (xs := ([] : List Int)) (inner := []) (ok := fun _ => True) (okp := fun _ => True) ?hr ?hp (fun _ hk => hk) trivial (Below.refl _ _) (Nat.le_refl _) (by simp) ?_; (case hd => rfl); (case hg => rfl); (case hr => (go_simp; done)); (case hp => exact (Reps.none _ _)); intro v31 w31 ho hb hg_ hnew_; have HN := Aa.k (Kd.Ct ho (Af HB.o)); have n1_ := Aa.k (Ad HB.o hb); clear HB hb ho hg_ hnew_; have HB := n1_; clear n1_))
   go_ret2
   exact ⟨_, rfl, HN.o, HB.o⟩
  | true =>
   rw [if_pos rfl] at h
   obtain ⟨L, h3, h⟩ := Option.bind_eq_some_iff.mp h
   by_cases cl : L.length < 1048576
   rotate_left
   ·rw [if_neg cl] at h; cases h
   rw [if_pos cl] at h
   obtain ⟨b0, rest, hL⟩ : ∃ b0 rest, L = b0 :: rest := by
    cases L with
    | nil => cases h
    | cons b0 rest => exact ⟨b0, rest, rfl⟩
   rw [hL] at h
   replace h : ((Ci.l0 k n g a ex rest b0).bind fun r => some (r, true)) = some (r1, r2) := h
   obtain ⟨q, h4, h⟩ := Option.bind_eq_some_iff.mp h
   injection h with h
   injection h with h5 h6
   subst h5 h6
   have H3 := Aa.k h3
   have H4 := Aa.k h4
   have HLL := Aa.k cl
   have HL1 := Aa.k (show 1 ≤ L.length by rw [hL]; simp)
   have HLC := Aa.k (show L.drop 1 = rest by rw [hL]; rfl)
   have HL0 := Aa.k (show ∀ h : 0 < L.length, L[0] = b0 from fun h => by simp [hL])
   clear h3 h4 cl hL
   go_enter Try.func32, Try.ntmps32
   go_wp2_with (first | ((with_reducible refine Be (N := 3) rfl ?_); refine Bo ?hg (N := 3) ?hd (cs := #[.int .i64 n, .bool g]) (t := 25) ?hr ?_; (case hd => rfl); (case hg => rfl); (case hr => (go_simp; done)); intro gb hg w7 hbox hb; have n0_ := Aa.k (Ad HB.o hb); have BK := Aa.k hbox; have GE := Aa.k ((by rw [hg]; exact Af HB.o) : w.heap.size ≤ gb); clear HB; have HB := n0_; clear n0_ hb hbox hg; have hcz0 := Bj BK.o; have hcz1 := Bn BK.o) | ((with_reducible refine Aj (f := 84) rfl ?_); refine Bf (some 19) rfl rfl Try.func84 (by kernel_rfl) rfl #[.agg #[.int .i64 n, .bool g], .int .i64 a] rfl (by (try simp only [mT_, mC_, mN_]); rfl) ?_; (with_reducible refine (Ea.calls n g a true _ H1.o).mono ?_); rintro e w8 ⟨rfl, hb⟩; refine ⟨_, rfl, ?_⟩; have n0_ := Aa.k (Ae BK.o hb); have n1_ := Aa.k (Ad HB.o hb); clear BK HB hb hcz0 hcz1; have BK := n0_; have HB := n1_; clear n0_ n1_; have hcz0 := Bj BK.o; have hcz1 := Bn BK.o))
   refine (spec_l3Extra.calls ex true _ H2.o).mono ?_
   rintro e w9 ⟨rfl, hd⟩
   have n0_ := Aa.k (Ae BK.o hd.below)
   have n1_ := Aa.k (Ad HB.o hd.below)
   clear BK HB hd hcz0 hcz1
   have BK := n0_
   have HB := n1_
   clear n0_ n1_
   have hcz0 := Bj BK.o
   have hcz1 := Bn BK.o
   go_wp2_with fail
   refine (Dw.calls n g a L _ H3.o).mono ?_
   rintro e w10 ⟨v8, rfl, hs, hb⟩
   have n0_ := Aa.k (Ae BK.o hb)
   have n1_ := Aa.k (Ad HB.o hb)
   have n2_ := Aa.k (Af HB.o)
   clear BK HB hb hcz0 hcz1
   have BK := n0_
   have HB := n1_
   have HSZ := n2_
   clear n0_ n1_ n2_
   obtain ⟨A8, c8, e8⟩ := Kd.S_slice hs
   subst e8
   obtain ⟨f8, hf8⟩ := hs
   have HS := Aa.k hf8
   obtain ⟨ad, A', c', e, hx, hM⟩ := Dw.elem hf8 0 (by rw [List.length_zipIdx]; exact HL1.o)
   subst e
   rw [show L.zipIdx[0]'(by rw [List.length_zipIdx]; exact HL1.o) = (b0, 0) by rw [List.getElem_zipIdx, HL0.o HL1.o]] at hx hM
   obtain ⟨vv, evv, hvv⟩ := hM
   injection evv with evv
   subst evv
   have HBE := Aa.k (Kd.Ct (Kd.Bv (ok' := fun _ => True) hvv (fun _ _ => trivial)) HSZ.o)
   have hx0 : w10.cell? ad = some (.slice A' b0.length c') := (by rw [Ci.add0] at hx; exact hx)
   clear hvv hf8 hx
   have hlp : 0 < L.length := HL1.o
   have hlpi : (0 : Int) < (L.length : Int) := by omega
   go_wp2_with fail
   clear hlp hlpi
   go_loopg [9, 10] (L.length - 1) (fun d v9 v10 w' => ∃ (i : Nat) (b : List Int), v10 = .int .i64 (i : Int) ∧ Aa (i + d = L.length) ∧ Aa (Ci.l0 k n g a ex (L.drop i) b = some q) ∧ Aa (w'.heap[gb]? = some (.cells #[.int .i64 n, .bool g] 25 (0, 0))) ∧ Aa (Below w.heap.size w w') ∧ Aa (Below w10.heap.size w10 w') ∧ Aa (Kd.R (Kd.int .i64) 3 w' w.heap.size (fun _ => True) v9 b))
   case atStart => exact ⟨1, b0, rfl, ⟨by have := HL1.o; omega⟩, ⟨by have := HLC.o; rw [this]; exact H4.o⟩, BK, HB, ⟨Below.refl _ _⟩, HBE⟩
   case round =>
    clear BK HB HBE hx0
    obtain ⟨i, b, rfl, HID, HA, BK, HB, HW, HBE⟩ := hrel
    obtain ⟨A9, c9, e9⟩ := Kd.Cx HBE.o
    subst e9
    by_cases ci : i < L.length
    rotate_left
    ·have c1b : decide ((i : Int) < (L.length : Int)) = false := decide_eq_false (by omega)
     have c1n : decide (i < L.length) = false := decide_eq_false ci
     have hA := HA.o
     rw [List.drop_of_length_le (by omega)] at hA
     obtain rfl := Option.some.inj hA
     clear hA ci HA
     go_wp2
     go_ret2
     exact ⟨_, rfl, HBE.o, HB.o⟩
    have HI0 : i < L.zipIdx.length := by rw [List.length_zipIdx]; exact ci
    have c0i : (0 : Int) ≤ (i : Int) := by omega
    have c1i : (i : Int) < (L.length : Int) := by omega
    have c1b : decide ((i : Int) < (L.length : Int)) = true := decide_eq_true c1i
    have c1n : decide (i < L.length) = true := decide_eq_true ci
    have hw1 : IntKind.i64.wrap ((i : Int) + 1) = ((i + 1 : Nat) : Int) := (Ah _).trans (by have := HLL.o; unfold wrap64; omega)
    obtain ⟨ad2, A', c', e, hx, hM⟩ := Dw.elem (Kd.Ba HS.o HW.o) i HI0
    injection e with e
    subst e
    obtain ⟨x, hz⟩ : ∃ x, L.zipIdx[i]'HI0 = (x, i) := ⟨L[i], by rw [List.getElem_zipIdx, Nat.zero_add]⟩
    have hxl : L[i] = x := by have := congrArg Prod.fst hz; rwa [List.getElem_zipIdx] at this
    rw [hz] at hM hx
    obtain ⟨vv, evv, hvv⟩ := hM
    injection evv with evv
    subst evv
    have HE := Aa.k (Kd.Ct (Kd.Bv (ok' := fun _ => True) hvv (fun _ _ => trivial)) HSZ.o)
    have HX := Aa.k hx
    have hA := HA.o
    rw [List.drop_eq_getElem_cons ci, hxl] at hA
    obtain ⟨⟨p1, p2, p3⟩, h1, hA⟩ := Option.bind_eq_some_iff.mp hA
    obtain ⟨⟨q1, q2, q3⟩, h2, hA⟩ := Option.bind_eq_some_iff.mp hA
    have H1 := Aa.k h1
    have H2 := Aa.k h2
    have HAA := Aa.k hA
    have HI := Aa.k ci
    clear HA hA h1 h2 hvv hz hxl ci hx
    go_wp2
    have n0_ := Aa.k (Dt BK.o)
    have n1_ := Aa.k (Cf HB.o)
    have n2_ := Aa.k (Cf HW.o)
    have n3_ := Aa.k (Kd.R_drew HE.o)
    have n4_ := Aa.k (Kd.R_drew HBE.o)
    have n5_ : Aa (wr.drew.cell? (ad.add i) = some (.slice A' x.length c')) := ⟨HX.o⟩
    clear BK HB HW HE HBE HX
    have BK := n0_
    have HB := n1_
    have HW := n2_
    have HE := n3_
    have HBE := n4_
    have HX := n5_
    clear n0_ n1_ n2_ n3_ n4_ n5_
    refine Fp (n := 15) (S := fun w' => w'.cell? ⟨gb, 0, none⟩ = some (.int .i64 n) ∧ w'.cell? ⟨gb, 1, none⟩ = some (.bool g) ∧ w'.cell? (ad.add i) = some (.slice A' x.length c')) (ds := []) #[N_,N_,N_,N_,N_,N_,N_,N_,N_,N_,N_,N_,N_,N_,N_] (by kernel_rfl) rfl rfl ⟨(Aw BK.o 0).trans rfl, (Aw BK.o 1).trans rfl, HX.o⟩ (fun hHeld => ?_); refine Dv Ci.tab8 Ci.bits8 (fun HT_ HW_ => ?_)
    generalize wr.drew = w21 at BK HB HW HX HE HBE hHeld ⊢
    apply pq_ 1 46 #[N_,Y_,N_,N_,N_,N_,N_,N_,N_,N_,N_,N_,N_,N_,N_] HT_ rfl rfl (by kernel_rfl) (fun _ _ _ h => h) (by rfl)
    ·intro w'; go_simp; rfl
    ·simp only [Act.put, sT_, sZ_, sS_, Ah, Ai]; rfl
    apply pq_ 2 47 #[N_,Y_,Y_,N_,N_,N_,N_,N_,N_,N_,N_,N_,N_,N_,N_] HT_ rfl rfl (by kernel_rfl) (fun _ _ _ h => h) (by rfl)
    ·intro w'; go_simp; rfl
    ·simp only [Act.put, sT_, sZ_, sS_, Ah, Ai]; rfl
    apply pq_ 3 48 #[N_,Y_,Y_,Y_,N_,N_,N_,N_,N_,N_,N_,N_,N_,N_,N_] HT_ rfl rfl (by kernel_rfl) (fun _ _ _ h => h) (by rfl)
    ·intro w'; go_simp; rfl
    ·simp only [Act.put, sT_, sZ_, sS_, Ah, Ai]; rfl
    apply pq_ 4 49 #[N_,Y_,Y_,Y_,Y_,N_,N_,N_,N_,N_,N_,N_,N_,N_,N_] HT_ rfl rfl (by kernel_rfl) (fun _ _ _ h => h) (by rfl)
    ·intro w'; go_simp; rfl
    ·simp only [Act.put, sT_, sZ_, sS_, Ah, Ai]; rfl
    apply pq_ 6 51 #[N_,Y_,Y_,Y_,Y_,N_,Y_,N_,N_,N_,N_,N_,N_,N_,N_] HT_ rfl rfl (by kernel_rfl) (fun _ _ _ h => h) (by rfl)
    ·intro w'; go_simp; rfl
    ·simp only [Act.put, sT_, sZ_, sS_, Ah, Ai]; rfl
    refine En (i := 0) (N := some 45) (v := ?_) (a' := ?_) #[Y_,Y_,Y_,Y_,Y_,N_,Y_,N_,N_,N_,N_,N_,N_,N_,N_] rfl rfl (Cm HT_.o HW_.o (by kernel_rfl)) (fun _ _ _ h => h) (Or.inl ⟨by rfl, ?_⟩) hHeld ?_ ?_
    rotate_left
    ·rintro w' ⟨s0, s1, s2⟩
     go_simp
     rfl
    rotate_left
    ·simp only [Act.put, sT_, sZ_, sS_, Ah, Ai]
     rfl
    refine En (i := 5) (N := some 50) (v := ?_) (a' := ?_) #[Y_,Y_,Y_,Y_,Y_,Y_,Y_,N_,N_,N_,N_,N_,N_,N_,N_] rfl rfl (Cm HT_.o HW_.o (by kernel_rfl)) (fun _ _ _ h => h) (Or.inl ⟨by rfl, ?_⟩) hHeld ?_ ?_
    rotate_left
    ·rintro w' ⟨s0, s1, s2⟩
     go_simp
     rfl
    rotate_left
    ·simp only [Act.put, sT_, sZ_, sS_, Ah, Ai]
     rfl
    refine one_ (i := 7) (N := some 52) #[Y_,Y_,Y_,Y_,Y_,Y_,Y_,Y_,N_,N_,N_,N_,N_,N_,N_] rfl rfl (Ej HT_.o (by kernel_rfl)) (by decide) (fun K hK => ?_)
    refine goes_ Try.func94 (by kernel_rfl) rfl #[.agg #[.int .i64 n, .bool g], .int .i64 a, .slice A' x.length c', .int .i64 ex] (by rfl) rfl rfl (by (try simp only [mT_, mC_, mN_]); rfl) ?_
    refine (Da.calls k n g a _ _ x ex p1 p2 p3 _ ?side1 ?side2 H1.o).mono ?_
    (case side1 => exact (Kd.Bb HE.o).2.2)
    (case side2 => exact (Kd.Bb HE.o).2.1)
    rintro e w22 ⟨rfl, hb⟩
    refine ⟨_, rfl, ?_⟩
    have HBX := Aa.k hb
    have n0_ := Aa.k (Ae BK.o hb)
    have n1_ := Aa.k (Ad HB.o hb)
    have n2_ := Aa.k (Kd.Ba HE.o hb)
    have n3_ := Aa.k (Kd.Ba HBE.o hb)
    have n4_ := Aa.k (Ad HW.o hb)
    clear BK HB HW HE HBE hb
    have BK := n0_
    have HB := n1_
    have HE := n2_
    have HBE := n3_
    have HW := n4_
    clear n0_ n1_ n2_ n3_ n4_
    refine hK.out _ _ ⟨(Aw BK.o 0).trans rfl, (Aw BK.o 1).trans rfl, (HBX.o.cell (World.block_lt_of_cell? _ _ HX.o)).trans HX.o⟩ (fun hHeld => ?_)
    clear hK K
    refine Es (a' := ?_) ?_ ?_
    rotate_left
    ·show Act.put _ (some 52) _ = _
     simp only [Act.put, sT_, sZ_, sS_, Ah, Ai]
     rfl
    apply pq_ 8 44 #[Y_,Y_,Y_,Y_,Y_,Y_,Y_,Y_,Y_,N_,N_,N_,N_,N_,N_] HT_ rfl rfl (by kernel_rfl) (fun _ _ _ h => h) (by rfl)
    ·intro w'; go_simp; rfl
    ·simp only [Act.put, sT_, sZ_, sS_, Ah, Ai]; rfl
    apply pq_ 9 53 #[Y_,Y_,Y_,Y_,Y_,Y_,Y_,Y_,Y_,Y_,N_,N_,N_,N_,N_] HT_ rfl rfl (by kernel_rfl) (fun _ _ _ h => h) (by rfl)
    ·intro w'; go_simp; rfl
    ·simp only [Act.put, sT_, sZ_, sS_, Ah, Ai]; rfl
    apply pq_ 10 54 #[Y_,Y_,Y_,Y_,Y_,Y_,Y_,Y_,Y_,Y_,Y_,N_,N_,N_,N_] HT_ rfl rfl (by kernel_rfl) (fun _ _ _ h => h) (by rfl)
    ·intro w'; go_simp; rfl
    ·simp only [Act.put, sT_, sZ_, sS_, Ah, Ai]; rfl
    apply pq_ 11 55 #[Y_,Y_,Y_,Y_,Y_,Y_,Y_,Y_,Y_,Y_,Y_,Y_,N_,N_,N_] HT_ rfl rfl (by kernel_rfl) (fun _ _ _ h => h) (by rfl)
    ·intro w'; go_simp; rfl
    ·simp only [Act.put, sT_, sZ_, sS_, Ah, Ai]; rfl
    apply pq_ 12 11 #[Y_,Y_,Y_,Y_,Y_,Y_,Y_,Y_,Y_,Y_,Y_,Y_,Y_,N_,N_] HT_ rfl rfl (by kernel_rfl) (fun _ _ _ h => h) (by rfl)
    ·intro w'; go_simp; rfl
    ·simp only [Act.put, sT_, sZ_, sS_, Ah, Ai]; rfl
    apply pq_ 13 12 #[Y_,Y_,Y_,Y_,Y_,Y_,Y_,Y_,Y_,Y_,Y_,Y_,Y_,Y_,N_] HT_ rfl rfl (by kernel_rfl) (fun _ _ _ h => h) (by rfl)
    ·intro w'; go_simp; rfl
    ·simp only [Act.put, sT_, sZ_, sS_, Ah, Ai]; rfl
    apply pq_ 14 13 #[Y_,Y_,Y_,Y_,Y_,Y_,Y_,Y_,Y_,Y_,Y_,Y_,Y_,Y_,Y_] HT_ rfl rfl (by kernel_rfl) (fun _ _ _ h => h) (by rfl)
    ·intro w'; go_simp; rfl
    ·simp only [Act.put, sT_, sZ_, sS_, Ah, Ai]; rfl
    refine done_ (Fa HT_.o (by kernel_rfl)) ?_
    have hcz0 := Bj BK.o
    have hcz1 := Bn BK.o
    have HX2 := Aa.k ((HBX.o.cell (World.block_lt_of_cell? _ _ HX.o)).trans HX.o)
    clear hHeld HX
    go_wp2_with fail
    refine (Da.calls k n g a _ _ b ex q1 q2 q3 _ (Kd.Bb HBE.o).2.2 (Kd.Bb HBE.o).2.1 H2.o).mono ?_
    rintro e w23 ⟨rfl, hb⟩
    have n0_ := Aa.k (Ae BK.o hb)
    have n1_ := Aa.k (Ad HB.o hb)
    have n2_ := Aa.k (Ad HW.o hb)
    have n3_ := Aa.k (Kd.Ba HE.o hb)
    have n4_ := Aa.k (Kd.Ba HBE.o hb)
    have hx : w23.cell? (ad.add i) = some (.slice A' x.length c') := (hb.cell (World.block_lt_of_cell? _ _ HX2.o)).trans HX2.o
    clear BK HB HW HE HBE HX2 HBX hb hcz0 hcz1
    have BK := n0_
    have HB := n1_
    have HW := n2_
    have HE := n3_
    have HBE := n4_
    clear n0_ n1_ n2_ n3_ n4_
    have hA := HAA.o
    have hm1 := Ah (p2 * q3)
    have hm2 := Ah (q2 * p3)
    replace hA : (if wrap64 (p2 * q3) < wrap64 (q2 * p3) then Ci.l0 k n g a ex (L.drop (i + 1)) x else Ci.l0 k n g a ex (L.drop (i + 1)) b) = some q := hA
    generalize wrap64 (p2 * q3) = m1 at hA hm1
    generalize wrap64 (q2 * p3) = m2 at hA hm2
    by_cases cm : m1 < m2
    ·rw [if_pos cm] at hA
     have HAN := Aa.k hA
     have cmb : decide (m1 < m2) = true := decide_eq_true cm
     clear cm hA HAA
     go_wp2
     go_roundg (gk - 1)
     case measure => have := HID.o; have := HI.o; omega
     case rel => exact ⟨i + 1, x, by (rfl), ⟨by have := HID.o; have := HI.o; omega⟩, HAN, BK, HB, HW, HE⟩
    rw [if_neg cm] at hA
    have HAN := Aa.k hA
    have cmb : decide (m1 < m2) = false := decide_eq_false cm
    clear cm hA HAA hx
    go_wp2
    go_roundg (gk - 1)
    case measure => have := HID.o; have := HI.o; omega
    case rel => exact ⟨i + 1, b, by (rfl), ⟨by have := HID.o; have := HI.o; omega⟩, HAN, BK, HB, HW, HBE⟩
/-! ### spec_AllSearches: function 33 -/
def spec_AllSearches.f (a0_0 : Int) (a0_1 : Bool) (a1 : Int) : Option ((List (List Int)) × Bool) := (Ea.f a0_0 a0_1 a1).bind fun t336 => (if t336 = true then (if a0_0 > 10 then (some ((([] : List (List Int))), false)) else ((Dw.f a0_0 a0_1 a1).bind fun t340 => (some (t340, true)))) else (some ((([] : List (List Int))), false)))
set_option maxHeartbeats 8000000 in
set_option maxRecDepth 100000 in
theorem spec_AllSearches.calls (a0_0 : Int) (a0_1 : Bool) (a1 : Int) (r1 : List (List Int)) (r2 : Bool) (w : World) (h : spec_AllSearches.f a0_0 a0_1 a1 = some (r1, r2)) :
  Calls Try.prog 33 #[.agg #[.int .i64 a0_0, .bool a0_1], .int .i64 a1] w fun e w' => ∃ v0_ : Value, e = .returned (.tuple #[v0_, .bool r2]) ∧ Kd.S (Kd.slice 3 (Kd.int .i64)) 30 w' w.heap.size (fun _ => True) v0_ r1 ∧ Below w.heap.size w w' := by
 have hu25 := Try.underlying25
 have HB := Aa.k (Below.refl w.heap.size w)
 have H : ((Ea.f a0_0 a0_1 a1).bind fun t336 => (if t336 = true then (if a0_0 > 10 then (some ((([] : List (List Int))), false)) else ((Dw.f a0_0 a0_1 a1).bind fun t340 => (some (t340, true)))) else (some ((([] : List (List Int))), false)))) = some (r1, r2) := h
 clear h
 obtain ⟨t336, A30, H⟩ := bindS_ H
 try dsimp only at H
 have A3 := Aa.k A30
 clear A30
 by_cases c4 : t336 = true
 rotate_left
 ·replace c4 := Bool.eq_false_iff.mpr c4
  subst c4
  rw [if_neg (show ¬ (false = true) by decide)] at H
  obtain ⟨y343, hy343⟩ : ∃ y_ : List (List Int), y_ = (([] : List (List Int))) := ⟨_, rfl⟩
  replace H : (some (y343, false)) = some (r1, r2) := by (rw [hy343]; exact H)
  have Ny343 := Aa.k hy343
  clear hy343
  simp only [Option.some.injEq, Prod.mk.injEq] at H
  obtain ⟨rfl, rfl⟩ := H
  go_enter Try.func33, Try.ntmps33
  go_wp2_with (first | ((with_reducible refine Be (N := 2) rfl ?_); refine Bo ?hg (N := 2) ?hd (cs := #[.int .i64 a0_0, .bool a0_1]) (t := 25) ?hr ?_; (case hd => rfl); (case hg => rfl); (case hr => (go_simp; done)); intro gb335 hg w18 hbox hb; have n0_ := Aa.k (Ad HB.o hb); have n1_ := Aa.k (hbox); have n2_ := Aa.k ((by rw [hg]; exact (Af HB.o) : w.heap.size ≤ gb335)); have n3_ := Aa.k ((by rw [hg]; exact (Af HB.o) : w.heap.size ≤ gb335)); clear HB; have HB := n0_; have BK335 := n1_; have GW335 := n2_; have GE335 := n3_; clear n0_ n1_ n2_ n3_; clear hb hbox hg; have hcz19_0 := Bj BK335.o; have hcz19_1 := Bn BK335.o; have hfz19_0 := Ac BK335.o 0; have hfz19_1 := Ac BK335.o 1) | ((with_reducible refine Aj (f := 84) rfl ?_); refine Bf (some 8) rfl rfl Try.func84 (by kernel_rfl) rfl #[.agg #[.int .i64 a0_0, .bool a0_1], .int .i64 a1] rfl (by (try simp only [mT_, mC_, mN_]); rfl) ?_; (with_reducible refine (Ea.calls a0_0 a0_1 a1 false _ A3.o).mono ?_); rintro e w20 ⟨rfl, hb⟩; refine ⟨_, rfl, ?_⟩; have n0_ := Aa.k (Ae (g := gb335) (o := .cells #[.int .i64 a0_0, .bool a0_1] 25 (0, 0)) (by exact BK335.o) hb); have n1_ := Aa.k (Ad HB.o hb); clear BK335; clear HB; have BK335 := n0_; have HB := n1_; clear n0_ n1_; clear hb) | ((with_reducible refine Be (N := 15) rfl ?_); refine Kd.S_lit (Kd.slice 3 (Kd.int .i64)) _ 30 ?hg (N := 15) ?hd (xs := ([] : List (List Int))) (inner := []) (ok := fun _ => True) (okp := fun _ => True) ?hr ?hp (fun _ hk => hk) trivial (Below.refl _ _) (Nat.le_refl _) (by simp) ?_; (case hd => rfl); (case hg => rfl); (case hr => (go_simp; done)); (case hp => exact (Reps.none _ _)); intro v344 w21 ho22 hb hg_ hnew_; clear hg_ hnew_; ((rw [← Ny343.o] at ho22)); have n0_ := Aa.k (Kd.S_lower ho22 (Af HB.o)); have n1_ := Aa.k (Ae (g := gb335) (o := .cells #[.int .i64 a0_0, .bool a0_1] 25 (0, 0)) (by exact BK335.o) hb); have n2_ := Aa.k (Ad HB.o hb); clear BK335; clear HB; have HO345 := n0_; have BK335 := n1_; have HB := n2_; clear n0_ n1_ n2_; clear hb ho22))
  go_ret2
  exact ⟨_, by (rfl), by exact HO345.o, by exact HB.o⟩
 subst c4
 rw [if_pos rfl] at H
 by_cases c5 : a0_0 > 10
 rotate_left
 ·rw [if_neg c5] at H
  have c5b0 : decide (10 < a0_0) = false := decide_eq_false c5
  clear c5
  obtain ⟨t340, A120, H⟩ := bindS_ H
  try dsimp only at H
  have A12 := Aa.k A120
  clear A120
  simp only [Option.some.injEq, Prod.mk.injEq] at H
  obtain ⟨rfl, rfl⟩ := H
  go_enter Try.func33, Try.ntmps33
  go_wp2_with (first | ((with_reducible refine Be (N := 2) rfl ?_); refine Bo ?hg (N := 2) ?hd (cs := #[.int .i64 a0_0, .bool a0_1]) (t := 25) ?hr ?_; (case hd => rfl); (case hg => rfl); (case hr => (go_simp; done)); intro gb335 hg w13 hbox hb; have n0_ := Aa.k (Ad HB.o hb); have n1_ := Aa.k (hbox); have n2_ := Aa.k ((by rw [hg]; exact (Af HB.o) : w.heap.size ≤ gb335)); have n3_ := Aa.k ((by rw [hg]; exact (Af HB.o) : w.heap.size ≤ gb335)); clear HB; have HB := n0_; have BK335 := n1_; have GW335 := n2_; have GE335 := n3_; clear n0_ n1_ n2_ n3_; clear hb hbox hg; have hcz14_0 := Bj BK335.o; have hcz14_1 := Bn BK335.o; have hfz14_0 := Ac BK335.o 0; have hfz14_1 := Ac BK335.o 1) | ((with_reducible refine Aj (f := 84) rfl ?_); refine Bf (some 8) rfl rfl Try.func84 (by kernel_rfl) rfl #[.agg #[.int .i64 a0_0, .bool a0_1], .int .i64 a1] rfl (by (try simp only [mT_, mC_, mN_]); rfl) ?_; (with_reducible refine (Ea.calls a0_0 a0_1 a1 true _ A3.o).mono ?_); rintro e w15 ⟨rfl, hb⟩; refine ⟨_, rfl, ?_⟩; have n0_ := Aa.k (Ae (g := gb335) (o := .cells #[.int .i64 a0_0, .bool a0_1] 25 (0, 0)) (by exact BK335.o) hb); have n1_ := Aa.k (Ad HB.o hb); clear BK335; clear HB; have BK335 := n0_; have HB := n1_; clear n0_ n1_; clear hb; have hcz16_0 := Bj BK335.o; have hcz16_1 := Bn BK335.o; have hfz16_0 := Ac BK335.o 0; have hfz16_1 := Ac BK335.o 1) | ((with_reducible refine Aj (f := 93) rfl ?_); refine Bf (some 18) rfl rfl Try.func93 (by kernel_rfl) rfl #[.agg #[.int .i64 a0_0, .bool a0_1], .int .i64 a1] rfl (by (try simp only [mT_, mC_, mN_]); rfl) ?_; (with_reducible refine (Dw.calls a0_0 a0_1 a1 t340 _ A12.o).mono ?_); rintro e w17 ⟨v341, rfl, ho0, hb⟩; refine ⟨_, rfl, ?_⟩; have n0_ := Aa.k (Kd.S_lower ho0 (Af HB.o)); have n1_ := Aa.k (Ae (g := gb335) (o := .cells #[.int .i64 a0_0, .bool a0_1] 25 (0, 0)) (by exact BK335.o) hb); have n2_ := Aa.k (Ad HB.o hb); clear BK335; clear HB; have HO342 := n0_; have BK335 := n1_; have HB := n2_; clear n0_ n1_ n2_; clear hb ho0))
  go_ret2
  exact ⟨_, by (rfl), by exact HO342.o, by exact HB.o⟩
 rw [if_pos c5] at H
 have c5b0 : decide (10 < a0_0) = true := decide_eq_true c5
 clear c5
 obtain ⟨y337, hy337⟩ : ∃ y_ : List (List Int), y_ = (([] : List (List Int))) := ⟨_, rfl⟩
 replace H : (some (y337, false)) = some (r1, r2) := by (rw [hy337]; exact H)
 have Ny337 := Aa.k hy337
 clear hy337
 simp only [Option.some.injEq, Prod.mk.injEq] at H
 obtain ⟨rfl, rfl⟩ := H
 go_enter Try.func33, Try.ntmps33
 go_wp2_with (first | ((with_reducible refine Be (N := 2) rfl ?_); refine Bo ?hg (N := 2) ?hd (cs := #[.int .i64 a0_0, .bool a0_1]) (t := 25) ?hr ?_; (case hd => rfl); (case hg => rfl); (case hr => (go_simp; done)); intro gb335 hg w6 hbox hb; have n0_ := Aa.k (Ad HB.o hb); have n1_ := Aa.k (hbox); have n2_ := Aa.k ((by rw [hg]; exact (Af HB.o) : w.heap.size ≤ gb335)); have n3_ := Aa.k ((by rw [hg]; exact (Af HB.o) : w.heap.size ≤ gb335)); clear HB; have HB := n0_; have BK335 := n1_; have GW335 := n2_; have GE335 := n3_; clear n0_ n1_ n2_ n3_; clear hb hbox hg; have hcz7_0 := Bj BK335.o; have hcz7_1 := Bn BK335.o; have hfz7_0 := Ac BK335.o 0; have hfz7_1 := Ac BK335.o 1) | ((with_reducible refine Aj (f := 84) rfl ?_); refine Bf (some 8) rfl rfl Try.func84 (by kernel_rfl) rfl #[.agg #[.int .i64 a0_0, .bool a0_1], .int .i64 a1] rfl (by (try simp only [mT_, mC_, mN_]); rfl) ?_; (with_reducible refine (Ea.calls a0_0 a0_1 a1 true _ A3.o).mono ?_); rintro e w8 ⟨rfl, hb⟩; refine ⟨_, rfl, ?_⟩; have n0_ := Aa.k (Ae (g := gb335) (o := .cells #[.int .i64 a0_0, .bool a0_1] 25 (0, 0)) (by exact BK335.o) hb); have n1_ := Aa.k (Ad HB.o hb); clear BK335; clear HB; have BK335 := n0_; have HB := n1_; clear n0_ n1_; clear hb; have hcz9_0 := Bj BK335.o; have hcz9_1 := Bn BK335.o; have hfz9_0 := Ac BK335.o 0; have hfz9_1 := Ac BK335.o 1) | ((with_reducible refine Be (N := 15) rfl ?_); refine Kd.S_lit (Kd.slice 3 (Kd.int .i64)) _ 30 ?hg (N := 15) ?hd (xs := ([] : List (List Int))) (inner := []) (ok := fun _ => True) (okp := fun _ => True) ?hr ?hp (fun _ hk => hk) trivial (Below.refl _ _) (Nat.le_refl _) (by simp) ?_; (case hd => rfl); (case hg => rfl); (case hr => (go_simp; done)); (case hp => exact (Reps.none _ _)); intro v338 w10 ho11 hb hg_ hnew_; clear hg_ hnew_; ((rw [← Ny337.o] at ho11)); have n0_ := Aa.k (Kd.S_lower ho11 (Af HB.o)); have n1_ := Aa.k (Ae (g := gb335) (o := .cells #[.int .i64 a0_0, .bool a0_1] 25 (0, 0)) (by exact BK335.o) hb); have n2_ := Aa.k (Ad HB.o hb); clear BK335; clear HB; have HO339 := n0_; have BK335 := n1_; have HB := n2_; clear n0_ n1_ n2_; clear hb ho11))
 go_ret2
 exact ⟨_, by (rfl), by exact HO339.o, by exact HB.o⟩

/-! ### spec_DrawDoublingSearch: function 34 -/
def Df.inn (s0_0 : List Int) (s0_1 : Int) (s0_2 : Int) : Option (Int × Bool × Int × Int × Int) := (Eb.f s0_0 s0_1 s0_2).bind fun bt367 => (some (bt367.1, bt367.2.1, bt367.2.2.1, bt367.2.2.2.1, bt367.2.2.2.2))
set_option maxHeartbeats 8000000 in
set_option maxRecDepth 100000 in
theorem Df.strong (A0 : Option Addr) (c0 : Nat) (g gb366 : Nat) (s0_0 : List Int) (s0_1 : Int) (s0_2 : Int) (r1 : Int) (r2 : Bool) (r3 : Int) (r4 : Int) (r5 : Int) (w0 w W1 : World) (hww : w = w0) (hgb : w.heap.size = gb366) (hgq : gb366 + 1 = g) (hwq : (w.alloc (Obj.cells #[.int .i64 0, .bool false] 25)).alloc (Obj.cells #[.slice A0 s0_0.length c0, .int .i64 0, .int .u64 0] 68) = W1) (hI : Bc w W1 g s0_0 s0_1 s0_2) (hBK : W1.heap[gb366]? = some (.cells #[.int .i64 0, .bool false] 25 (0, 0))) (hB : Below w.heap.size w W1) (h : Df.inn s0_0 s0_1 s0_2 = some (r1, r2, r3, r4, r5)) :
  Calls Try.prog 34 #[.slice A0 s0_0.length c0] w fun e w' => e = .returned (.tuple #[.agg #[.int .i64 r1, .bool r2], .int .i64 r3]) ∧ Bc w w' g s0_0 r4 r5 ∧ Below w.heap.size w w' ∧ Am w w' g none := by
 have HWQ := Aa.k hwq
 have HGQ := Aa.k hgq
 clear hwq
 have hu25 := Try.underlying25
 subst hww
 have HI0 := Aa.k hI
 have HK := Aa.k (Am.of_below hB g none)
 have HL := Aa.k (Nat.le_refl w.heap.size)
 have HW0 := Aa.k (Nat.le_refl w.heap.size)
 have HB := Aa.k hB
 have BK366 := Aa.k hBK
 have GW366 := Aa.k (Nat.le_of_eq hgb)
 have GE366 := Aa.k (Nat.le_of_eq hgb)
 have NB0_366 := Aa.k (show g ≠ gb366 by omega)
 have NB366_0 := Aa.k (show gb366 ≠ g by omega)
 have HGB := Aa.k hgb
 clear hI hB hBK hgb
 have H : ((Eb.f s0_0 s0_1 s0_2).bind fun bt367 => (some (bt367.1, bt367.2.1, bt367.2.2.1, bt367.2.2.2.1, bt367.2.2.2.2))) = some (r1, r2, r3, r4, r5) := h
 clear h
 obtain ⟨⟨t367, t368, t369, t370, t371⟩, A20, H⟩ := bindS_ H
 try dsimp only at H
 have A2 := Aa.k A20
 clear A20
 simp only [Option.some.injEq, Prod.mk.injEq] at H
 obtain ⟨rfl, rfl, rfl, rfl, rfl⟩ := H
 go_enter Try.func34, Try.ntmps34
 go_upto_region 2 with (fail)
 rw [HWQ.o]
 simp only [HGB.o, HGQ.o]
 go_wp2_with (((refine Aj (f := 72) rfl ?_); refine Bf (some 9) rfl rfl Try.func72 (by kernel_rfl) rfl #[.pointer (some ⟨g, 0, none⟩)] rfl (by (try simp only [mT_, mC_, mN_]); rfl) ?_; (refine (Eb.calls g s0_0 s0_1 s0_2 t367 t368 t369 t370 t371 w _ ?side1 ?side2 A2.o).mono ?_); (case side1 => exact HI0.o); (case side2 => exact HB.o); rintro e w4 ⟨rfl, hi, hb, hk⟩; refine ⟨_, rfl, ?_⟩; have n0_ := Aa.k (Am.blk hk (g' := gb366) (o := .cells #[.int .i64 0, .bool false] 25 (0, 0)) (by exact BK366.o) NB366_0.o (by simp)); have n1_ := Aa.k (Am.trans HK.o hk (.inl rfl)); have n2_ := Aa.k (hb); have n3_ := Aa.k (hi); clear BK366; clear HK; clear HB; clear HI0; have BK366 := n0_; have HK := n1_; have HB := n2_; have HI0 := n3_; clear n0_ n1_ n2_ n3_; clear hb hk hi; have hnb5 := NB366_0.o; have hnc5 := NB0_366.o; have hcz6_0 := Bj BK366.o; have hcz6_1 := Bn BK366.o; have hfz6_0 := Ac BK366.o 0; have hfz6_1 := Ac BK366.o 1))
 refine bodyPost_ret (results_ct rfl _ _ gb366 25 #[.int .i64 t367, .bool t368] (0, 0) _ rfl (by refine Cr (cs := #[.int .i64 t367, .bool false]) ?_ 1 _ rfl; refine Cr (cs := #[.int .i64 0, .bool false]) ?_ 0 _ rfl; exact BK366.o) Try.underlying25 rfl (by kernel_rfl)) rfl ?_
 exact ⟨by (rfl), by repeat ((with_reducible first | exact HI0.o | refine Bc.far ?_ NB0_366.o _)), by repeat ((with_reducible first | exact HB.o | refine Bz ?_ GE366.o)), by repeat ((with_reducible first | exact HK.o | refine keep_far ?_ GW366.o _))⟩
/-- The draw itself: its cursor begins at the input's head. -/
def Df.f (l0 : List Int) : Option (Int × Bool × Int) := (Df.inn l0 0 0).bind fun b => some (b.1, b.2.1, b.2.2.1)
set_option maxRecDepth 100000 in
theorem Df.calls (A0 : Option Addr) (c0 : Nat) (l0 : List Int) (r1 : Int) (r2 : Bool) (r3 : Int) (w : World) (hr0 : Kd.C (Kd.int .u8) w A0 l0.length l0) (hc0 : l0.length ≤ c0) (h : Df.f l0 = some (r1, r2, r3)) :
  Calls Try.prog 34 #[.slice A0 l0.length c0] w fun e w' => e = .returned (.tuple #[.agg #[.int .i64 r1, .bool r2], .int .i64 r3]) ∧ Below w.heap.size w w' := by
 obtain ⟨⟨q0, q1, q2, q3, q4⟩, h1, h2⟩ := Option.bind_eq_some_iff.mp h
 simp only [Option.some.injEq, Prod.mk.injEq] at h2
 obtain ⟨rfl, rfl, rfl⟩ := h2
 have hb0 := blk_new (w.alloc (Obj.cells #[.int .i64 0, .bool false] 25)) (Obj.cells #[.slice A0 l0.length c0, .int .i64 0, .int .u64 0] 68)
 have hs0 : (w.alloc (Obj.cells #[.int .i64 0, .bool false] 25)).heap.size = w.heap.size + 1 := Array.size_push ..
 rw [hs0] at hb0
 refine (Df.strong A0 c0 (w.heap.size + 1) w.heap.size l0 0 0 q0 q1 q2 q3 q4 w w _ rfl rfl rfl rfl ⟨A0, c0, hb0, by omega, hr0⟩ (Ae (blk_new w (Obj.cells #[.int .i64 0, .bool false] 25)) (Dq (Below.refl _ _) _)) (Dq (Dq (Below.refl _ _) _) _) h1).mono ?_
 rintro e w' ⟨rfl, -, hb, -⟩
 exact ⟨rfl, hb⟩

/-! ### impl_Road_mirror: function 95 -/
def impl_Road_mirror.f (a0_0 : Int) (a0_1 : Bool) (a1 : Int) : Option (Int) := some (wrap64 ((wrap64 (a0_0 - 1)) - a1))
set_option maxHeartbeats 8000000 in
set_option maxRecDepth 100000 in
theorem impl_Road_mirror.calls (a0_0 : Int) (a0_1 : Bool) (a1 : Int) (r : Int) (w : World) (h : impl_Road_mirror.f a0_0 a0_1 a1 = some r) :
  Calls Try.prog 95 #[.agg #[.int .i64 a0_0, .bool a0_1], .int .i64 a1] w fun e w' => e = .returned (.int .i64 r) ∧ Below w.heap.size w w' := by
 have hu25 := Try.underlying25
 have HB := Aa.k (Below.refl w.heap.size w)
 have H : (some (wrap64 ((wrap64 (a0_0 - 1)) - a1))) = some r := h
 clear h
 obtain rfl := Option.some.inj H
 go_enter Try.func95, Try.ntmps95
 go_wp2_with (((refine Be (N := 2) rfl ?_); refine Bo ?hg (N := 2) ?hd (cs := #[.int .i64 a0_0, .bool a0_1]) (t := 25) ?hr ?_; (case hd => rfl); (case hg => rfl); (case hr => (go_simp; done)); intro gb346 hg w3 hbox hb; have n0_ := Aa.k (Ad HB.o hb); have n1_ := Aa.k (hbox); have n2_ := Aa.k ((by rw [hg]; exact (Af HB.o) : w.heap.size ≤ gb346)); have n3_ := Aa.k ((by rw [hg]; exact (Af HB.o) : w.heap.size ≤ gb346)); clear HB; have HB := n0_; have BK346 := n1_; have GW346 := n2_; have GE346 := n3_; clear n0_ n1_ n2_ n3_; clear hb hbox hg; have hcz4_0 := Bj BK346.o; have hcz4_1 := Bn BK346.o; have hfz4_0 := Ac BK346.o 0; have hfz4_1 := Ac BK346.o 1))
 go_ret
 exact ⟨by (rfl), by exact HB.o⟩

/-! ### impl_DoublingSearch: function 35 -/
def Bq.l0 : Nat → Int → List Int → Int → Int → Int → Int → Bool → Option (List Int × Bool)
 | 0, _, _, _, _, _, _, _ => none
 | k + 1, x1, x6, x7, x8, x9, x348000, x348001 => if x7 = 0 then ((impl_Road_mirror.f x348000 x348001 x7).bind fun t352 => (if x6.length < 17592186044416 then (some ((x6 ++ [t352]), true)) else (none))) else (if x7 = (wrap64 (x348000 - 1)) then ((impl_Road_mirror.f x348000 x348001 x7).bind fun t356 => (if x6.length < 17592186044416 then (some ((x6 ++ [t356]), true)) else (none))) else (if x6.length < 17592186044416 then (Bq.l0 k x1 (x6 ++ [mx 0 (mn (wrap64 (x348000 - 1)) (wrap64 (x1 + (wrap64 (x9 * x8)))))]) (mx 0 (mn (wrap64 (x348000 - 1)) (wrap64 (x1 + (wrap64 (x9 * x8)))))) (wrap64 (x8 * 2)) (wrap64 (-x9)) x348000 x348001) else (none)))
def Bq.f (k : Nat) (a0_0 : Int) (a0_1 : Bool) (a1 : Int) : Option (List Int × Bool) := (Co.f k a0_0 a0_1 a1).bind fun t348 => (if t348 = true then (Bq.l0 k a1 (([] : List Int)) a1 1 1 a0_0 a0_1) else (some (([] : List Int), false)))
theorem Bq.mono_l : ∀ k, (∀ y0 y1 y2 y3 y4 y5 y6, LeO (Bq.l0 k y0 y1 y2 y3 y4 y5 y6) (Bq.l0 (k + 1) y0 y1 y2 y3 y4 y5 y6))
 | 0 => fun _ _ _ _ _ _ _ r h => by simp [Bq.l0] at h
 | k + 1 => by
  have ih0 := Bq.mono_l k
  ·intro y0 y1 y2 y3 y4 y5 y6
   unfold Bq.l0
   repeat' first
   | (with_reducible exact ih0 _ _ _ _ _ _ _)
   | (with_reducible exact LeO.refl _)
   | (with_reducible refine LeO.ite ?_ ?_)
theorem Bq.mono : ∀ a0 a1 a2 k, LeO (Bq.f k a0 a1 a2) (Bq.f (k + 1) a0 a1 a2) := by
 intro a0 a1 a2 k
 have ih0 := Bq.mono_l k
 unfold Bq.f
 repeat' first
   | (with_reducible exact ih0 _ _ _ _ _ _ _)
   | (with_reducible exact Co.mono _ _ _ _)
   | (with_reducible exact LeO.refl _)
   | (with_reducible refine LeO.ite ?_ ?_)
   | (with_reducible refine LeO.bind ?_ (fun _ => ?_))
set_option maxHeartbeats 8000000 in
set_option maxRecDepth 100000 in
theorem Bq.calls (k : Nat) (a0_0 : Int) (a0_1 : Bool) (a1 : Int) (r1 : List Int) (r2 : Bool) (w : World) (h : Bq.f k a0_0 a0_1 a1 = some (r1, r2)) :
  Calls Try.prog 35 #[.agg #[.int .i64 a0_0, .bool a0_1], .int .i64 a1] w fun e w' => ∃ v0_ : Value, e = .returned (.tuple #[v0_, .bool r2]) ∧ Kd.R (Kd.int .i64) 3 w' w.heap.size (fun _ => True) v0_ r1 ∧ Below w.heap.size w w' := by
 have hu25 := Try.underlying25
 have HB := Aa.k (Below.refl w.heap.size w)
 have H : ((Co.f k a0_0 a0_1 a1).bind fun t348 => (if t348 = true then (Bq.l0 k a1 (([] : List Int)) a1 1 1 a0_0 a0_1) else (some (([] : List Int), false)))) = some (r1, r2) := h
 clear h
 obtain ⟨t348, A30, H⟩ := bindS_ H
 try dsimp only at H
 have A3 := Aa.k A30
 clear A30
 by_cases c4 : t348 = true
 rotate_left
 ·replace c4 := Bool.eq_false_iff.mpr c4
  subst c4
  rw [if_neg (show ¬ (false = true) by decide)] at H
  simp only [Option.some.injEq, Prod.mk.injEq] at H
  obtain ⟨rfl, rfl⟩ := H
  go_enter Try.func35, Try.ntmps35
  go_wp2_with (first | ((with_reducible refine Be (N := 2) rfl ?_); refine Bo ?hg (N := 2) ?hd (cs := #[.int .i64 a0_0, .bool a0_1]) (t := 25) ?hr ?_; (case hd => rfl); (case hg => rfl); (case hr => (go_simp; done)); intro gb347 hg w27 hbox hb; have n0_ := Aa.k (Ad HB.o hb); have n1_ := Aa.k (hbox); have n2_ := Aa.k ((by rw [hg]; exact (Af HB.o) : w.heap.size ≤ gb347)); have n3_ := Aa.k ((by rw [hg]; exact (Af HB.o) : w.heap.size ≤ gb347)); clear HB; have HB := n0_; have BK347 := n1_; have GW347 := n2_; have GE347 := n3_; clear n0_ n1_ n2_ n3_; clear hb hbox hg; have hcz28_0 := Bj BK347.o; have hcz28_1 := Bn BK347.o; have hfz28_0 := Ac BK347.o 0; have hfz28_1 := Ac BK347.o 1) | ((with_reducible refine Aj (f := 82) rfl ?_); refine Bf (some 12) rfl rfl Try.func82 (by kernel_rfl) rfl #[.agg #[.int .i64 a0_0, .bool a0_1], .int .i64 a1] rfl (by (try simp only [mT_, mC_, mN_]); rfl) ?_; (with_reducible refine (Co.calls k a0_0 a0_1 a1 false _ A3.o).mono ?_); rintro e w29 ⟨rfl, hb⟩; refine ⟨_, rfl, ?_⟩; have n0_ := Aa.k (Ae (g := gb347) (o := .cells #[.int .i64 a0_0, .bool a0_1] 25 (0, 0)) (by exact BK347.o) hb); have n1_ := Aa.k (Ad HB.o hb); clear BK347; clear HB; have BK347 := n0_; have HB := n1_; clear n0_ n1_; clear hb))
  go_ret2
  exact ⟨_, by (rfl), by (exact Kd.R_nil _ _ _ _ _), by exact HB.o⟩
 subst c4
 rw [if_pos rfl] at H
 obtain ⟨y349, hy349⟩ : ∃ y_ : List Int, y_ = (([] : List Int)) := ⟨_, rfl⟩
 replace H : (Bq.l0 k a1 y349 a1 1 1 a0_0 a0_1) = some (r1, r2) := by (rw [hy349]; exact H)
 have Ny349 := Aa.k hy349
 clear hy349
 have H' := Aa.k H
 clear H
 go_enter Try.func35, Try.ntmps35
 go_wp2_with (first | ((with_reducible refine Be (N := 2) rfl ?_); refine Bo ?hg (N := 2) ?hd (cs := #[.int .i64 a0_0, .bool a0_1]) (t := 25) ?hr ?_; (case hd => rfl); (case hg => rfl); (case hr => (go_simp; done)); intro gb347 hg w5 hbox hb; have n0_ := Aa.k (Ad HB.o hb); have n1_ := Aa.k (hbox); have n2_ := Aa.k ((by rw [hg]; exact (Af HB.o) : w.heap.size ≤ gb347)); have n3_ := Aa.k ((by rw [hg]; exact (Af HB.o) : w.heap.size ≤ gb347)); clear HB; have HB := n0_; have BK347 := n1_; have GW347 := n2_; have GE347 := n3_; clear n0_ n1_ n2_ n3_; clear hb hbox hg; have hcz6_0 := Bj BK347.o; have hcz6_1 := Bn BK347.o; have hfz6_0 := Ac BK347.o 0; have hfz6_1 := Ac BK347.o 1) | ((with_reducible refine Aj (f := 82) rfl ?_); refine Bf (some 12) rfl rfl Try.func82 (by kernel_rfl) rfl #[.agg #[.int .i64 a0_0, .bool a0_1], .int .i64 a1] rfl (by (try simp only [mT_, mC_, mN_]); rfl) ?_; (with_reducible refine (Co.calls k a0_0 a0_1 a1 true _ A3.o).mono ?_); rintro e w7 ⟨rfl, hb⟩; refine ⟨_, rfl, ?_⟩; have n0_ := Aa.k (Ae (g := gb347) (o := .cells #[.int .i64 a0_0, .bool a0_1] 25 (0, 0)) (by exact BK347.o) hb); have n1_ := Aa.k (Ad HB.o hb); clear BK347; clear HB; have BK347 := n0_; have HB := n1_; clear n0_ n1_; clear hb) | ((with_reducible refine Be (N := 14) rfl ?_); refine Kd.R_lit (Kd.int .i64) _ 3 ?hg (N := 14) ?hd (xs := ([] : List Int)) (inner := []) (ok := fun _ => True) (okp := fun _ => True) ?hr ?hp (fun _ hk => hk) trivial (Below.refl _ _) (Nat.le_refl _) (by simp) ?_; (case hd => rfl); (case hg => rfl); (case hr => (go_simp; done)); (case hp => exact (Reps.none _ _)); intro v350 w8 ho9 hb hg_ hnew_; clear hg_ hnew_; ((rw [← Ny349.o] at ho9)); have n0_ := Aa.k (Kd.Ct ho9 (Af HB.o)); have n1_ := Aa.k (Ae (g := gb347) (o := .cells #[.int .i64 a0_0, .bool a0_1] 25 (0, 0)) (by exact BK347.o) hb); have n2_ := Aa.k (Ad HB.o hb); clear BK347; clear HB; have HO351 := n0_; have BK347 := n1_; have HB := n2_; clear n0_ n1_ n2_; clear hb ho9))
 go_loopg [6, 7, 8, 9] k (fun kq v6 v7 v8 v9 w' => ∃ (x6_1 : List Int) (x7_1 : Int) (x8_1 : Int) (x9_1 : Int), v7 = .int .i64 x7_1 ∧ v8 = .int .i64 x8_1 ∧ v9 = .int .i64 x9_1 ∧ Aa (Bq.l0 kq a1 x6_1 x7_1 x8_1 x9_1 a0_0 a0_1 = some (r1, r2)) ∧ Aa (kq ≤ k) ∧ Aa (Kd.R (Kd.int .i64) 3 w' w.heap.size (fun _ => True) v6 x6_1) ∧ Aa (w'.heap[gb347]? = some (.cells #[.int .i64 a0_0, .bool a0_1] 25 (0, 0))) ∧ Aa (Below w.heap.size w w'))
 case atStart => exact ⟨(y349), (a1), (1), (1), (by (rfl)), (by (rfl)), (by (rfl)), H', ⟨Nat.le_refl _⟩, ⟨by exact HO351.o⟩, ⟨by exact BK347.o⟩, ⟨by exact HB.o⟩⟩
 case round =>
  clear H'
  clear hcz6_0 hcz6_1 hfz6_0 hfz6_1
  obtain ⟨x6_1, x7_1, x8_1, x9_1, rfl, rfl, rfl, HA, HK1, HO_6, BK347, HB⟩ := hrel
  cases gk with
  | zero => exact absurd HA.o (by simp [Bq.l0])
  | succ k1 =>
   have H := HA.o
   clear HA
   simp only [Bq.l0] at H
   by_cases c10 : x7_1 = 0
   ·rw [if_pos c10] at H
    have c10b0 : (x7_1 == 0) = true := beq_iff_eq.mpr c10
    have c10b1 : (x7_1 != 0) = false := bne_eq_false_iff_eq.mpr c10
    clear c10
    obtain ⟨t352, A110, H⟩ := bindS_ H
    try dsimp only at H
    have A11 := Aa.k A110
    clear A110
    by_cases c12 : x6_1.length < 17592186044416
    rotate_left
    ·rw [if_neg c12] at H
     exact absurd H (by simp)
    rw [if_pos c12] at H
    have LMc12 := Aa.k c12
    clear c12
    obtain ⟨y353, hy353⟩ : ∃ y_ : List Int, y_ = (x6_1 ++ [t352]) := ⟨_, rfl⟩
    replace H : (some (y353, true)) = some (r1, r2) := by (rw [hy353]; exact H)
    have Ny353 := Aa.k hy353
    clear hy353
    simp only [Option.some.injEq, Prod.mk.injEq] at H
    obtain ⟨rfl, rfl⟩ := H
    have hcz13_0 := Bj BK347.o
    have hcz13_1 := Bn BK347.o
    have hfz13_0 := Ac BK347.o 0
    have hfz13_1 := Ac BK347.o 1
    go_wp2_with (first | ((with_reducible refine Aj (f := 95) rfl ?_); refine Bf (some 46) rfl rfl Try.func95 (by kernel_rfl) rfl #[.agg #[.int .i64 a0_0, .bool a0_1], .int .i64 x7_1] rfl (by (try simp only [mT_, mC_, mN_]); rfl) ?_; (with_reducible refine (impl_Road_mirror.calls a0_0 a0_1 x7_1 t352 _ A11.o).mono ?_); rintro e w14 ⟨rfl, hb⟩; refine ⟨_, rfl, ?_⟩; have n0_ := Aa.k (Kd.Ba (by exact HO_6.o) hb); have n1_ := Aa.k (Ae (g := gb347) (o := .cells #[.int .i64 a0_0, .bool a0_1] 25 (0, 0)) (by exact BK347.o) hb); have n2_ := Aa.k (Ad HB.o hb); clear HO_6; clear BK347; clear HB; have HO_6 := n0_; have BK347 := n1_; have HB := n2_; clear n0_ n1_ n2_; clear hb) | ((with_reducible refine Ef (b := .append) (xs := #[.tmp 43, .tmp 47]) rfl ?_); at_builtin; refine Kd.R_append (Kd.int .i64) (w0 := w) w.heap.size rfl (.tmp 43) (.tmp 47) 30 3 (.int .i64 0) 8 rfl Try.underlying30 info3 rfl (by decide) (by omega) u6 x6_1 t352 [.int .i64 t352] (fun _ => True) (fun _ => False) rfl rfl ?aP (fun _ hk => hk.elim) ?aF ?aO ?aB ?aS ?aL ?_; (case aP => exact rfl); (case aB => exact HB.o); (case aF => exact (fun _ _ => trivial)); (case aO => exact (by exact HO_6.o)); (case aS => exact (Af HB.o)); (case aL => have := LMc12.o; omega); intro v354 w15 ho hb hg hat; rw [← Ny353.o] at ho; have n0_ := Aa.k (Fb (g := gb347) (o := .cells #[.int .i64 a0_0, .bool a0_1] 25 (0, 0)) (by exact BK347.o) hg (Kd.R_ne HO_6.o BK347.o (by decide))); have n1_ := Aa.k (hb); have n2_ := Aa.k (ho); clear BK347; clear HB; clear HO_6; have BK347 := n0_; have HB := n1_; have HO355 := n2_; clear n0_ n1_ n2_; clear ho hb hg hat))
    go_ret2
    exact ⟨_, by (rfl), by exact HO355.o, by exact HB.o⟩
   rw [if_neg c10] at H
   have c10b0 : (x7_1 == 0) = false := beq_eq_false_iff_ne.mpr c10
   have c10b1 : (x7_1 != 0) = true := bne_iff_ne.mpr c10
   by_cases c16 : x7_1 = (wrap64 (a0_0 - 1))
   ·rw [if_pos c16] at H
    have c16b0 : (x7_1 == (wrap64 (a0_0 - 1))) = true := beq_iff_eq.mpr c16
    have c16b1 : (x7_1 != (wrap64 (a0_0 - 1))) = false := bne_eq_false_iff_eq.mpr c16
    clear c16
    obtain ⟨t356, A170, H⟩ := bindS_ H
    try dsimp only at H
    have A17 := Aa.k A170
    clear A170
    by_cases c18 : x6_1.length < 17592186044416
    rotate_left
    ·rw [if_neg c18] at H
     exact absurd H (by simp)
    rw [if_pos c18] at H
    have LMc18 := Aa.k c18
    clear c18
    obtain ⟨y357, hy357⟩ : ∃ y_ : List Int, y_ = (x6_1 ++ [t356]) := ⟨_, rfl⟩
    replace H : (some (y357, true)) = some (r1, r2) := by (rw [hy357]; exact H)
    have Ny357 := Aa.k hy357
    clear hy357
    simp only [Option.some.injEq, Prod.mk.injEq] at H
    obtain ⟨rfl, rfl⟩ := H
    have hcz19_0 := Bj BK347.o
    have hcz19_1 := Bn BK347.o
    have hfz19_0 := Ac BK347.o 0
    have hfz19_1 := Ac BK347.o 1
    go_wp2_with (first | ((with_reducible refine Aj (f := 95) rfl ?_); refine Bf (some 46) rfl rfl Try.func95 (by kernel_rfl) rfl #[.agg #[.int .i64 a0_0, .bool a0_1], .int .i64 x7_1] rfl (by (try simp only [mT_, mC_, mN_]); rfl) ?_; (with_reducible refine (impl_Road_mirror.calls a0_0 a0_1 x7_1 t356 _ A17.o).mono ?_); rintro e w20 ⟨rfl, hb⟩; refine ⟨_, rfl, ?_⟩; have n0_ := Aa.k (Kd.Ba (by exact HO_6.o) hb); have n1_ := Aa.k (Ae (g := gb347) (o := .cells #[.int .i64 a0_0, .bool a0_1] 25 (0, 0)) (by exact BK347.o) hb); have n2_ := Aa.k (Ad HB.o hb); clear HO_6; clear BK347; clear HB; have HO_6 := n0_; have BK347 := n1_; have HB := n2_; clear n0_ n1_ n2_; clear hb) | ((with_reducible refine Ef (b := .append) (xs := #[.tmp 43, .tmp 47]) rfl ?_); at_builtin; refine Kd.R_append (Kd.int .i64) (w0 := w) w.heap.size rfl (.tmp 43) (.tmp 47) 30 3 (.int .i64 0) 8 rfl Try.underlying30 info3 rfl (by decide) (by omega) u6 x6_1 t356 [.int .i64 t356] (fun _ => True) (fun _ => False) rfl rfl ?aP (fun _ hk => hk.elim) ?aF ?aO ?aB ?aS ?aL ?_; (case aP => exact rfl); (case aB => exact HB.o); (case aF => exact (fun _ _ => trivial)); (case aO => exact (by exact HO_6.o)); (case aS => exact (Af HB.o)); (case aL => have := LMc18.o; omega); intro v358 w21 ho hb hg hat; rw [← Ny357.o] at ho; have n0_ := Aa.k (Fb (g := gb347) (o := .cells #[.int .i64 a0_0, .bool a0_1] 25 (0, 0)) (by exact BK347.o) hg (Kd.R_ne HO_6.o BK347.o (by decide))); have n1_ := Aa.k (hb); have n2_ := Aa.k (ho); clear BK347; clear HB; clear HO_6; have BK347 := n0_; have HB := n1_; have HO359 := n2_; clear n0_ n1_ n2_; clear ho hb hg hat))
    go_ret2
    exact ⟨_, by (rfl), by exact HO359.o, by exact HB.o⟩
   rw [if_neg c16] at H
   have c16b0 : (x7_1 == (wrap64 (a0_0 - 1))) = false := beq_eq_false_iff_ne.mpr c16
   have c16b1 : (x7_1 != (wrap64 (a0_0 - 1))) = true := bne_iff_ne.mpr c16
   obtain ⟨ji22, hji22⟩ : ∃ j_ : Int, (mn (wrap64 (a0_0 - 1)) (wrap64 (a1 + (wrap64 (x9_1 * x8_1))))) = j_ := ⟨_, rfl⟩
   replace H : (if x6_1.length < 17592186044416 then (Bq.l0 k1 a1 (x6_1 ++ [mx 0 (ji22)]) (mx 0 (ji22)) (wrap64 (x8_1 * 2)) (wrap64 (-x9_1)) a0_0 a0_1) else (none)) = some (r1, r2) := by (rw [hji22] at H; exact H)
   have hji22_ : (if (wrap64 (a1 + (wrap64 (x9_1 * x8_1)))) < (wrap64 (a0_0 - 1)) then (wrap64 (a1 + (wrap64 (x9_1 * x8_1)))) else (wrap64 (a0_0 - 1))) = ji22 := hji22
   obtain ⟨ji23, hji23⟩ : ∃ j_ : Int, (mx 0 (ji22)) = j_ := ⟨_, rfl⟩
   replace H : (if x6_1.length < 17592186044416 then (Bq.l0 k1 a1 (x6_1 ++ [ji23]) ji23 (wrap64 (x8_1 * 2)) (wrap64 (-x9_1)) a0_0 a0_1) else (none)) = some (r1, r2) := by (rw [hji23] at H; exact H)
   have hji23_ : (if 0 < (ji22) then (ji22) else 0) = ji23 := hji23
   by_cases c24 : x6_1.length < 17592186044416
   rotate_left
   ·rw [if_neg c24] at H
    exact absurd H (by simp)
   rw [if_pos c24] at H
   have LMc24 := Aa.k c24
   clear c24
   obtain ⟨y360, hy360⟩ : ∃ y_ : List Int, y_ = (x6_1 ++ [ji23]) := ⟨_, rfl⟩
   replace H : (Bq.l0 k1 a1 y360 ji23 (wrap64 (x8_1 * 2)) (wrap64 (-x9_1)) a0_0 a0_1) = some (r1, r2) := by (rw [hy360]; exact H)
   have Ny360 := Aa.k hy360
   clear hy360
   have H' := Aa.k H
   clear H
   have hcz25_0 := Bj BK347.o
   have hcz25_1 := Bn BK347.o
   have hfz25_0 := Ac BK347.o 0
   have hfz25_1 := Ac BK347.o 1
   go_wp2_with (((refine Ef (b := .append) (xs := #[.tmp 37, .tmp 39]) rfl ?_); at_builtin; refine Kd.R_append (Kd.int .i64) (w0 := w) w.heap.size rfl (.tmp 37) (.tmp 39) 30 3 (.int .i64 0) 8 rfl Try.underlying30 info3 rfl (by decide) (by omega) u6 x6_1 ji23 [.int .i64 ji23] (fun _ => True) (fun _ => False) rfl rfl ?aP (fun _ hk => hk.elim) ?aF ?aO ?aB ?aS ?aL ?_; (case aP => exact rfl); (case aB => exact HB.o); (case aF => exact (fun _ _ => trivial)); (case aO => exact (by exact HO_6.o)); (case aS => exact (Af HB.o)); (case aL => have := LMc24.o; omega); intro v361 w26 ho hb hg hat; rw [← Ny360.o] at ho; have n0_ := Aa.k (Fb (g := gb347) (o := .cells #[.int .i64 a0_0, .bool a0_1] 25 (0, 0)) (by exact BK347.o) hg (Kd.R_ne HO_6.o BK347.o (by decide))); have n1_ := Aa.k (hb); have n2_ := Aa.k (ho); clear BK347; clear HB; clear HO_6; have BK347 := n0_; have HB := n1_; have HO362 := n2_; clear n0_ n1_ n2_; clear ho hb hg hat))
   go_roundg k1
   case measure => have := HK1.o; omega
   case rel => exact ⟨(y360), (ji23), (wrap64 (x8_1 * 2)), (wrap64 (-x9_1)), (by (rfl)), (by (rfl)), (by (rfl)), H', ⟨by have := HK1.o; omega⟩, ⟨by exact HO362.o⟩, ⟨by exact BK347.o⟩, ⟨by exact HB.o⟩⟩

end Go.Proofs.Ytogflbocmiogpaa.PFnBestSearch
