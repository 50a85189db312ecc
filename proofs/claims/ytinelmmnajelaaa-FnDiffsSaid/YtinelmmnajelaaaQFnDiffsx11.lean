/- Contracts of Go functions that FnDiffs reaches: the call computes what the plain function says. No condition. -/
import Derived.Test.YtinelmmnajelaaaQFnDiffsx0
import Derived.Test.YtinelmmnajelaaaQFnDiffsx1
import Derived.Test.YtinelmmnajelaaaQFnDiffsx10
namespace Go.Proofs.Ytinelmmnajelaaa.QFnDiffs
open Go.RowKit Go.Proofs.YtinelmmnajelaaaW.PrintWords Go.Proofs.YtinelmmnajelaaaW.PrintLast Go.Proofs.YtinelmmnajelaaaW.PrintMore
attribute [local go_sem] max2_int min2_int max_two min_two max_three min_three max_four min_four   -- for this text's walks alone
set_option linter.unusedVariables false
set_option linter.unusedSimpArgs false

attribute [local go_sem high] eqA26
/-! ### spec_l19Apply: function 66 -/
def spec_l19Apply.j0 : Nat → List (S26) → List (S26) → Bool → Int → Int → Int → Int → Int → Int → Int → Int → Int → Int → Int → Int → Option ((List (S26)) × Bool)
 | 0, _, _, _, _, _, _, _, _, _, _, _, _, _, _, _ => none
 | k + 1, x0, x6, x39, x218000, x218001, x218002, x218003, x218004, x218005, x218006, x218007, x218008, x218009, x218010, x218011 => if x39 = true then (some (x6, false)) else (if 0 ≤ x218001 then (if x218001 ≤ (x0.length : Int) then ((some (x0.take (x218001 : Int).toNat : List (S26))).bind fun y223 => (if x6.length + y223.length < 3518437208883 then ((some (x6 ++ y223 : List (S26))).bind fun y227 => (if x218000 = 1 then (if y227.length < 3518437208883 then ((some (y227 ++ [(⟨x218007, x218008, x218009, x218010, x218011⟩ : S26)] : List (S26))).bind fun y230 => ((some (x0.drop (x218001 : Int).toNat : List (S26))).bind fun y233 => (if y230.length + y233.length < 3518437208883 then ((some (y230 ++ y233 : List (S26))).bind fun y237 => (some (y237, decide ((y237.length : Int) ≤ 12)))) else (none)))) else (none)) else (if x218000 = 2 then (if 0 ≤ (wrap64 (x218001 + 1)) then (if (wrap64 (x218001 + 1)) ≤ (x0.length : Int) then ((some (x0.drop ((wrap64 (x218001 + 1)) : Int).toNat : List (S26))).bind fun y240 => (if y227.length + y240.length < 3518437208883 then ((some (y227 ++ y240 : List (S26))).bind fun y244 => (some (y244, decide ((y244.length : Int) ≤ 12)))) else (none))) else (none)) else (none)) else (if y227.length < 3518437208883 then ((some (y227 ++ [(⟨x218007, x218008, x218009, x218010, x218011⟩ : S26)] : List (S26))).bind fun y247 => (if 0 ≤ (wrap64 (x218001 + 1)) then (if (wrap64 (x218001 + 1)) ≤ (x0.length : Int) then ((some (x0.drop ((wrap64 (x218001 + 1)) : Int).toNat : List (S26))).bind fun y250 => (if y247.length + y250.length < 3518437208883 then ((some (y247 ++ y250 : List (S26))).bind fun y254 => (some (y254, decide ((y254.length : Int) ≤ 12)))) else (none))) else (none)) else (none))) else (none))))) else (none))) else (none)) else (none))
def spec_l19Apply.f (k : Nat) (l0 : List (S26)) (a1_0 a1_1 a1_2 a1_3 a1_4 a1_5 a1_6 a1_7 a1_8 a1_9 a1_10 a1_11 : Int) : Option ((List (S26)) × Bool) := (some (([] : List (S26)) : List (S26))).bind fun y218 => ((spec_l19Valid.f a1_0 a1_1 a1_2 a1_3 a1_4 a1_5 a1_6 a1_7 a1_8 a1_9 a1_10 a1_11).bind fun t221 => (if t221 = true then (if a1_1 > (l0.length : Int) then (spec_l19Apply.j0 k l0 y218 true a1_0 a1_1 a1_2 a1_3 a1_4 a1_5 a1_6 a1_7 a1_8 a1_9 a1_10 a1_11) else (if a1_0 = 1 then (spec_l19Apply.j0 k l0 y218 false a1_0 a1_1 a1_2 a1_3 a1_4 a1_5 a1_6 a1_7 a1_8 a1_9 a1_10 a1_11) else (if a1_1 = (l0.length : Int) then (spec_l19Apply.j0 k l0 y218 true a1_0 a1_1 a1_2 a1_3 a1_4 a1_5 a1_6 a1_7 a1_8 a1_9 a1_10 a1_11) else (if 0 ≤ a1_1 then (if a1_1 < (l0.length : Int) then (spec_l19Apply.j0 k l0 y218 (!(((rd_T26 l0 a1_1).f0) == a1_2) || (!(((rd_T26 l0 a1_1).f1) == a1_3) || (!(((rd_T26 l0 a1_1).f2) == a1_4) || (!(((rd_T26 l0 a1_1).f3) == a1_5) || (!(((rd_T26 l0 a1_1).f4) == a1_6)))))) a1_0 a1_1 a1_2 a1_3 a1_4 a1_5 a1_6 a1_7 a1_8 a1_9 a1_10 a1_11) else (none)) else (none))))) else (spec_l19Apply.j0 k l0 y218 true a1_0 a1_1 a1_2 a1_3 a1_4 a1_5 a1_6 a1_7 a1_8 a1_9 a1_10 a1_11)))
theorem spec_l19Apply.mono_l : ∀ k, (∀ y0 y1 y2 y3 y4 y5 y6 y7 y8 y9 y10 y11 y12 y13 y14, LeO (spec_l19Apply.j0 k y0 y1 y2 y3 y4 y5 y6 y7 y8 y9 y10 y11 y12 y13 y14) (spec_l19Apply.j0 (k + 1) y0 y1 y2 y3 y4 y5 y6 y7 y8 y9 y10 y11 y12 y13 y14))
 | 0 => fun _ _ _ _ _ _ _ _ _ _ _ _ _ _ _ r h => by simp [spec_l19Apply.j0] at h
 | k + 1 => by
  have ih0 := spec_l19Apply.mono_l k
  ·intro y0 y1 y2 y3 y4 y5 y6 y7 y8 y9 y10 y11 y12 y13 y14
   unfold spec_l19Apply.j0
   repeat' with_reducible first | apply ih0 | exact LeO.refl _ | exact LeO.none _ | refine LeO.ite ?_ ?_ | refine LeO.bind ?_ (fun _ => ?_)
theorem spec_l19Apply.mono : ∀ a0 a1 a2 a3 a4 a5 a6 a7 a8 a9 a10 a11 a12 k, LeO (spec_l19Apply.f k a0 a1 a2 a3 a4 a5 a6 a7 a8 a9 a10 a11 a12) (spec_l19Apply.f (k + 1) a0 a1 a2 a3 a4 a5 a6 a7 a8 a9 a10 a11 a12) := by
 intro a0 a1 a2 a3 a4 a5 a6 a7 a8 a9 a10 a11 a12 k
 have ih0 := spec_l19Apply.mono_l k
 unfold spec_l19Apply.f
 repeat' with_reducible first | apply ih0 | exact LeO.refl _ | exact LeO.none _ | refine LeO.ite ?_ ?_ | refine LeO.bind ?_ (fun _ => ?_)
def spec_l19Apply.T2 : Bool × List (List Nat × List Nat) := (true, [([], []), ([0], [0]), ([1], [1]), ([2, 1], [2]), ([3], [3]), ([4, 3], [3, 4]), ([3], [3]), ([6, 3], [3, 6]), ([5, 7, 3], [3, 5, 7]), ([3, 8], [3, 8]), ([9, 3], [9]), ([10], [10]), ([11, 10], [10, 11]), ([12, 10], [10, 12]), ([13, 10, 10], [10, 13]), ([14], [14]), ([15, 14], [14, 15]), ([14], [14]), ([17, 14], [14, 17]), ([16, 18, 14], [14, 16, 18]), ([19, 14, 14], [14, 19]), ([20], [20]), ([20], [20]), ([22, 20], [20, 22]), ([21, 23, 20], [20, 21, 23]), ([24, 20], [20, 24]), ([20], [20]), ([26, 20], [20, 26]), ([25, 27, 20], [20, 25, 27]), ([20, 28, 14], [14, 20, 28]), ([14, 29, 10], [10, 14, 29]), ([10, 30], [10, 30])])
def spec_l19Apply.B2 : List Nat := [0, 1, 3, 7, 15, 31, 15, 79, 255, 511, 1023, 2047, 4095, 8191, 16383, 32767, 65535, 32767, 163839, 524287, 1048575, 2097151, 2097151, 6291455, 16777215, 33554431, 2097151, 69206015, 268435455, 536870911, 1073741823, 2147483647]
theorem spec_l19Apply.tab2 : rtab .any (opsOf Try.f66 2) = spec_l19Apply.T2 := by kernel_rfl
theorem spec_l19Apply.bits2 : waitsOk spec_l19Apply.T2.2 spec_l19Apply.B2 = true := by kernel_rfl
def spec_l19Apply.T6 : Bool × List (List Nat × List Nat) := (true, [([], []), ([], []), ([1], [1]), ([2], [2]), ([0, 3], [0, 3]), ([], []), ([], []), ([6], [6]), ([7], [7]), ([5, 8], [5, 8]), ([4, 9, 4], [4, 9]), ([10, 10, 0, 1, 2, 3, 4, 5, 6, 7, 8, 9, 10], [0, 10])])
def spec_l19Apply.B6 : List Nat := [0, 0, 2, 6, 15, 0, 0, 64, 192, 480, 1023, 2047]
theorem spec_l19Apply.tab6 : rtab .any (opsOf Try.f66 6) = spec_l19Apply.T6 := by kernel_rfl
theorem spec_l19Apply.bits6 : waitsOk spec_l19Apply.T6.2 spec_l19Apply.B6 = true := by kernel_rfl
def spec_l19Apply.T8 : Bool × List (List Nat × List Nat) := (true, [([], []), ([], []), ([1], [1]), ([2], [2]), ([0, 3], [0, 3]), ([], []), ([], []), ([6], [6]), ([5, 7], [5, 7]), ([4, 8, 4], [4, 8]), ([9, 9, 0, 1, 2, 3, 4, 5, 6, 7, 8, 9], [0, 9])])
def spec_l19Apply.B8 : List Nat := [0, 0, 2, 6, 15, 0, 0, 64, 224, 511, 1023]
theorem spec_l19Apply.tab8 : rtab .any (opsOf Try.f66 8) = spec_l19Apply.T8 := by kernel_rfl
theorem spec_l19Apply.bits8 : waitsOk spec_l19Apply.T8.2 spec_l19Apply.B8 = true := by kernel_rfl
set_option maxHeartbeats 8000000 in
set_option maxRecDepth 100000 in
theorem spec_l19Apply.calls (k : Nat) (A0 : Option Addr) (c0 : Nat) (l0 : List (S26)) (a1_0 a1_1 a1_2 a1_3 a1_4 a1_5 a1_6 a1_7 a1_8 a1_9 a1_10 a1_11 : Int) (r1 : List (S26)) (r2 : Bool) (w : World) (hr0 : Kd.C k26 w A0 l0.length l0) (hc0 : l0.length ≤ c0) (h : spec_l19Apply.f k l0 a1_0 a1_1 a1_2 a1_3 a1_4 a1_5 a1_6 a1_7 a1_8 a1_9 a1_10 a1_11 = some (r1, r2)) :
  Calls Try.prog 66 #[.slice A0 l0.length c0, .agg #[.int .i64 a1_0, .int .i64 a1_1, .int .i64 a1_2, .int .i64 a1_3, .int .i64 a1_4, .int .i64 a1_5, .int .i64 a1_6, .int .i64 a1_7, .int .i64 a1_8, .int .i64 a1_9, .int .i64 a1_10, .int .i64 a1_11]] w fun e w' => ∃ v0_ : Value, e = .returned (.tuple #[v0_, .bool r2]) ∧ Kd.R k26 26 w' w.heap.size (fun _ => True) v0_ r1 ∧ Below w.heap.size w w' := by
 have hu28 := Try.underlying28
 have hu26 := Try.underlying26
 have HR0 := Aside0.mk hr0
 have HC0 := Aside0.mk hc0
 clear hr0 hc0
 have HB := Aside0.mk (Below.refl w.heap.size w)
 have H := h
 clear h
 unfold spec_l19Apply.f at H
 obtain ⟨y218, hy218⟩ : ∃ y_ : List (S26), y_ = (([] : List (S26))) := ⟨_, rfl⟩
 replace H : ((spec_l19Valid.f a1_0 a1_1 a1_2 a1_3 a1_4 a1_5 a1_6 a1_7 a1_8 a1_9 a1_10 a1_11).bind fun t221 => (if t221 = true then (if a1_1 > (l0.length : Int) then (spec_l19Apply.j0 k l0 y218 true a1_0 a1_1 a1_2 a1_3 a1_4 a1_5 a1_6 a1_7 a1_8 a1_9 a1_10 a1_11) else (if a1_0 = 1 then (spec_l19Apply.j0 k l0 y218 false a1_0 a1_1 a1_2 a1_3 a1_4 a1_5 a1_6 a1_7 a1_8 a1_9 a1_10 a1_11) else (if a1_1 = (l0.length : Int) then (spec_l19Apply.j0 k l0 y218 true a1_0 a1_1 a1_2 a1_3 a1_4 a1_5 a1_6 a1_7 a1_8 a1_9 a1_10 a1_11) else (if 0 ≤ a1_1 then (if a1_1 < (l0.length : Int) then (spec_l19Apply.j0 k l0 y218 (!(((rd_T26 l0 a1_1).f0) == a1_2) || (!(((rd_T26 l0 a1_1).f1) == a1_3) || (!(((rd_T26 l0 a1_1).f2) == a1_4) || (!(((rd_T26 l0 a1_1).f3) == a1_5) || (!(((rd_T26 l0 a1_1).f4) == a1_6)))))) a1_0 a1_1 a1_2 a1_3 a1_4 a1_5 a1_6 a1_7 a1_8 a1_9 a1_10 a1_11) else (none)) else (none))))) else (spec_l19Apply.j0 k l0 y218 true a1_0 a1_1 a1_2 a1_3 a1_4 a1_5 a1_6 a1_7 a1_8 a1_9 a1_10 a1_11))) = some (r1, r2) := by first | (rw [hy218]; with_reducible exact H) | (have H2_ := (Option.bind_some _ _).symm.trans H; rw [hy218]; with_reducible exact H2_) | (have H2_ := (Option.bind_some _ _).symm.trans H; with_reducible exact H2_) | with_reducible exact H | (rw [hy218]; exact H) | exact H
 have Ny218 := Aside0.mk hy218
 clear hy218
 have HC3 := Aside0.mk H
 clear H
 go_enter Try.func66, Try.ntmps66
 go_upto_region 2 with (first | ((with_reducible refine gD 3 ?_); (try (refine gate_guard (by rfl) ?_; dsimp only)); refine bxE 3 28 #[.int .i64 a1_0, .int .i64 a1_1, .int .i64 a1_2, .int .i64 a1_3, .int .i64 a1_4, .int .i64 a1_5, .int .i64 a1_6, .int .i64 a1_7, .int .i64 a1_8, .int .i64 a1_9, .int .i64 a1_10, .int .i64 a1_11] fun gb217 w4 hg hbox hb => ?_; have BK217 := Aside0.mk hbox; have GE217 := gB HB hg; replace HB := uB HB hb; clear hb hbox hg) | ((with_reducible refine gate_dst (N := 7) rfl ?_); (try (refine gate_guard (by rfl) ?_; dsimp only)); refine Kd.R_lit k26 _ 26 ?hg (N := 7) ?hd (xs := ([] : List (S26))) (inner := []) (ok := fun _ => True) (okp := fun _ => True) ?hr ?hp (fun _ hk => hk) trivial (Below.refl _ _) (Nat.le_refl _) (by simp) ?_; (case hd => rfl); (case hg => rfl); (case hr => first | (go_simp; done) | (go_simp; rfl)); (case hp => exact (Reps.none _ _)); intro v219 w5 ho6 hb hg_ hnew_; clear hg_ hnew_; (first | rw [← Ny218.out] at ho6 | (simp only [Int.reduceToNat] at ho6; rw [← Ny218.out] at ho6)); have HO220 := Aside0.mk (Kd.R_lower ho6 (below_size (bW HB))); replace BK217 := uK BK217 hb; replace HB := uB HB hb; clear hb ho6))
 (try simp only [Act.put, List.setIfInBounds_toArray, List.set_cons_zero, List.set_cons_succ])
 go_cut [39] (fun v39 wc => ∃ (kq : Nat) (x39_2 : Bool), v39 = .bool x39_2 ∧ Aside0 (spec_l19Apply.j0 kq l0 y218 x39_2 a1_0 a1_1 a1_2 a1_3 a1_4 a1_5 a1_6 a1_7 a1_8 a1_9 a1_10 a1_11 = some (r1, r2)) ∧ Aside0 (kq ≤ k) ∧ Aside0 (Kd.R k26 26 wc w.heap.size (fun _ => True) v219 y218) ∧ Aside0 (wc.heap[gb217]? = some (.cells #[.int .i64 a1_0, .int .i64 a1_1, .int .i64 a1_2, .int .i64 a1_3, .int .i64 a1_4, .int .i64 a1_5, .int .i64 a1_6, .int .i64 a1_7, .int .i64 a1_8, .int .i64 a1_9, .int .i64 a1_10, .int .i64 a1_11] 28 (0, 0))) ∧ Aside0 (Below w.heap.size w wc))
 case first =>
  have H := HC3.out
  clear HC3
  replace H := bA H
  obtain ⟨t221, A7, H⟩ := H
  rcases Bool.eq_false_or_eq_true t221 with rfl | rfl
  ·replace H := iT rfl H
   replace H := ifD H
   rcases H with ⟨H, -, c9b0⟩ | ⟨H, -, c9b0⟩
   ·(first | rw [c9b0] | (simp only [i64_w, i32_w]; rw [c9b0]) | skip)
    have H' := Aside0.mk H
    clear H
    try go_wp2
    replace HO220 := Aside0.mk (Kd.R_drew HO220.out)
    replace BK217 := dK BK217
    replace HB := Aside0.mk (below_drew1 HB.out)
    refine sA (n := 32) (S := fun w' => w'.cell? ⟨gb217, 0, none⟩ = some (.int .i64 a1_0) ∧ w'.cell? ⟨gb217, 1, none⟩ = some (.int .i64 a1_1) ∧ w'.cell? ⟨gb217, 2, none⟩ = some (.int .i64 a1_2) ∧ w'.cell? ⟨gb217, 3, none⟩ = some (.int .i64 a1_3) ∧ w'.cell? ⟨gb217, 4, none⟩ = some (.int .i64 a1_4) ∧ w'.cell? ⟨gb217, 5, none⟩ = some (.int .i64 a1_5) ∧ w'.cell? ⟨gb217, 6, none⟩ = some (.int .i64 a1_6) ∧ w'.cell? ⟨gb217, 7, none⟩ = some (.int .i64 a1_7) ∧ w'.cell? ⟨gb217, 8, none⟩ = some (.int .i64 a1_8) ∧ w'.cell? ⟨gb217, 9, none⟩ = some (.int .i64 a1_9) ∧ w'.cell? ⟨gb217, 10, none⟩ = some (.int .i64 a1_10) ∧ w'.cell? ⟨gb217, 11, none⟩ = some (.int .i64 a1_11)) (ds := []) spec_l19Apply.tab2 spec_l19Apply.bits2 #[false, false, false, false, false, false, false, false, false, false, false, false, false, false, false, false, false, false, false, false, false, false, false, false, false, false, false, false, false, false, false, false] ⟨cb BK217 0, cb BK217 1, cb BK217 2, cb BK217 3, cb BK217 4, cb BK217 5, cb BK217 6, cb BK217 7, cb BK217 8, cb BK217 9, cb BK217 10, cb BK217 11⟩ fun hHeld HT_ HW_ => ?_
    generalize w5.drew = w10 at HO220 BK217 HB hHeld ⊢
    refine tA 0 8 HT_ HW_ hHeld ?_
    refine oA 1 (some 9) HT_ fun K hK => ?_
    refine rA Try.func58 (spec_l19Valid.calls a1_0 a1_1 a1_2 a1_3 a1_4 a1_5 a1_6 a1_7 a1_8 a1_9 a1_10 a1_11 true _ A7.out) ?_
    intro w11 hb
    replace HO220 := uR HO220 hb
    replace BK217 := uK BK217 hb
    replace HB := uB HB hb
    (try clear hb)
    (try clear hk)
    refine hK.out _ _ ⟨cb BK217 0, cb BK217 1, cb BK217 2, cb BK217 3, cb BK217 4, cb BK217 5, cb BK217 6, cb BK217 7, cb BK217 8, cb BK217 9, cb BK217 10, cb BK217 11⟩ (fun hHeld => ?_)
    clear hK K
    refine nA ?_ (some 9)
    refine pA 2 10 HT_ ?_
    refine pA 3 11 HT_ ?_
    refine pA 4 12 HT_ ?_
    refine pA 6 14 HT_ ?_
    refine pA 7 15 HT_ ?_
    refine tA 5 13 HT_ HW_ hHeld ?_
    refine pA 8 16 HT_ ?_
    refine pA 9 17 HT_ ?_
    refine pA 10 18 HT_ ?_
    refine pU 11 19 HT_ ?_
    refine pU 12 20 HT_ ?_
    refine pU 13 21 HT_ ?_
    refine pU 14 22 HT_ ?_
    refine pU 15 23 HT_ ?_
    refine pU 16 24 HT_ ?_
    refine pU 17 25 HT_ ?_
    refine pU 18 26 HT_ ?_
    refine pU 19 27 HT_ ?_
    refine pU 20 28 HT_ ?_
    refine pU 21 29 HT_ ?_
    refine pU 22 30 HT_ ?_
    refine pU 23 31 HT_ ?_
    refine pU 24 32 HT_ ?_
    refine pU 25 33 HT_ ?_
    refine pU 26 34 HT_ ?_
    refine pU 27 35 HT_ ?_
    refine pU 28 36 HT_ ?_
    refine pU 29 37 HT_ ?_
    refine pU 30 38 HT_ ?_
    refine pA 31 39 HT_ ?_
    refine done_ (done_of HT_.out (by kernel_rfl)) ?_
    try go_wp2
    go_meet
    case rel => exact ⟨_, (true), rB, H', leB, ⟨upR HO220.out⟩, (aK BK217), (aB HB)⟩
   ·(first | rw [c9b0] | (simp only [i64_w, i32_w]; rw [c9b0]) | skip)
    replace H := ifI H
    rcases H with ⟨H, -, c12b0, c12b1⟩ | ⟨H, c12, c12b0, c12b1⟩
    ·have H' := Aside0.mk H
     clear H
     try go_wp2
     replace HO220 := Aside0.mk (Kd.R_drew HO220.out)
     replace BK217 := dK BK217
     replace HB := Aside0.mk (below_drew1 HB.out)
     refine sA (n := 32) (S := fun w' => w'.cell? ⟨gb217, 0, none⟩ = some (.int .i64 a1_0) ∧ w'.cell? ⟨gb217, 1, none⟩ = some (.int .i64 a1_1) ∧ w'.cell? ⟨gb217, 2, none⟩ = some (.int .i64 a1_2) ∧ w'.cell? ⟨gb217, 3, none⟩ = some (.int .i64 a1_3) ∧ w'.cell? ⟨gb217, 4, none⟩ = some (.int .i64 a1_4) ∧ w'.cell? ⟨gb217, 5, none⟩ = some (.int .i64 a1_5) ∧ w'.cell? ⟨gb217, 6, none⟩ = some (.int .i64 a1_6) ∧ w'.cell? ⟨gb217, 7, none⟩ = some (.int .i64 a1_7) ∧ w'.cell? ⟨gb217, 8, none⟩ = some (.int .i64 a1_8) ∧ w'.cell? ⟨gb217, 9, none⟩ = some (.int .i64 a1_9) ∧ w'.cell? ⟨gb217, 10, none⟩ = some (.int .i64 a1_10) ∧ w'.cell? ⟨gb217, 11, none⟩ = some (.int .i64 a1_11)) (ds := []) spec_l19Apply.tab2 spec_l19Apply.bits2 #[false, false, false, false, false, false, false, false, false, false, false, false, false, false, false, false, false, false, false, false, false, false, false, false, false, false, false, false, false, false, false, false] ⟨cb BK217 0, cb BK217 1, cb BK217 2, cb BK217 3, cb BK217 4, cb BK217 5, cb BK217 6, cb BK217 7, cb BK217 8, cb BK217 9, cb BK217 10, cb BK217 11⟩ fun hHeld HT_ HW_ => ?_
     generalize w5.drew = w13 at HO220 BK217 HB hHeld ⊢
     refine tA 0 8 HT_ HW_ hHeld ?_
     refine oA 1 (some 9) HT_ fun K hK => ?_
     refine rA Try.func58 (spec_l19Valid.calls a1_0 a1_1 a1_2 a1_3 a1_4 a1_5 a1_6 a1_7 a1_8 a1_9 a1_10 a1_11 true _ A7.out) ?_
     intro w14 hb
     replace HO220 := uR HO220 hb
     replace BK217 := uK BK217 hb
     replace HB := uB HB hb
     (try clear hb)
     (try clear hk)
     refine hK.out _ _ ⟨cb BK217 0, cb BK217 1, cb BK217 2, cb BK217 3, cb BK217 4, cb BK217 5, cb BK217 6, cb BK217 7, cb BK217 8, cb BK217 9, cb BK217 10, cb BK217 11⟩ (fun hHeld => ?_)
     clear hK K
     refine nA ?_ (some 9)
     refine pA 2 10 HT_ ?_
     refine pA 3 11 HT_ ?_
     refine pA 4 12 HT_ ?_
     refine pA 6 14 HT_ ?_
     refine pA 7 15 HT_ ?_
     refine tA 5 13 HT_ HW_ hHeld ?_
     refine pA 8 16 HT_ ?_
     refine pA 9 17 HT_ ?_
     refine pA 10 18 HT_ ?_
     refine pA 11 19 HT_ ?_
     refine tA 12 20 HT_ HW_ hHeld ?_
     refine pA 13 21 HT_ ?_
     refine pA 14 22 HT_ ?_
     refine pU 15 23 HT_ ?_
     refine pU 16 24 HT_ ?_
     refine pU 17 25 HT_ ?_
     refine pU 18 26 HT_ ?_
     refine pU 19 27 HT_ ?_
     refine pU 20 28 HT_ ?_
     refine pU 21 29 HT_ ?_
     refine pU 22 30 HT_ ?_
     refine pU 23 31 HT_ ?_
     refine pU 24 32 HT_ ?_
     refine pU 25 33 HT_ ?_
     refine pU 26 34 HT_ ?_
     refine pU 27 35 HT_ ?_
     refine pU 28 36 HT_ ?_
     refine pU 29 37 HT_ ?_
     refine pA 30 38 HT_ ?_
     refine pA 31 39 HT_ ?_
     refine done_ (done_of HT_.out (by kernel_rfl)) ?_
     try go_wp2
     go_meet
     case rel => exact ⟨_, (false), rB, H', leB, ⟨upR HO220.out⟩, (aK BK217), (aB HB)⟩
    ·replace H := ifI H
     rcases H with ⟨H, -, c15b0, c15b1⟩ | ⟨H, c15, c15b0, c15b1⟩
     ·have H' := Aside0.mk H
      clear H
      try go_wp2
      replace HO220 := Aside0.mk (Kd.R_drew HO220.out)
      replace BK217 := dK BK217
      replace HB := Aside0.mk (below_drew1 HB.out)
      refine sA (n := 32) (S := fun w' => w'.cell? ⟨gb217, 0, none⟩ = some (.int .i64 a1_0) ∧ w'.cell? ⟨gb217, 1, none⟩ = some (.int .i64 a1_1) ∧ w'.cell? ⟨gb217, 2, none⟩ = some (.int .i64 a1_2) ∧ w'.cell? ⟨gb217, 3, none⟩ = some (.int .i64 a1_3) ∧ w'.cell? ⟨gb217, 4, none⟩ = some (.int .i64 a1_4) ∧ w'.cell? ⟨gb217, 5, none⟩ = some (.int .i64 a1_5) ∧ w'.cell? ⟨gb217, 6, none⟩ = some (.int .i64 a1_6) ∧ w'.cell? ⟨gb217, 7, none⟩ = some (.int .i64 a1_7) ∧ w'.cell? ⟨gb217, 8, none⟩ = some (.int .i64 a1_8) ∧ w'.cell? ⟨gb217, 9, none⟩ = some (.int .i64 a1_9) ∧ w'.cell? ⟨gb217, 10, none⟩ = some (.int .i64 a1_10) ∧ w'.cell? ⟨gb217, 11, none⟩ = some (.int .i64 a1_11)) (ds := []) spec_l19Apply.tab2 spec_l19Apply.bits2 #[false, false, false, false, false, false, false, false, false, false, false, false, false, false, false, false, false, false, false, false, false, false, false, false, false, false, false, false, false, false, false, false] ⟨cb BK217 0, cb BK217 1, cb BK217 2, cb BK217 3, cb BK217 4, cb BK217 5, cb BK217 6, cb BK217 7, cb BK217 8, cb BK217 9, cb BK217 10, cb BK217 11⟩ fun hHeld HT_ HW_ => ?_
      generalize w5.drew = w16 at HO220 BK217 HB hHeld ⊢
      refine tA 0 8 HT_ HW_ hHeld ?_
      refine oA 1 (some 9) HT_ fun K hK => ?_
      refine rA Try.func58 (spec_l19Valid.calls a1_0 a1_1 a1_2 a1_3 a1_4 a1_5 a1_6 a1_7 a1_8 a1_9 a1_10 a1_11 true _ A7.out) ?_
      intro w17 hb
      replace HO220 := uR HO220 hb
      replace BK217 := uK BK217 hb
      replace HB := uB HB hb
      (try clear hb)
      (try clear hk)
      refine hK.out _ _ ⟨cb BK217 0, cb BK217 1, cb BK217 2, cb BK217 3, cb BK217 4, cb BK217 5, cb BK217 6, cb BK217 7, cb BK217 8, cb BK217 9, cb BK217 10, cb BK217 11⟩ (fun hHeld => ?_)
      clear hK K
      refine nA ?_ (some 9)
      refine pA 2 10 HT_ ?_
      refine pA 3 11 HT_ ?_
      refine pA 4 12 HT_ ?_
      refine pA 6 14 HT_ ?_
      refine pA 7 15 HT_ ?_
      refine tA 5 13 HT_ HW_ hHeld ?_
      refine pA 8 16 HT_ ?_
      refine pA 9 17 HT_ ?_
      refine pA 10 18 HT_ ?_
      refine pA 11 19 HT_ ?_
      refine tA 12 20 HT_ HW_ hHeld ?_
      refine pA 13 21 HT_ ?_
      refine pA 14 22 HT_ ?_
      refine pA 15 23 HT_ ?_
      refine pA 17 25 HT_ ?_
      refine pA 18 26 HT_ ?_
      refine tA 16 24 HT_ HW_ hHeld ?_
      refine pA 19 27 HT_ ?_
      refine pA 20 28 HT_ ?_
      refine pU 21 29 HT_ ?_
      refine pU 22 30 HT_ ?_
      refine pU 23 31 HT_ ?_
      refine pU 24 32 HT_ ?_
      refine pU 25 33 HT_ ?_
      refine pU 26 34 HT_ ?_
      refine pU 27 35 HT_ ?_
      refine pU 28 36 HT_ ?_
      refine pA 29 37 HT_ ?_
      refine pA 30 38 HT_ ?_
      refine pA 31 39 HT_ ?_
      refine done_ (done_of HT_.out (by kernel_rfl)) ?_
      try go_wp2
      go_meet
      case rel => exact ⟨_, (true), rB, H', leB, ⟨upR HO220.out⟩, (aK BK217), (aB HB)⟩
     ·by_cases c18 : 0 ≤ a1_1
      ·rw [if_pos c18] at H
       have c18b0 : decide (0 ≤ a1_1) = true := decide_eq_true c18
       clear c18
       by_cases c19 : a1_1 < (l0.length : Int)
       ·rw [if_pos c19] at H
        have c19b0 : decide (a1_1 < (l0.length : Int)) = true := decide_eq_true c19
        clear c19
        have H' := Aside0.mk H
        clear H
        try go_wp2
        replace HO220 := Aside0.mk (Kd.R_drew HO220.out)
        replace BK217 := dK BK217
        replace HB := Aside0.mk (below_drew1 HB.out)
        have p222 : 0 ≤ (a1_1 : Int) := of_decide_eq_true asmB
        have q222 : a1_1 < (l0.length : Int) := of_decide_eq_true asmB
        obtain ⟨ad222, e222, hx222_0, hx222_1, hx222_2, hx222_3, hx222_4⟩ := at_T26 HR0.out a1_1 p222 q222
        have hw222_4 := hx222_4
        have hw222_3 := hx222_3
        have hw222_2 := hx222_2
        have hw222_1 := hx222_1
        have hw222_0 := hx222_0
        cases e222
        replace hx222_0 := bx HB.out hx222_0
        replace hx222_1 := bx HB.out hx222_1
        replace hx222_2 := bx HB.out hx222_2
        replace hx222_3 := bx HB.out hx222_3
        replace hx222_4 := bx HB.out hx222_4
        replace p222 := eq_true p222
        replace q222 := eq_true q222
        refine sA (n := 32) (S := fun w' => w'.cell? ⟨gb217, 0, none⟩ = some (.int .i64 a1_0) ∧ w'.cell? ⟨gb217, 1, none⟩ = some (.int .i64 a1_1) ∧ w'.cell? ⟨gb217, 2, none⟩ = some (.int .i64 a1_2) ∧ w'.cell? ⟨gb217, 3, none⟩ = some (.int .i64 a1_3) ∧ w'.cell? ⟨gb217, 4, none⟩ = some (.int .i64 a1_4) ∧ w'.cell? ⟨gb217, 5, none⟩ = some (.int .i64 a1_5) ∧ w'.cell? ⟨gb217, 6, none⟩ = some (.int .i64 a1_6) ∧ w'.cell? ⟨gb217, 7, none⟩ = some (.int .i64 a1_7) ∧ w'.cell? ⟨gb217, 8, none⟩ = some (.int .i64 a1_8) ∧ w'.cell? ⟨gb217, 9, none⟩ = some (.int .i64 a1_9) ∧ w'.cell? ⟨gb217, 10, none⟩ = some (.int .i64 a1_10) ∧ w'.cell? ⟨gb217, 11, none⟩ = some (.int .i64 a1_11) ∧ w'.cell? (ad222.add ((a1_1).toNat * 5)) = some (.int .i64 ((rd_T26 l0 a1_1).f0)) ∧ w'.cell? ⟨(ad222.add ((a1_1).toNat * 5)).block, (ad222.add ((a1_1).toNat * 5)).off + 1, none⟩ = some (.int .i64 ((rd_T26 l0 a1_1).f1)) ∧ w'.cell? ⟨(ad222.add ((a1_1).toNat * 5)).block, (ad222.add ((a1_1).toNat * 5)).off + 2, none⟩ = some (.int .i64 ((rd_T26 l0 a1_1).f2)) ∧ w'.cell? ⟨(ad222.add ((a1_1).toNat * 5)).block, (ad222.add ((a1_1).toNat * 5)).off + 3, none⟩ = some (.int .i64 ((rd_T26 l0 a1_1).f3)) ∧ w'.cell? ⟨(ad222.add ((a1_1).toNat * 5)).block, (ad222.add ((a1_1).toNat * 5)).off + 4, none⟩ = some (.int .i64 ((rd_T26 l0 a1_1).f4))) (ds := []) spec_l19Apply.tab2 spec_l19Apply.bits2 #[false, false, false, false, false, false, false, false, false, false, false, false, false, false, false, false, false, false, false, false, false, false, false, false, false, false, false, false, false, false, false, false] ⟨cb BK217 0, cb BK217 1, cb BK217 2, cb BK217 3, cb BK217 4, cb BK217 5, cb BK217 6, cb BK217 7, cb BK217 8, cb BK217 9, cb BK217 10, cb BK217 11, (bX HB hw222_0), (bX HB hw222_1), (bX HB hw222_2), (bX HB hw222_3), (bX HB hw222_4)⟩ fun hHeld HT_ HW_ => ?_
        generalize w5.drew = w20 at HO220 BK217 HB hx222_0 hx222_1 hx222_2 hx222_3 hx222_4 hHeld ⊢
        refine tA 0 8 HT_ HW_ hHeld ?_
        refine oA 1 (some 9) HT_ fun K hK => ?_
        refine rA Try.func58 (spec_l19Valid.calls a1_0 a1_1 a1_2 a1_3 a1_4 a1_5 a1_6 a1_7 a1_8 a1_9 a1_10 a1_11 true _ A7.out) ?_
        intro w21 hb
        replace HO220 := uR HO220 hb
        replace BK217 := uK BK217 hb
        replace HB := uB HB hb
        (try clear hb)
        (try clear hk)
        refine hK.out _ _ ⟨cb BK217 0, cb BK217 1, cb BK217 2, cb BK217 3, cb BK217 4, cb BK217 5, cb BK217 6, cb BK217 7, cb BK217 8, cb BK217 9, cb BK217 10, cb BK217 11, (bX HB hw222_0), (bX HB hw222_1), (bX HB hw222_2), (bX HB hw222_3), (bX HB hw222_4)⟩ (fun hHeld => ?_)
        clear hK K
        refine nA ?_ (some 9)
        refine pA 2 10 HT_ ?_
        refine pA 3 11 HT_ ?_
        refine pA 4 12 HT_ ?_
        refine pA 6 14 HT_ ?_
        refine pA 7 15 HT_ ?_
        refine tA 5 13 HT_ HW_ hHeld ?_
        refine pA 8 16 HT_ ?_
        refine pA 9 17 HT_ ?_
        refine pA 10 18 HT_ ?_
        refine pA 11 19 HT_ ?_
        refine tA 12 20 HT_ HW_ hHeld ?_
        refine pA 13 21 HT_ ?_
        refine pA 14 22 HT_ ?_
        refine pA 15 23 HT_ ?_
        refine pA 17 25 HT_ ?_
        refine pA 18 26 HT_ ?_
        refine tA 16 24 HT_ HW_ hHeld ?_
        refine pA 19 27 HT_ ?_
        refine pA 20 28 HT_ ?_
        refine pA 21 29 HT_ ?_
        refine pA 22 30 HT_ ?_
        refine pA 26 34 HT_ ?_
        refine tA 23 31 HT_ HW_ hHeld ?_
        refine pA 24 32 HT_ ?_
        refine tA 25 33 HT_ HW_ hHeld ?_
        refine tA 27 35 HT_ HW_ hHeld ?_
        refine pA 28 36 HT_ ?_
        refine pA 29 37 HT_ ?_
        refine pA 30 38 HT_ ?_
        refine pA 31 39 HT_ ?_
        refine done_ (done_of HT_.out (by kernel_rfl)) ?_
        try go_wp2
        go_meet
        case rel => exact ⟨_, ((!(((rd_T26 l0 a1_1).f0) == a1_2) || (!(((rd_T26 l0 a1_1).f1) == a1_3) || (!(((rd_T26 l0 a1_1).f2) == a1_4) || (!(((rd_T26 l0 a1_1).f3) == a1_5) || (!(((rd_T26 l0 a1_1).f4) == a1_6))))))), rB, H', leB, ⟨upR HO220.out⟩, (aK BK217), (aB HB)⟩
       ·rw [if_neg c19] at H
        exact absurd H (by simp)
      ·rw [if_neg c18] at H
       exact absurd H (by simp)
  ·replace H := iF (by decide) H
   have H' := Aside0.mk H
   clear H
   try go_wp2
   replace HO220 := Aside0.mk (Kd.R_drew HO220.out)
   replace BK217 := dK BK217
   replace HB := Aside0.mk (below_drew1 HB.out)
   refine sA (n := 32) (S := fun w' => w'.cell? ⟨gb217, 0, none⟩ = some (.int .i64 a1_0) ∧ w'.cell? ⟨gb217, 1, none⟩ = some (.int .i64 a1_1) ∧ w'.cell? ⟨gb217, 2, none⟩ = some (.int .i64 a1_2) ∧ w'.cell? ⟨gb217, 3, none⟩ = some (.int .i64 a1_3) ∧ w'.cell? ⟨gb217, 4, none⟩ = some (.int .i64 a1_4) ∧ w'.cell? ⟨gb217, 5, none⟩ = some (.int .i64 a1_5) ∧ w'.cell? ⟨gb217, 6, none⟩ = some (.int .i64 a1_6) ∧ w'.cell? ⟨gb217, 7, none⟩ = some (.int .i64 a1_7) ∧ w'.cell? ⟨gb217, 8, none⟩ = some (.int .i64 a1_8) ∧ w'.cell? ⟨gb217, 9, none⟩ = some (.int .i64 a1_9) ∧ w'.cell? ⟨gb217, 10, none⟩ = some (.int .i64 a1_10) ∧ w'.cell? ⟨gb217, 11, none⟩ = some (.int .i64 a1_11)) (ds := []) spec_l19Apply.tab2 spec_l19Apply.bits2 #[false, false, false, false, false, false, false, false, false, false, false, false, false, false, false, false, false, false, false, false, false, false, false, false, false, false, false, false, false, false, false, false] ⟨cb BK217 0, cb BK217 1, cb BK217 2, cb BK217 3, cb BK217 4, cb BK217 5, cb BK217 6, cb BK217 7, cb BK217 8, cb BK217 9, cb BK217 10, cb BK217 11⟩ fun hHeld HT_ HW_ => ?_
   generalize w5.drew = w22 at HO220 BK217 HB hHeld ⊢
   refine tA 0 8 HT_ HW_ hHeld ?_
   refine oA 1 (some 9) HT_ fun K hK => ?_
   refine rA Try.func58 (spec_l19Valid.calls a1_0 a1_1 a1_2 a1_3 a1_4 a1_5 a1_6 a1_7 a1_8 a1_9 a1_10 a1_11 false _ A7.out) ?_
   intro w23 hb
   replace HO220 := uR HO220 hb
   replace BK217 := uK BK217 hb
   replace HB := uB HB hb
   (try clear hb)
   (try clear hk)
   refine hK.out _ _ ⟨cb BK217 0, cb BK217 1, cb BK217 2, cb BK217 3, cb BK217 4, cb BK217 5, cb BK217 6, cb BK217 7, cb BK217 8, cb BK217 9, cb BK217 10, cb BK217 11⟩ (fun hHeld => ?_)
   clear hK K
   refine nA ?_ (some 9)
   refine pA 2 10 HT_ ?_
   refine pA 3 11 HT_ ?_
   refine pU 4 12 HT_ ?_
   refine pU 5 13 HT_ ?_
   refine pU 6 14 HT_ ?_
   refine pU 7 15 HT_ ?_
   refine pU 8 16 HT_ ?_
   refine pA 9 17 HT_ ?_
   refine pA 10 18 HT_ ?_
   refine pU 11 19 HT_ ?_
   refine pU 12 20 HT_ ?_
   refine pU 13 21 HT_ ?_
   refine pU 14 22 HT_ ?_
   refine pU 15 23 HT_ ?_
   refine pU 16 24 HT_ ?_
   refine pU 17 25 HT_ ?_
   refine pU 18 26 HT_ ?_
   refine pU 19 27 HT_ ?_
   refine pU 20 28 HT_ ?_
   refine pU 21 29 HT_ ?_
   refine pU 22 30 HT_ ?_
   refine pU 23 31 HT_ ?_
   refine pU 24 32 HT_ ?_
   refine pU 25 33 HT_ ?_
   refine pU 26 34 HT_ ?_
   refine pU 27 35 HT_ ?_
   refine pU 28 36 HT_ ?_
   refine pU 29 37 HT_ ?_
   refine pU 30 38 HT_ ?_
   refine pA 31 39 HT_ ?_
   refine done_ (done_of HT_.out (by kernel_rfl)) ?_
   try go_wp2
   go_meet
   case rel => exact ⟨_, (true), rB, H', leB, ⟨upR HO220.out⟩, (aK BK217), (aB HB)⟩
 case rest =>
  clear HC3
  obtain ⟨kq, x39_2, rfl, HA, HJ2, HO_6, BK217, HB⟩ := hcut
  cases kq with
  | zero => exact absurd HA.out (by simp [spec_l19Apply.j0])
  | succ kj2 =>
   have H := HA.out
   clear HA
   simp only [spec_l19Apply.j0] at H
   rcases Bool.eq_false_or_eq_true x39_2 with rfl | rfl
   ·replace H := iT rfl H
    simp only [Option.some.injEq, Prod.mk.injEq] at H
    obtain ⟨rfl, rfl⟩ := H
    go_wp2
    go_ret2
    exact ⟨_, eB, upR HO_6.out, (bW HB)⟩
   ·replace H := iF (by decide) H
    by_cases c25 : 0 ≤ a1_1
    ·rw [if_pos c25] at H
     have c25b0 := eq_true c25
     have c25b1 : decide (0 ≤ a1_1) = true := decide_eq_true c25
     clear c25
     by_cases c26 : a1_1 ≤ (l0.length : Int)
     ·rw [if_pos c26] at H
      have c26b0 := eq_true c26
      have c26b1 : decide (a1_1 ≤ (l0.length : Int)) = true := decide_eq_true c26
      clear c26
      obtain ⟨y223, hy223⟩ : ∃ y_ : List (S26), y_ = (l0.take (a1_1 : Int).toNat) := ⟨_, rfl⟩
      replace H : (if y218.length + y223.length < 3518437208883 then ((some (y218 ++ y223 : List (S26))).bind fun y227 => (if a1_0 = 1 then (if y227.length < 3518437208883 then ((some (y227 ++ [(⟨a1_7, a1_8, a1_9, a1_10, a1_11⟩ : S26)] : List (S26))).bind fun y230 => ((some (l0.drop (a1_1 : Int).toNat : List (S26))).bind fun y233 => (if y230.length + y233.length < 3518437208883 then ((some (y230 ++ y233 : List (S26))).bind fun y237 => (some (y237, decide ((y237.length : Int) ≤ 12)))) else (none)))) else (none)) else (if a1_0 = 2 then (if 0 ≤ (wrap64 (a1_1 + 1)) then (if (wrap64 (a1_1 + 1)) ≤ (l0.length : Int) then ((some (l0.drop ((wrap64 (a1_1 + 1)) : Int).toNat : List (S26))).bind fun y240 => (if y227.length + y240.length < 3518437208883 then ((some (y227 ++ y240 : List (S26))).bind fun y244 => (some (y244, decide ((y244.length : Int) ≤ 12)))) else (none))) else (none)) else (none)) else (if y227.length < 3518437208883 then ((some (y227 ++ [(⟨a1_7, a1_8, a1_9, a1_10, a1_11⟩ : S26)] : List (S26))).bind fun y247 => (if 0 ≤ (wrap64 (a1_1 + 1)) then (if (wrap64 (a1_1 + 1)) ≤ (l0.length : Int) then ((some (l0.drop ((wrap64 (a1_1 + 1)) : Int).toNat : List (S26))).bind fun y250 => (if y247.length + y250.length < 3518437208883 then ((some (y247 ++ y250 : List (S26))).bind fun y254 => (some (y254, decide ((y254.length : Int) ≤ 12)))) else (none))) else (none)) else (none))) else (none))))) else (none)) = some (r1, r2) := by first | (rw [hy223]; with_reducible exact H) | (have H2_ := (Option.bind_some _ _).symm.trans H; rw [hy223]; with_reducible exact H2_) | (have H2_ := (Option.bind_some _ _).symm.trans H; with_reducible exact H2_) | with_reducible exact H | (rw [hy223]; exact H) | exact H
      have Ny223 := Aside0.mk hy223
      clear hy223
      by_cases c27 : y218.length + y223.length < 3518437208883
      ·rw [if_pos c27] at H
       have LMc27 := Aside0.mk c27
       clear c27
       obtain ⟨y227, hy227⟩ : ∃ y_ : List (S26), y_ = (y218 ++ y223) := ⟨_, rfl⟩
       replace H : (if a1_0 = 1 then (if y227.length < 3518437208883 then ((some (y227 ++ [(⟨a1_7, a1_8, a1_9, a1_10, a1_11⟩ : S26)] : List (S26))).bind fun y230 => ((some (l0.drop (a1_1 : Int).toNat : List (S26))).bind fun y233 => (if y230.length + y233.length < 3518437208883 then ((some (y230 ++ y233 : List (S26))).bind fun y237 => (some (y237, decide ((y237.length : Int) ≤ 12)))) else (none)))) else (none)) else (if a1_0 = 2 then (if 0 ≤ (wrap64 (a1_1 + 1)) then (if (wrap64 (a1_1 + 1)) ≤ (l0.length : Int) then ((some (l0.drop ((wrap64 (a1_1 + 1)) : Int).toNat : List (S26))).bind fun y240 => (if y227.length + y240.length < 3518437208883 then ((some (y227 ++ y240 : List (S26))).bind fun y244 => (some (y244, decide ((y244.length : Int) ≤ 12)))) else (none))) else (none)) else (none)) else (if y227.length < 3518437208883 then ((some (y227 ++ [(⟨a1_7, a1_8, a1_9, a1_10, a1_11⟩ : S26)] : List (S26))).bind fun y247 => (if 0 ≤ (wrap64 (a1_1 + 1)) then (if (wrap64 (a1_1 + 1)) ≤ (l0.length : Int) then ((some (l0.drop ((wrap64 (a1_1 + 1)) : Int).toNat : List (S26))).bind fun y250 => (if y247.length + y250.length < 3518437208883 then ((some (y247 ++ y250 : List (S26))).bind fun y254 => (some (y254, decide ((y254.length : Int) ≤ 12)))) else (none))) else (none)) else (none))) else (none)))) = some (r1, r2) := by first | (rw [hy227]; with_reducible exact H) | (have H2_ := (Option.bind_some _ _).symm.trans H; rw [hy227]; with_reducible exact H2_) | (have H2_ := (Option.bind_some _ _).symm.trans H; with_reducible exact H2_) | with_reducible exact H | (rw [hy227]; exact H) | exact H
       have Ny227 := Aside0.mk hy227
       clear hy227
       replace H := ifI H
       rcases H with ⟨H, -, c28b0, c28b1⟩ | ⟨H, c28, c28b0, c28b1⟩
       ·by_cases c29 : y227.length < 3518437208883
        ·rw [if_pos c29] at H
         have LMc29 := Aside0.mk c29
         clear c29
         obtain ⟨y230, hy230⟩ : ∃ y_ : List (S26), y_ = (y227 ++ [(⟨a1_7, a1_8, a1_9, a1_10, a1_11⟩ : S26)]) := ⟨_, rfl⟩
         replace H : ((some (l0.drop (a1_1 : Int).toNat : List (S26))).bind fun y233 => (if y230.length + y233.length < 3518437208883 then ((some (y230 ++ y233 : List (S26))).bind fun y237 => (some (y237, decide ((y237.length : Int) ≤ 12)))) else (none))) = some (r1, r2) := by first | (rw [hy230]; with_reducible exact H) | (have H2_ := (Option.bind_some _ _).symm.trans H; rw [hy230]; with_reducible exact H2_) | (have H2_ := (Option.bind_some _ _).symm.trans H; with_reducible exact H2_) | with_reducible exact H | (rw [hy230]; exact H) | exact H
         have Ny230 := Aside0.mk hy230
         clear hy230
         have c30b0 := eq_true (of_decide_eq_true asmB : 0 ≤ a1_1)
         have c31b0 := eq_true (of_decide_eq_true asmB : a1_1 ≤ (l0.length : Int))
         obtain ⟨y233, hy233⟩ : ∃ y_ : List (S26), y_ = (l0.drop (a1_1 : Int).toNat) := ⟨_, rfl⟩
         replace H : (if y230.length + y233.length < 3518437208883 then ((some (y230 ++ y233 : List (S26))).bind fun y237 => (some (y237, decide ((y237.length : Int) ≤ 12)))) else (none)) = some (r1, r2) := by first | (rw [hy233]; with_reducible exact H) | (have H2_ := (Option.bind_some _ _).symm.trans H; rw [hy233]; with_reducible exact H2_) | (have H2_ := (Option.bind_some _ _).symm.trans H; with_reducible exact H2_) | with_reducible exact H | (rw [hy233]; exact H) | exact H
         have Ny233 := Aside0.mk hy233
         clear hy233
         by_cases c32 : y230.length + y233.length < 3518437208883
         ·rw [if_pos c32] at H
          have LMc32 := Aside0.mk c32
          clear c32
          obtain ⟨y237, hy237⟩ : ∃ y_ : List (S26), y_ = (y230 ++ y233) := ⟨_, rfl⟩
          replace H : (some (y237, decide ((y237.length : Int) ≤ 12))) = some (r1, r2) := by first | (rw [hy237]; with_reducible exact H) | (have H2_ := (Option.bind_some _ _).symm.trans H; rw [hy237]; with_reducible exact H2_) | (have H2_ := (Option.bind_some _ _).symm.trans H; with_reducible exact H2_) | with_reducible exact H | (rw [hy237]; exact H) | exact H
          have Ny237 := Aside0.mk hy237
          clear hy237
          simp only [Option.some.injEq, Prod.mk.injEq] at H
          obtain ⟨rfl, rfl⟩ := H
          have ⟨hcz33_0, hcz33_1, hcz33_2, hcz33_3, hcz33_4, hcz33_5, hcz33_6, hcz33_7, hcz33_8, hcz33_9, hcz33_10, hcz33_11, hfz33_0⟩ := cz12 BK217
          have q34 : (a1_1 : Int) ≤ ((l0.length : Int) : Int) := of_decide_eq_true asmB
          obtain ⟨i034, hi034, _, hsz34, _⟩ := info_parts info26
          have hroom34 : l0.length ≤ c0 := HC0.out
          have hC34 : Kd.C k26 _ A0 l0.length l0 := HR0.out
          have hcut34 := cut_to (P := Try.prog) 39 26 .i64 Try.underlying39 hi034 A0 l0.length c0 a1_1 (of_decide_eq_true asmB) q34 hroom34
          have hr34 := Kd.C_take (m := (a1_1 : Int).toNat) hC34 (by omega)
          have hy34 : y223.length = (a1_1 : Int).toNat := (by rw [Ny223.out, List.length_take]; omega)
          rw [← Ny223.out] at hr34
          rw [← hy34] at hcut34
          have HR226 := Aside0.mk hr34
          have HC226 := Aside0.mk (show y223.length ≤ c0 from by omega)
          clear hr34 hC34 hroom34 hi034 hsz34
          have KY34 := Aside0.mk hy34
          clear hy34
          replace q34 := eq_true q34
          try go_wp2_with (first | ((with_reducible refine gate_builtin (b := .append) (xs := #[.tmp 41, .tmp 45]) rfl ?_); (try (refine gate_guard (by rfl) ?_; dsimp only)); at_builtin; refine Kd.R_append_rows k26 (w0 := w) w.heap.size rfl (.tmp 41) (.tmp 45) 39 26 (.agg #[(.int .i64 0), (.int .i64 0), (.int .i64 0), (.int .i64 0), (.int .i64 0)]) 40 rfl Try.underlying39 info26 rfl (by decide) (by omega) v219 y218 y223 _ _ _ (fun _ => True) (fun _ => False) rfl rfl ?aO ?aR (fun _ _ h => h) (fun _ h => h.elim) ?aF ?aB ?aS ?aL ?_; (case aR => repeat (first | exact (Kd.C_below HR226.out HB.out) | (with_reducible refine Kd.C_alloc ?_ _) | (with_reducible refine Kd.C_drewN ?_ _) | (with_reducible refine Kd.C_drew ?_))); (case aB => exact (bW HB)); (case aF => exact (fun _ _ => trivial)); (case aO => exact (upR HO_6.out)); (case aS => exact (below_size (bW HB))); (case aL => have := LMc27.out; omega); intro v228 w35 ho hb hg hat; rw [← Ny227.out] at ho; have HO229 := Aside0.mk (ho); replace BK217 := Aside0.mk (blk_grown (g := gb217) (o := .cells #[.int .i64 a1_0, .int .i64 a1_1, .int .i64 a1_2, .int .i64 a1_3, .int .i64 a1_4, .int .i64 a1_5, .int .i64 a1_6, .int .i64 a1_7, .int .i64 a1_8, .int .i64 a1_9, .int .i64 a1_10, .int .i64 a1_11] 28 (0, 0)) (upK BK217.out) hg (Kd.R_ne HO_6.out BK217.out (by decide))); replace HB := Aside0.mk (hb); clear HO_6; clear ho hb hg hat; have ⟨hcz36_0, hcz36_1, hcz36_2, hcz36_3, hcz36_4, hcz36_5, hcz36_6, hcz36_7, hcz36_8, hcz36_9, hcz36_10, hcz36_11, hfz36_0⟩ := cz12 BK217))
          replace HO229 := Aside0.mk (Kd.R_drew HO229.out)
          replace BK217 := dK BK217
          replace HB := Aside0.mk (below_drew1 HB.out)
          have q38 : (a1_1 : Int) ≤ ((l0.length : Int) : Int) := of_decide_eq_true asmB
          obtain ⟨i038, hi038, _, hsz38, _⟩ := info_parts info26
          have hroom38 : l0.length ≤ c0 := HC0.out
          have hC38 : Kd.C k26 _ A0 l0.length l0 := HR0.out
          have q038 : (0 : Int) ≤ (a1_1 : Int) := of_decide_eq_true asmB
          have hcut38 := cut_from (P := Try.prog) 39 26 .i64 Try.underlying39 hi038 5 hsz38 A0 l0.length c0 a1_1 q038 q38
          have hr38 := Kd.C_drop (m := (a1_1 : Int).toNat) (c := c0) hC38 (by omega) hroom38
          obtain ⟨A38, hA38⟩ : ∃ Az_, Az_ = (if c0 = (a1_1 : Int).toNat then A0 else (A0 : Option Addr).map (·.add ((a1_1 : Int).toNat * 5))) := ⟨_, rfl⟩
          obtain ⟨c38, hc38⟩ : ∃ c1, c1 = c0 - (a1_1 : Int).toNat := ⟨_, rfl⟩
          have hy38 : y233.length = l0.length - (a1_1 : Int).toNat := (by rw [Ny233.out, List.length_drop] <;> omega)
          rw [show (l0).drop (a1_1 : Int).toNat = y233 from Ny233.out.symm] at hr38
          replace hr38 : Kd.C k26 _ A38 y233.length y233 := (by rw [hA38]; exact hr38)
          rw [← hy38, ← hA38, ← hc38] at hcut38
          have HR236 := Aside0.mk hr38
          have HC236 := Aside0.mk (show y233.length ≤ c38 from by rw [hy38, hc38]; exact Nat.sub_le_sub_right hroom38 _)
          clear hr38 hC38 hroom38 hi038 hsz38 hc38
          have KY38 := Aside0.mk hy38
          have KA38 := Aside0.mk hA38
          clear hy38 hA38
          replace q38 := eq_true q38
          refine sA (n := 11) (S := fun w' => w'.cell? ⟨gb217, 0, none⟩ = some (.int .i64 a1_0) ∧ w'.cell? ⟨gb217, 1, none⟩ = some (.int .i64 a1_1) ∧ w'.cell? ⟨gb217, 2, none⟩ = some (.int .i64 a1_2) ∧ w'.cell? ⟨gb217, 3, none⟩ = some (.int .i64 a1_3) ∧ w'.cell? ⟨gb217, 4, none⟩ = some (.int .i64 a1_4) ∧ w'.cell? ⟨gb217, 5, none⟩ = some (.int .i64 a1_5) ∧ w'.cell? ⟨gb217, 6, none⟩ = some (.int .i64 a1_6) ∧ w'.cell? ⟨gb217, 7, none⟩ = some (.int .i64 a1_7) ∧ w'.cell? ⟨gb217, 8, none⟩ = some (.int .i64 a1_8) ∧ w'.cell? ⟨gb217, 9, none⟩ = some (.int .i64 a1_9) ∧ w'.cell? ⟨gb217, 10, none⟩ = some (.int .i64 a1_10) ∧ w'.cell? ⟨gb217, 11, none⟩ = some (.int .i64 a1_11)) (ds := []) spec_l19Apply.tab8 spec_l19Apply.bits8 #[false, false, false, false, false, false, false, false, false, false, false] ⟨cb BK217 0, cb BK217 1, cb BK217 2, cb BK217 3, cb BK217 4, cb BK217 5, cb BK217 6, cb BK217 7, cb BK217 8, cb BK217 9, cb BK217 10, cb BK217 11⟩ fun hHeld HT_ HW_ => ?_
          generalize w35.drew = w37 at HO229 BK217 HB HR236 hHeld ⊢
          refine pA 0 62 HT_ ?_
          refine pA 1 63 HT_ ?_
          refine pA 5 67 HT_ ?_
          refine pA 6 68 HT_ ?_
          refine tA 2 64 HT_ HW_ hHeld ?_
          refine tA 7 69 HT_ HW_ hHeld ?_
          refine pA 8 70 HT_ ?_
          refine oA 3 (some 65) HT_ fun K hK => ?_
          refine value_ (w1 := ?_) (v := ?_) (by rfl) rfl ?_ ?_
          rotate_left 2
          ·go_simp
           constructor
           ·rfl
           ·rfl
          refine hK.out _ _ ⟨(blk_cell (blk_alloc BK217.out _) 0).trans rfl, (blk_cell (blk_alloc BK217.out _) 1).trans rfl, (blk_cell (blk_alloc BK217.out _) 2).trans rfl, (blk_cell (blk_alloc BK217.out _) 3).trans rfl, (blk_cell (blk_alloc BK217.out _) 4).trans rfl, (blk_cell (blk_alloc BK217.out _) 5).trans rfl, (blk_cell (blk_alloc BK217.out _) 6).trans rfl, (blk_cell (blk_alloc BK217.out _) 7).trans rfl, (blk_cell (blk_alloc BK217.out _) 8).trans rfl, (blk_cell (blk_alloc BK217.out _) 9).trans rfl, (blk_cell (blk_alloc BK217.out _) 10).trans rfl, (blk_cell (blk_alloc BK217.out _) 11).trans rfl⟩ (fun hHeld => ?_)
          clear hK K
          refine nA ?_ (some 65)
          refine oA 4 (some 66) HT_ fun K hK => ?_
          refine Kd.R_append_step k26 (w0 := w) w.heap.size (by rfl) (.tmp 62) (.tmp 65) 39 26 (.agg #[(.int .i64 0), (.int .i64 0), (.int .i64 0), (.int .i64 0), (.int .i64 0)]) 40 rfl Try.underlying39 info26 rfl (by decide) (by omega) v228 y227 (⟨a1_7, a1_8, a1_9, a1_10, a1_11⟩ : S26) [.int .i64 a1_7, .int .i64 a1_8, .int .i64 a1_9, .int .i64 a1_10, .int .i64 a1_11] (fun _ => True) (fun _ => False) rfl rfl ?aP (fun _ hk => hk.elim) ?aF ?aO ?aB ?aS ?aL ?_
          (case aP => exact k26_mkM _ _ _ (⟨a1_7, a1_8, a1_9, a1_10, a1_11⟩ : S26))
          (case aB => exact (bW HB))
          (case aF => exact (fun _ _ => trivial))
          (case aO => exact (upR HO229.out))
          (case aS => exact (below_size (bW HB)))
          (case aL => have := LMc29.out; omega)
          intro v231 w39 ho hb hg hat
          rw [← Ny230.out] at ho
          have HO232 := Aside0.mk (ho)
          replace BK217 := Aside0.mk (blk_grown (g := gb217) (o := .cells #[.int .i64 a1_0, .int .i64 a1_1, .int .i64 a1_2, .int .i64 a1_3, .int .i64 a1_4, .int .i64 a1_5, .int .i64 a1_6, .int .i64 a1_7, .int .i64 a1_8, .int .i64 a1_9, .int .i64 a1_10, .int .i64 a1_11] 28 (0, 0)) (upK BK217.out) hg (Kd.R_ne HO229.out BK217.out (by decide)))
          replace HB := Aside0.mk (hb)
          clear HO229
          clear ho hb hg hat
          refine hK.out _ _ ⟨cb BK217 0, cb BK217 1, cb BK217 2, cb BK217 3, cb BK217 4, cb BK217 5, cb BK217 6, cb BK217 7, cb BK217 8, cb BK217 9, cb BK217 10, cb BK217 11⟩ (fun hHeld => ?_)
          clear hK K
          refine nA ?_ (some 66)
          refine oA 9 (some 71) HT_ fun K hK => ?_
          refine Kd.R_append_rows_step k26 (w0 := w) w.heap.size (by rfl) (.tmp 66) (.tmp 70) 39 26 (.agg #[(.int .i64 0), (.int .i64 0), (.int .i64 0), (.int .i64 0), (.int .i64 0)]) 40 rfl Try.underlying39 info26 rfl (by decide) (by omega) v231 y230 y233 _ _ _ (fun _ => True) (fun _ => False) rfl rfl ?aO ?aR (fun _ _ h => h) (fun _ h => h.elim) ?aF ?aB ?aS ?aL ?_
          (case aR => repeat (first | exact (Kd.C_below HR236.out HB.out) | (with_reducible refine Kd.C_alloc ?_ _) | (with_reducible refine Kd.C_drewN ?_ _) | (with_reducible refine Kd.C_drew ?_)))
          (case aB => exact (bW HB))
          (case aF => exact (fun _ _ => trivial))
          (case aO => exact (upR HO232.out))
          (case aS => exact (below_size (bW HB)))
          (case aL => have := LMc32.out; omega)
          intro v238 w40 ho hb hg hat
          rw [← Ny237.out] at ho
          have HO239 := Aside0.mk (ho)
          replace BK217 := Aside0.mk (blk_grown (g := gb217) (o := .cells #[.int .i64 a1_0, .int .i64 a1_1, .int .i64 a1_2, .int .i64 a1_3, .int .i64 a1_4, .int .i64 a1_5, .int .i64 a1_6, .int .i64 a1_7, .int .i64 a1_8, .int .i64 a1_9, .int .i64 a1_10, .int .i64 a1_11] 28 (0, 0)) (upK BK217.out) hg (Kd.R_ne HO232.out BK217.out (by decide)))
          replace HB := Aside0.mk (hb)
          clear HO232
          clear ho hb hg hat
          refine hK.out _ _ ⟨cb BK217 0, cb BK217 1, cb BK217 2, cb BK217 3, cb BK217 4, cb BK217 5, cb BK217 6, cb BK217 7, cb BK217 8, cb BK217 9, cb BK217 10, cb BK217 11⟩ (fun hHeld => ?_)
          clear hK K
          refine nA ?_ (some 71)
          refine pA 10 6 HT_ ?_
          refine done_ (done_of HT_.out (by kernel_rfl)) ?_
          obtain ⟨Ao41, co41, eo41⟩ := Kd.R_slice HO239.out
          subst eo41
          try go_wp2
          go_ret2
          exact ⟨_, eB, upR HO239.out, (bW HB)⟩
         ·rw [if_neg c32] at H
          exact absurd H (by simp)
        ·rw [if_neg c29] at H
         exact absurd H (by simp)
       ·replace H := ifI H
        rcases H with ⟨H, -, c42b0, c42b1⟩ | ⟨H, c42, c42b0, c42b1⟩
        ·obtain ⟨ji43, hji43⟩ : ∃ j_ : Int, (wrap64 (a1_1 + 1)) = j_ := ⟨_, rfl⟩
         replace H : (if 0 ≤ (ji43) then (if (ji43) ≤ (l0.length : Int) then ((some (l0.drop ((ji43) : Int).toNat : List (S26))).bind fun y240 => (if y227.length + y240.length < 3518437208883 then ((some (y227 ++ y240 : List (S26))).bind fun y244 => (some (y244, decide ((y244.length : Int) ≤ 12)))) else (none))) else (none)) else (none)) = some (r1, r2) := by first | (rw [hji43] at H; exact H) | (simp only [hji43] at H ⊢; exact H)
         have hji43w : (IntKind.i64.wrap (a1_1 + 1)) = ji43 := (i64_w _).trans hji43
         by_cases c44 : 0 ≤ (ji43)
         ·rw [if_pos c44] at H
          have c44b0 := eq_true c44
          have c44b1 : decide (0 ≤ (ji43)) = true := decide_eq_true c44
          clear c44
          by_cases c45 : (ji43) ≤ (l0.length : Int)
          ·rw [if_pos c45] at H
           have c45b0 := eq_true c45
           have c45b1 : decide ((ji43) ≤ (l0.length : Int)) = true := decide_eq_true c45
           clear c45
           obtain ⟨y240, hy240⟩ : ∃ y_ : List (S26), y_ = (l0.drop ((ji43) : Int).toNat) := ⟨_, rfl⟩
           replace H : (if y227.length + y240.length < 3518437208883 then ((some (y227 ++ y240 : List (S26))).bind fun y244 => (some (y244, decide ((y244.length : Int) ≤ 12)))) else (none)) = some (r1, r2) := by first | (rw [hy240]; with_reducible exact H) | (have H2_ := (Option.bind_some _ _).symm.trans H; rw [hy240]; with_reducible exact H2_) | (have H2_ := (Option.bind_some _ _).symm.trans H; with_reducible exact H2_) | with_reducible exact H | (rw [hy240]; exact H) | exact H
           have Ny240 := Aside0.mk hy240
           clear hy240
           by_cases c46 : y227.length + y240.length < 3518437208883
           ·rw [if_pos c46] at H
            have LMc46 := Aside0.mk c46
            clear c46
            obtain ⟨y244, hy244⟩ : ∃ y_ : List (S26), y_ = (y227 ++ y240) := ⟨_, rfl⟩
            replace H : (some (y244, decide ((y244.length : Int) ≤ 12))) = some (r1, r2) := by first | (rw [hy244]; with_reducible exact H) | (have H2_ := (Option.bind_some _ _).symm.trans H; rw [hy244]; with_reducible exact H2_) | (have H2_ := (Option.bind_some _ _).symm.trans H; with_reducible exact H2_) | with_reducible exact H | (rw [hy244]; exact H) | exact H
            have Ny244 := Aside0.mk hy244
            clear hy244
            simp only [Option.some.injEq, Prod.mk.injEq] at H
            obtain ⟨rfl, rfl⟩ := H
            have ⟨hcz47_0, hcz47_1, hcz47_2, hcz47_3, hcz47_4, hcz47_5, hcz47_6, hcz47_7, hcz47_8, hcz47_9, hcz47_10, hcz47_11, hfz47_0⟩ := cz12 BK217
            have q48 : (a1_1 : Int) ≤ ((l0.length : Int) : Int) := of_decide_eq_true asmB
            obtain ⟨i048, hi048, _, hsz48, _⟩ := info_parts info26
            have hroom48 : l0.length ≤ c0 := HC0.out
            have hC48 : Kd.C k26 _ A0 l0.length l0 := HR0.out
            have hcut48 := cut_to (P := Try.prog) 39 26 .i64 Try.underlying39 hi048 A0 l0.length c0 a1_1 (of_decide_eq_true asmB) q48 hroom48
            have hr48 := Kd.C_take (m := (a1_1 : Int).toNat) hC48 (by omega)
            have hy48 : y223.length = (a1_1 : Int).toNat := (by rw [Ny223.out, List.length_take]; omega)
            rw [← Ny223.out] at hr48
            rw [← hy48] at hcut48
            have HR226 := Aside0.mk hr48
            have HC226 := Aside0.mk (show y223.length ≤ c0 from by omega)
            clear hr48 hC48 hroom48 hi048 hsz48
            have KY48 := Aside0.mk hy48
            clear hy48
            replace q48 := eq_true q48
            go_wp2_with (first | ((with_reducible refine gate_builtin (b := .append) (xs := #[.tmp 41, .tmp 45]) rfl ?_); (try (refine gate_guard (by rfl) ?_; dsimp only)); at_builtin; refine Kd.R_append_rows k26 (w0 := w) w.heap.size rfl (.tmp 41) (.tmp 45) 39 26 (.agg #[(.int .i64 0), (.int .i64 0), (.int .i64 0), (.int .i64 0), (.int .i64 0)]) 40 rfl Try.underlying39 info26 rfl (by decide) (by omega) v219 y218 y223 _ _ _ (fun _ => True) (fun _ => False) rfl rfl ?aO ?aR (fun _ _ h => h) (fun _ h => h.elim) ?aF ?aB ?aS ?aL ?_; (case aR => repeat (first | exact (Kd.C_below HR226.out HB.out) | (with_reducible refine Kd.C_alloc ?_ _) | (with_reducible refine Kd.C_drewN ?_ _) | (with_reducible refine Kd.C_drew ?_))); (case aB => exact (bW HB)); (case aF => exact (fun _ _ => trivial)); (case aO => exact (upR HO_6.out)); (case aS => exact (below_size (bW HB))); (case aL => have := LMc27.out; omega); intro v228 w49 ho hb hg hat; rw [← Ny227.out] at ho; have HO229 := Aside0.mk (ho); replace BK217 := Aside0.mk (blk_grown (g := gb217) (o := .cells #[.int .i64 a1_0, .int .i64 a1_1, .int .i64 a1_2, .int .i64 a1_3, .int .i64 a1_4, .int .i64 a1_5, .int .i64 a1_6, .int .i64 a1_7, .int .i64 a1_8, .int .i64 a1_9, .int .i64 a1_10, .int .i64 a1_11] 28 (0, 0)) (upK BK217.out) hg (Kd.R_ne HO_6.out BK217.out (by decide))); replace HB := Aside0.mk (hb); clear HO_6; clear ho hb hg hat; have ⟨hcz50_0, hcz50_1, hcz50_2, hcz50_3, hcz50_4, hcz50_5, hcz50_6, hcz50_7, hcz50_8, hcz50_9, hcz50_10, hcz50_11, hfz50_0⟩ := cz12 BK217; have q51 : ((ji43) : Int) ≤ ((l0.length : Int) : Int) := of_decide_eq_true asmB; obtain ⟨i051, hi051, _, hsz51, _⟩ := info_parts info26; have hroom51 : l0.length ≤ c0 := HC0.out; have hC51 : Kd.C k26 _ A0 l0.length l0 := HR0.out; have q051 : (0 : Int) ≤ ((ji43) : Int) := of_decide_eq_true asmB; have hcut51 := cut_from (P := Try.prog) 39 26 .i64 Try.underlying39 hi051 5 hsz51 A0 l0.length c0 (ji43) q051 q51; have hr51 := Kd.C_drop (m := ((ji43) : Int).toNat) (c := c0) hC51 (by omega) hroom51; obtain ⟨A51, hA51⟩ : ∃ Az_, Az_ = (if c0 = ((ji43) : Int).toNat then A0 else (A0 : Option Addr).map (·.add (((ji43) : Int).toNat * 5))) := ⟨_, rfl⟩; obtain ⟨c51, hc51⟩ : ∃ c1, c1 = c0 - ((ji43) : Int).toNat := ⟨_, rfl⟩; have hy51 : y240.length = l0.length - ((ji43) : Int).toNat := (by rw [Ny240.out, List.length_drop] <;> omega); rw [show (l0).drop ((ji43) : Int).toNat = y240 from Ny240.out.symm] at hr51; replace hr51 : Kd.C k26 _ A51 y240.length y240 := (by rw [hA51]; exact hr51); rw [← hy51, ← hA51, ← hc51] at hcut51; have HR243 := Aside0.mk hr51; have HC243 := Aside0.mk (show y240.length ≤ c51 from by rw [hy51, hc51]; exact Nat.sub_le_sub_right hroom51 _); clear hr51 hC51 hroom51 hi051 hsz51 hc51; have KY51 := Aside0.mk hy51; have KA51 := Aside0.mk hA51; clear hy51 hA51; replace q51 := eq_true q51) | ((with_reducible refine gate_builtin (b := .append) (xs := #[.tmp 74, .tmp 79]) rfl ?_); (try (refine gate_guard (by rfl) ?_; dsimp only)); at_builtin; refine Kd.R_append_rows k26 (w0 := w) w.heap.size rfl (.tmp 74) (.tmp 79) 39 26 (.agg #[(.int .i64 0), (.int .i64 0), (.int .i64 0), (.int .i64 0), (.int .i64 0)]) 40 rfl Try.underlying39 info26 rfl (by decide) (by omega) v228 y227 y240 _ _ _ (fun _ => True) (fun _ => False) rfl rfl ?aO ?aR (fun _ _ h => h) (fun _ h => h.elim) ?aF ?aB ?aS ?aL ?_; (case aR => repeat (first | exact (Kd.C_below HR243.out HB.out) | (with_reducible refine Kd.C_alloc ?_ _) | (with_reducible refine Kd.C_drewN ?_ _) | (with_reducible refine Kd.C_drew ?_))); (case aB => exact (bW HB)); (case aF => exact (fun _ _ => trivial)); (case aO => exact (upR HO229.out)); (case aS => exact (below_size (bW HB))); (case aL => have := LMc46.out; omega); intro v245 w52 ho hb hg hat; rw [← Ny244.out] at ho; have HO246 := Aside0.mk (ho); replace BK217 := Aside0.mk (blk_grown (g := gb217) (o := .cells #[.int .i64 a1_0, .int .i64 a1_1, .int .i64 a1_2, .int .i64 a1_3, .int .i64 a1_4, .int .i64 a1_5, .int .i64 a1_6, .int .i64 a1_7, .int .i64 a1_8, .int .i64 a1_9, .int .i64 a1_10, .int .i64 a1_11] 28 (0, 0)) (upK BK217.out) hg (Kd.R_ne HO229.out BK217.out (by decide))); replace HB := Aside0.mk (hb); clear HO229; clear ho hb hg hat; obtain ⟨Ao53, co53, eo53⟩ := Kd.R_slice HO246.out; subst eo53))
            go_ret2
            exact ⟨_, by first | rfl | (simp [errW_none, errW_some] <;> rfl) | (simp only [← hji43]; first | rfl | (simp [errW_none, errW_some] <;> rfl)) | (simp [*, errW_none, errW_some] <;> rfl), upR HO246.out, (bW HB)⟩
           ·rw [if_neg c46] at H
            exact absurd H (by simp)
          ·rw [if_neg c45] at H
           exact absurd H (by simp)
         ·rw [if_neg c44] at H
          exact absurd H (by simp)
        ·by_cases c54 : y227.length < 3518437208883
         ·rw [if_pos c54] at H
          have LMc54 := Aside0.mk c54
          clear c54
          obtain ⟨y247, hy247⟩ : ∃ y_ : List (S26), y_ = (y227 ++ [(⟨a1_7, a1_8, a1_9, a1_10, a1_11⟩ : S26)]) := ⟨_, rfl⟩
          replace H : (if 0 ≤ (wrap64 (a1_1 + 1)) then (if (wrap64 (a1_1 + 1)) ≤ (l0.length : Int) then ((some (l0.drop ((wrap64 (a1_1 + 1)) : Int).toNat : List (S26))).bind fun y250 => (if y247.length + y250.length < 3518437208883 then ((some (y247 ++ y250 : List (S26))).bind fun y254 => (some (y254, decide ((y254.length : Int) ≤ 12)))) else (none))) else (none)) else (none)) = some (r1, r2) := by first | (rw [hy247]; with_reducible exact H) | (have H2_ := (Option.bind_some _ _).symm.trans H; rw [hy247]; with_reducible exact H2_) | (have H2_ := (Option.bind_some _ _).symm.trans H; with_reducible exact H2_) | with_reducible exact H | (rw [hy247]; exact H) | exact H
          have Ny247 := Aside0.mk hy247
          clear hy247
          obtain ⟨ji55, hji55⟩ : ∃ j_ : Int, (wrap64 (a1_1 + 1)) = j_ := ⟨_, rfl⟩
          replace H : (if 0 ≤ (ji55) then (if (ji55) ≤ (l0.length : Int) then ((some (l0.drop ((ji55) : Int).toNat : List (S26))).bind fun y250 => (if y247.length + y250.length < 3518437208883 then ((some (y247 ++ y250 : List (S26))).bind fun y254 => (some (y254, decide ((y254.length : Int) ≤ 12)))) else (none))) else (none)) else (none)) = some (r1, r2) := by first | (rw [hji55] at H; exact H) | (simp only [hji55] at H ⊢; exact H)
          have hji55w : (IntKind.i64.wrap (a1_1 + 1)) = ji55 := (i64_w _).trans hji55
          by_cases c56 : 0 ≤ (ji55)
          ·rw [if_pos c56] at H
           have c56b0 := eq_true c56
           have c56b1 : decide (0 ≤ (ji55)) = true := decide_eq_true c56
           clear c56
           by_cases c57 : (ji55) ≤ (l0.length : Int)
           ·rw [if_pos c57] at H
            have c57b0 := eq_true c57
            have c57b1 : decide ((ji55) ≤ (l0.length : Int)) = true := decide_eq_true c57
            clear c57
            obtain ⟨y250, hy250⟩ : ∃ y_ : List (S26), y_ = (l0.drop ((ji55) : Int).toNat) := ⟨_, rfl⟩
            replace H : (if y247.length + y250.length < 3518437208883 then ((some (y247 ++ y250 : List (S26))).bind fun y254 => (some (y254, decide ((y254.length : Int) ≤ 12)))) else (none)) = some (r1, r2) := by first | (rw [hy250]; with_reducible exact H) | (have H2_ := (Option.bind_some _ _).symm.trans H; rw [hy250]; with_reducible exact H2_) | (have H2_ := (Option.bind_some _ _).symm.trans H; with_reducible exact H2_) | with_reducible exact H | (rw [hy250]; exact H) | exact H
            have Ny250 := Aside0.mk hy250
            clear hy250
            by_cases c58 : y247.length + y250.length < 3518437208883
            ·rw [if_pos c58] at H
             have LMc58 := Aside0.mk c58
             clear c58
             obtain ⟨y254, hy254⟩ : ∃ y_ : List (S26), y_ = (y247 ++ y250) := ⟨_, rfl⟩
             replace H : (some (y254, decide ((y254.length : Int) ≤ 12))) = some (r1, r2) := by first | (rw [hy254]; with_reducible exact H) | (have H2_ := (Option.bind_some _ _).symm.trans H; rw [hy254]; with_reducible exact H2_) | (have H2_ := (Option.bind_some _ _).symm.trans H; with_reducible exact H2_) | with_reducible exact H | (rw [hy254]; exact H) | exact H
             have Ny254 := Aside0.mk hy254
             clear hy254
             simp only [Option.some.injEq, Prod.mk.injEq] at H
             obtain ⟨rfl, rfl⟩ := H
             have ⟨hcz59_0, hcz59_1, hcz59_2, hcz59_3, hcz59_4, hcz59_5, hcz59_6, hcz59_7, hcz59_8, hcz59_9, hcz59_10, hcz59_11, hfz59_0⟩ := cz12 BK217
             have q60 : (a1_1 : Int) ≤ ((l0.length : Int) : Int) := of_decide_eq_true asmB
             obtain ⟨i060, hi060, _, hsz60, _⟩ := info_parts info26
             have hroom60 : l0.length ≤ c0 := HC0.out
             have hC60 : Kd.C k26 _ A0 l0.length l0 := HR0.out
             have hcut60 := cut_to (P := Try.prog) 39 26 .i64 Try.underlying39 hi060 A0 l0.length c0 a1_1 (of_decide_eq_true asmB) q60 hroom60
             have hr60 := Kd.C_take (m := (a1_1 : Int).toNat) hC60 (by omega)
             have hy60 : y223.length = (a1_1 : Int).toNat := (by rw [Ny223.out, List.length_take]; omega)
             rw [← Ny223.out] at hr60
             rw [← hy60] at hcut60
             have HR226 := Aside0.mk hr60
             have HC226 := Aside0.mk (show y223.length ≤ c0 from by omega)
             clear hr60 hC60 hroom60 hi060 hsz60
             have KY60 := Aside0.mk hy60
             clear hy60
             replace q60 := eq_true q60
             try go_wp2_with (first | ((with_reducible refine gate_builtin (b := .append) (xs := #[.tmp 41, .tmp 45]) rfl ?_); (try (refine gate_guard (by rfl) ?_; dsimp only)); at_builtin; refine Kd.R_append_rows k26 (w0 := w) w.heap.size rfl (.tmp 41) (.tmp 45) 39 26 (.agg #[(.int .i64 0), (.int .i64 0), (.int .i64 0), (.int .i64 0), (.int .i64 0)]) 40 rfl Try.underlying39 info26 rfl (by decide) (by omega) v219 y218 y223 _ _ _ (fun _ => True) (fun _ => False) rfl rfl ?aO ?aR (fun _ _ h => h) (fun _ h => h.elim) ?aF ?aB ?aS ?aL ?_; (case aR => repeat (first | exact (Kd.C_below HR226.out HB.out) | (with_reducible refine Kd.C_alloc ?_ _) | (with_reducible refine Kd.C_drewN ?_ _) | (with_reducible refine Kd.C_drew ?_))); (case aB => exact (bW HB)); (case aF => exact (fun _ _ => trivial)); (case aO => exact (upR HO_6.out)); (case aS => exact (below_size (bW HB))); (case aL => have := LMc27.out; omega); intro v228 w61 ho hb hg hat; rw [← Ny227.out] at ho; have HO229 := Aside0.mk (ho); replace BK217 := Aside0.mk (blk_grown (g := gb217) (o := .cells #[.int .i64 a1_0, .int .i64 a1_1, .int .i64 a1_2, .int .i64 a1_3, .int .i64 a1_4, .int .i64 a1_5, .int .i64 a1_6, .int .i64 a1_7, .int .i64 a1_8, .int .i64 a1_9, .int .i64 a1_10, .int .i64 a1_11] 28 (0, 0)) (upK BK217.out) hg (Kd.R_ne HO_6.out BK217.out (by decide))); replace HB := Aside0.mk (hb); clear HO_6; clear ho hb hg hat; have ⟨hcz62_0, hcz62_1, hcz62_2, hcz62_3, hcz62_4, hcz62_5, hcz62_6, hcz62_7, hcz62_8, hcz62_9, hcz62_10, hcz62_11, hfz62_0⟩ := cz12 BK217))
             replace HO229 := Aside0.mk (Kd.R_drew HO229.out)
             replace BK217 := dK BK217
             replace HB := Aside0.mk (below_drew1 HB.out)
             have q64 : ((ji55) : Int) ≤ ((l0.length : Int) : Int) := of_decide_eq_true asmB
             obtain ⟨i064, hi064, _, hsz64, _⟩ := info_parts info26
             have hroom64 : l0.length ≤ c0 := HC0.out
             have hC64 : Kd.C k26 _ A0 l0.length l0 := HR0.out
             have q064 : (0 : Int) ≤ ((ji55) : Int) := of_decide_eq_true asmB
             have hcut64 := cut_from (P := Try.prog) 39 26 .i64 Try.underlying39 hi064 5 hsz64 A0 l0.length c0 (ji55) q064 q64
             have hr64 := Kd.C_drop (m := ((ji55) : Int).toNat) (c := c0) hC64 (by omega) hroom64
             obtain ⟨A64, hA64⟩ : ∃ Az_, Az_ = (if c0 = ((ji55) : Int).toNat then A0 else (A0 : Option Addr).map (·.add (((ji55) : Int).toNat * 5))) := ⟨_, rfl⟩
             obtain ⟨c64, hc64⟩ : ∃ c1, c1 = c0 - ((ji55) : Int).toNat := ⟨_, rfl⟩
             have hy64 : y250.length = l0.length - ((ji55) : Int).toNat := (by rw [Ny250.out, List.length_drop] <;> omega)
             rw [show (l0).drop ((ji55) : Int).toNat = y250 from Ny250.out.symm] at hr64
             replace hr64 : Kd.C k26 _ A64 y250.length y250 := (by rw [hA64]; exact hr64)
             rw [← hy64, ← hA64, ← hc64] at hcut64
             have HR253 := Aside0.mk hr64
             have HC253 := Aside0.mk (show y250.length ≤ c64 from by rw [hy64, hc64]; exact Nat.sub_le_sub_right hroom64 _)
             clear hr64 hC64 hroom64 hi064 hsz64 hc64
             have KY64 := Aside0.mk hy64
             have KA64 := Aside0.mk hA64
             clear hy64 hA64
             replace q64 := eq_true q64
             refine sA (n := 12) (S := fun w' => w'.cell? ⟨gb217, 0, none⟩ = some (.int .i64 a1_0) ∧ w'.cell? ⟨gb217, 1, none⟩ = some (.int .i64 a1_1) ∧ w'.cell? ⟨gb217, 2, none⟩ = some (.int .i64 a1_2) ∧ w'.cell? ⟨gb217, 3, none⟩ = some (.int .i64 a1_3) ∧ w'.cell? ⟨gb217, 4, none⟩ = some (.int .i64 a1_4) ∧ w'.cell? ⟨gb217, 5, none⟩ = some (.int .i64 a1_5) ∧ w'.cell? ⟨gb217, 6, none⟩ = some (.int .i64 a1_6) ∧ w'.cell? ⟨gb217, 7, none⟩ = some (.int .i64 a1_7) ∧ w'.cell? ⟨gb217, 8, none⟩ = some (.int .i64 a1_8) ∧ w'.cell? ⟨gb217, 9, none⟩ = some (.int .i64 a1_9) ∧ w'.cell? ⟨gb217, 10, none⟩ = some (.int .i64 a1_10) ∧ w'.cell? ⟨gb217, 11, none⟩ = some (.int .i64 a1_11)) (ds := []) spec_l19Apply.tab6 spec_l19Apply.bits6 #[false, false, false, false, false, false, false, false, false, false, false, false] ⟨cb BK217 0, cb BK217 1, cb BK217 2, cb BK217 3, cb BK217 4, cb BK217 5, cb BK217 6, cb BK217 7, cb BK217 8, cb BK217 9, cb BK217 10, cb BK217 11⟩ fun hHeld HT_ HW_ => ?_
             generalize w61.drew = w63 at HO229 BK217 HB HR253 hHeld ⊢
             refine pA 0 49 HT_ ?_
             refine pA 1 50 HT_ ?_
             refine pA 5 54 HT_ ?_
             refine pA 6 55 HT_ ?_
             refine tA 2 51 HT_ HW_ hHeld ?_
             refine tA 7 56 HT_ HW_ hHeld ?_
             refine pA 8 57 HT_ ?_
             refine pA 9 58 HT_ ?_
             refine oA 3 (some 52) HT_ fun K hK => ?_
             refine value_ (w1 := ?_) (v := ?_) (by rfl) rfl ?_ ?_
             rotate_left 2
             ·go_simp
              constructor
              ·rfl
              ·rfl
             refine hK.out _ _ ⟨(blk_cell (blk_alloc BK217.out _) 0).trans rfl, (blk_cell (blk_alloc BK217.out _) 1).trans rfl, (blk_cell (blk_alloc BK217.out _) 2).trans rfl, (blk_cell (blk_alloc BK217.out _) 3).trans rfl, (blk_cell (blk_alloc BK217.out _) 4).trans rfl, (blk_cell (blk_alloc BK217.out _) 5).trans rfl, (blk_cell (blk_alloc BK217.out _) 6).trans rfl, (blk_cell (blk_alloc BK217.out _) 7).trans rfl, (blk_cell (blk_alloc BK217.out _) 8).trans rfl, (blk_cell (blk_alloc BK217.out _) 9).trans rfl, (blk_cell (blk_alloc BK217.out _) 10).trans rfl, (blk_cell (blk_alloc BK217.out _) 11).trans rfl⟩ (fun hHeld => ?_)
             clear hK K
             refine nA ?_ (some 52)
             refine oA 4 (some 53) HT_ fun K hK => ?_
             refine Kd.R_append_step k26 (w0 := w) w.heap.size (by rfl) (.tmp 49) (.tmp 52) 39 26 (.agg #[(.int .i64 0), (.int .i64 0), (.int .i64 0), (.int .i64 0), (.int .i64 0)]) 40 rfl Try.underlying39 info26 rfl (by decide) (by omega) v228 y227 (⟨a1_7, a1_8, a1_9, a1_10, a1_11⟩ : S26) [.int .i64 a1_7, .int .i64 a1_8, .int .i64 a1_9, .int .i64 a1_10, .int .i64 a1_11] (fun _ => True) (fun _ => False) rfl rfl ?aP (fun _ hk => hk.elim) ?aF ?aO ?aB ?aS ?aL ?_
             (case aP => exact k26_mkM _ _ _ (⟨a1_7, a1_8, a1_9, a1_10, a1_11⟩ : S26))
             (case aB => exact (bW HB))
             (case aF => exact (fun _ _ => trivial))
             (case aO => exact (upR HO229.out))
             (case aS => exact (below_size (bW HB)))
             (case aL => have := LMc54.out; omega)
             intro v248 w65 ho hb hg hat
             rw [← Ny247.out] at ho
             have HO249 := Aside0.mk (ho)
             replace BK217 := Aside0.mk (blk_grown (g := gb217) (o := .cells #[.int .i64 a1_0, .int .i64 a1_1, .int .i64 a1_2, .int .i64 a1_3, .int .i64 a1_4, .int .i64 a1_5, .int .i64 a1_6, .int .i64 a1_7, .int .i64 a1_8, .int .i64 a1_9, .int .i64 a1_10, .int .i64 a1_11] 28 (0, 0)) (upK BK217.out) hg (Kd.R_ne HO229.out BK217.out (by decide)))
             replace HB := Aside0.mk (hb)
             clear HO229
             clear ho hb hg hat
             refine hK.out _ _ ⟨cb BK217 0, cb BK217 1, cb BK217 2, cb BK217 3, cb BK217 4, cb BK217 5, cb BK217 6, cb BK217 7, cb BK217 8, cb BK217 9, cb BK217 10, cb BK217 11⟩ (fun hHeld => ?_)
             clear hK K
             refine nA ?_ (some 53)
             refine oA 10 (some 59) HT_ fun K hK => ?_
             refine Kd.R_append_rows_step k26 (w0 := w) w.heap.size (by rfl) (.tmp 53) (.tmp 58) 39 26 (.agg #[(.int .i64 0), (.int .i64 0), (.int .i64 0), (.int .i64 0), (.int .i64 0)]) 40 rfl Try.underlying39 info26 rfl (by decide) (by omega) v248 y247 y250 _ _ _ (fun _ => True) (fun _ => False) rfl rfl ?aO ?aR (fun _ _ h => h) (fun _ h => h.elim) ?aF ?aB ?aS ?aL ?_
             (case aR => repeat (first | exact (Kd.C_below HR253.out HB.out) | (with_reducible refine Kd.C_alloc ?_ _) | (with_reducible refine Kd.C_drewN ?_ _) | (with_reducible refine Kd.C_drew ?_)))
             (case aB => exact (bW HB))
             (case aF => exact (fun _ _ => trivial))
             (case aO => exact (upR HO249.out))
             (case aS => exact (below_size (bW HB)))
             (case aL => have := LMc58.out; omega)
             intro v255 w66 ho hb hg hat
             rw [← Ny254.out] at ho
             have HO256 := Aside0.mk (ho)
             replace BK217 := Aside0.mk (blk_grown (g := gb217) (o := .cells #[.int .i64 a1_0, .int .i64 a1_1, .int .i64 a1_2, .int .i64 a1_3, .int .i64 a1_4, .int .i64 a1_5, .int .i64 a1_6, .int .i64 a1_7, .int .i64 a1_8, .int .i64 a1_9, .int .i64 a1_10, .int .i64 a1_11] 28 (0, 0)) (upK BK217.out) hg (Kd.R_ne HO249.out BK217.out (by decide)))
             replace HB := Aside0.mk (hb)
             clear HO249
             clear ho hb hg hat
             refine hK.out _ _ ⟨cb BK217 0, cb BK217 1, cb BK217 2, cb BK217 3, cb BK217 4, cb BK217 5, cb BK217 6, cb BK217 7, cb BK217 8, cb BK217 9, cb BK217 10, cb BK217 11⟩ (fun hHeld => ?_)
             clear hK K
             refine nA ?_ (some 59)
             refine pA 11 6 HT_ ?_
             refine done_ (done_of HT_.out (by kernel_rfl)) ?_
             obtain ⟨Ao67, co67, eo67⟩ := Kd.R_slice HO256.out
             subst eo67
             try go_wp2
             go_ret2
             exact ⟨_, by first | rfl | (simp [errW_none, errW_some] <;> rfl) | (simp only [← hji55]; first | rfl | (simp [errW_none, errW_some] <;> rfl)) | (simp [*, errW_none, errW_some] <;> rfl), upR HO256.out, (bW HB)⟩
            ·rw [if_neg c58] at H
             exact absurd H (by simp)
           ·rw [if_neg c57] at H
            exact absurd H (by simp)
          ·rw [if_neg c56] at H
           exact absurd H (by simp)
         ·rw [if_neg c54] at H
          exact absurd H (by simp)
      ·rw [if_neg c27] at H
       exact absurd H (by simp)
     ·rw [if_neg c26] at H
      exact absurd H (by simp)
    ·rw [if_neg c25] at H
     exact absurd H (by simp)

end Go.Proofs.Ytinelmmnajelaaa.QFnDiffs
