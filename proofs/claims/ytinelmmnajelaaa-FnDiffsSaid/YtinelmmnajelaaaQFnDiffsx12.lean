/- Contracts of Go functions that FnDiffs reaches: the call computes what the plain function says. No condition. -/
import Derived.Test.YtinelmmnajelaaaQFnDiffsx0
import Derived.Test.YtinelmmnajelaaaQFnDiffsx1
import Derived.Test.YtinelmmnajelaaaQFnDiffsx4
import Derived.Test.YtinelmmnajelaaaQFnDiffsx10
import Derived.Test.YtinelmmnajelaaaQFnDiffsx11
namespace Go.Proofs.Ytinelmmnajelaaa.QFnDiffs
open Go.RowKit Go.Proofs.YtinelmmnajelaaaW.PrintWords Go.Proofs.YtinelmmnajelaaaW.PrintLast Go.Proofs.YtinelmmnajelaaaW.PrintMore
attribute [local go_sem] max2_int min2_int max_two min_two max_three min_three max_four min_four   -- for this text's walks alone
set_option linter.unusedVariables false
set_option linter.unusedSimpArgs false

attribute [local go_sem high] eqA26
/-! ### spec_l19Run: function 71 -/
def spec_l19Run.l0 : Nat → List (S28) → Int → List (S26) → Int → Option ((List (S26)) × Bool)
 | 0, _, _, _, _ => none
 | k + 1, x1, x2, x8, x9 => if x9 < x2 then (if 0 ≤ x9 then (if x9 < (x1.length : Int) then ((spec_l19Apply.f k x8 ((rd_T28 x1 x9).f0) ((rd_T28 x1 x9).f1) ((rd_T28 x1 x9).f2.f0) ((rd_T28 x1 x9).f2.f1) ((rd_T28 x1 x9).f2.f2) ((rd_T28 x1 x9).f2.f3) ((rd_T28 x1 x9).f2.f4) ((rd_T28 x1 x9).f3.f0) ((rd_T28 x1 x9).f3.f1) ((rd_T28 x1 x9).f3.f2) ((rd_T28 x1 x9).f3.f3) ((rd_T28 x1 x9).f3.f4)).bind fun bt264 => (if bt264.2 = true then (spec_l19Run.l0 k x1 x2 bt264.1 (wrap64 (x9 + 1))) else (some ((([] : List (S26))), false)))) else (none)) else (none)) else (some (x8, true))
def spec_l19Run.f (k : Nat) (l0 : List (S26)) (l1 : List (S28)) (a2 : Int) : Option ((List (S26)) × Bool) := (some (([] : List (S26)) : List (S26))).bind fun y257 => (if y257.length + l0.length < 3518437208883 then (spec_l19Run.l0 k l1 a2 (y257 ++ l0) 0) else (none))
theorem spec_l19Run.mono_l : ∀ k, (∀ y0 y1 y2 y3, LeO (spec_l19Run.l0 k y0 y1 y2 y3) (spec_l19Run.l0 (k + 1) y0 y1 y2 y3))
 | 0 => fun _ _ _ _ r h => by simp [spec_l19Run.l0] at h
 | k + 1 => by
  have ih0 := spec_l19Run.mono_l k
  ·intro y0 y1 y2 y3
   unfold spec_l19Run.l0
   repeat' with_reducible first | apply ih0 | apply spec_l19Apply.mono | exact LeO.refl _ | exact LeO.none _ | refine LeO.ite ?_ ?_ | refine LeO.bind ?_ (fun _ => ?_)
theorem spec_l19Run.mono : ∀ a0 a1 a2 k, LeO (spec_l19Run.f k a0 a1 a2) (spec_l19Run.f (k + 1) a0 a1 a2) := by
 intro a0 a1 a2 k
 have ih0 := spec_l19Run.mono_l k
 unfold spec_l19Run.f
 repeat' with_reducible first | apply ih0 | apply spec_l19Apply.mono | exact LeO.refl _ | exact LeO.none _ | refine LeO.ite ?_ ?_ | refine LeO.bind ?_ (fun _ => ?_)
set_option maxHeartbeats 8000000 in
set_option maxRecDepth 100000 in
theorem spec_l19Run.calls (k : Nat) (A0 : Option Addr) (c0 : Nat) (l0 : List (S26)) (A1 : Option Addr) (c1 : Nat) (l1 : List (S28)) (a2 : Int) (r1 : List (S26)) (r2 : Bool) (w : World) (hr0 : Kd.C k26 w A0 l0.length l0) (hc0 : l0.length ≤ c0) (hr1 : Kd.C k28 w A1 l1.length l1) (hc1 : l1.length ≤ c1) (h : spec_l19Run.f k l0 l1 a2 = some (r1, r2)) :
  Calls Try.prog 71 #[.slice A0 l0.length c0, .slice A1 l1.length c1, .int .i64 a2] w fun e w' => ∃ v0_ : Value, e = .returned (.tuple #[v0_, .bool r2]) ∧ Kd.R k26 26 w' w.heap.size (fun _ => True) v0_ r1 ∧ Below w.heap.size w w' := by
 have hu28 := Try.underlying28
 have HR0 := Aside0.mk hr0
 have HC0 := Aside0.mk hc0
 clear hr0 hc0
 have HR1 := Aside0.mk hr1
 have HC1 := Aside0.mk hc1
 clear hr1 hc1
 have HB := Aside0.mk (Below.refl w.heap.size w)
 have H := h
 clear h
 unfold spec_l19Run.f at H
 obtain ⟨y257, hy257⟩ : ∃ y_ : List (S26), y_ = (([] : List (S26))) := ⟨_, rfl⟩
 replace H : (if y257.length + l0.length < 3518437208883 then (spec_l19Run.l0 k l1 a2 (y257 ++ l0) 0) else (none)) = some (r1, r2) := by first | (rw [hy257]; with_reducible exact H) | (have H2_ := (Option.bind_some _ _).symm.trans H; rw [hy257]; with_reducible exact H2_) | (have H2_ := (Option.bind_some _ _).symm.trans H; with_reducible exact H2_) | with_reducible exact H | (rw [hy257]; exact H) | exact H
 have Ny257 := Aside0.mk hy257
 clear hy257
 by_cases c4 : y257.length + l0.length < 3518437208883
 ·rw [if_pos c4] at H
  have LMc4 := Aside0.mk c4
  clear c4
  obtain ⟨y260, hy260⟩ : ∃ y_ : List (S26), y_ = (y257 ++ l0) := ⟨_, rfl⟩
  replace H : (spec_l19Run.l0 k l1 a2 y260 0) = some (r1, r2) := by first | (rw [hy260]; with_reducible exact H) | (have H2_ := (Option.bind_some _ _).symm.trans H; rw [hy260]; with_reducible exact H2_) | (have H2_ := (Option.bind_some _ _).symm.trans H; with_reducible exact H2_) | with_reducible exact H | (rw [hy260]; exact H) | exact H
  have Ny260 := Aside0.mk hy260
  clear hy260
  have H' := Aside0.mk H
  clear H
  go_enter Try.func71, Try.ntmps71
  go_wp2_with (first | ((with_reducible refine gate_dst (N := 12) rfl ?_); refine Kd.R_lit k26 _ 26 ?hg (N := 12) ?hd (xs := ([] : List (S26))) (inner := []) (ok := fun _ => True) (okp := fun _ => True) ?hr ?hp (fun _ hk => hk) trivial (Below.refl _ _) (Nat.le_refl _) (by simp) ?_; (case hd => rfl); (case hg => rfl); (case hr => first | (go_simp; done) | (go_simp; rfl)); (case hp => exact (Reps.none _ _)); intro v258 w5 ho6 hb hg_ hnew_; clear hg_ hnew_; (first | rw [← Ny257.out] at ho6 | (simp only [Int.reduceToNat] at ho6; rw [← Ny257.out] at ho6)); have HO259 := Aside0.mk (Kd.R_lower ho6 (below_size (bW HB))); replace HB := uB HB hb; clear hb ho6) | ((with_reducible refine gate_builtin (b := .append) (xs := #[.tmp 12, .tmp 13]) rfl ?_); at_builtin; refine Kd.R_append_rows k26 (w0 := w) w.heap.size rfl (.tmp 12) (.tmp 13) 39 26 (.agg #[(.int .i64 0), (.int .i64 0), (.int .i64 0), (.int .i64 0), (.int .i64 0)]) 40 rfl Try.underlying39 info26 rfl (by decide) (by omega) v258 y257 l0 _ _ _ (fun _ => True) (fun _ => False) rfl rfl ?aO ?aR (fun _ _ h => h) (fun _ h => h.elim) ?aF ?aB ?aS ?aL ?_; (case aR => repeat (first | exact (Kd.C_below HR0.out HB.out) | (with_reducible refine Kd.C_alloc ?_ _) | (with_reducible refine Kd.C_drewN ?_ _) | (with_reducible refine Kd.C_drew ?_))); (case aB => exact (bW HB)); (case aF => exact (fun _ _ => trivial)); (case aO => exact (upR HO259.out)); (case aS => exact (below_size (bW HB))); (case aL => have := LMc4.out; omega); intro v261 w7 ho hb hg hat; rw [← Ny260.out] at ho; have HO262 := Aside0.mk (ho); replace HB := Aside0.mk (hb); clear HO259; clear ho hb hg hat))
  (try simp only [Act.put, List.setIfInBounds_toArray, List.set_cons_zero, List.set_cons_succ])
  go_loopg [8, 9] k (fun kq v8 v9 w' => ∃ (x8_1 : List (S26)) (x9_1 : Int), v9 = .int .i64 x9_1 ∧ Aside0 (spec_l19Run.l0 kq l1 a2 x8_1 x9_1 = some (r1, r2)) ∧ Aside0 (kq ≤ k) ∧ Aside0 (Kd.R k26 26 w' w.heap.size (fun _ => True) v8 x8_1) ∧ Aside0 (Below w.heap.size w w'))
  case atStart => exact ⟨(y260), (0), rB, H', ⟨Nat.le_refl _⟩, ⟨upR HO262.out⟩, (aB HB)⟩
  case round =>
   clear H'
   try clear c1
   try clear c4
   obtain ⟨x8_1, x9_1, rfl, HA, HK1, HO_8, HB⟩ := hrel
   cases gk with
   | zero => exact absurd HA.out (by simp [spec_l19Run.l0])
   | succ k1 =>
    have H := HA.out
    clear HA
    simp only [spec_l19Run.l0] at H
    replace H := ifD H
    rcases H with ⟨H, -, c8b0⟩ | ⟨H, -, c8b0⟩
    ·by_cases c9 : 0 ≤ x9_1
     ·rw [if_pos c9] at H
      have c9b0 : decide (0 ≤ x9_1) = true := decide_eq_true c9
      clear c9
      by_cases c10 : x9_1 < (l1.length : Int)
      ·rw [if_pos c10] at H
       have c10b0 : decide (x9_1 < (l1.length : Int)) = true := decide_eq_true c10
       clear c10
       replace H := Option.bind_eq_some_iff.mp H
       obtain ⟨⟨t264, t267⟩, A110, H⟩ := H
       replace H : (if t267 = true then (spec_l19Run.l0 k1 l1 a2 t264 (wrap64 (x9_1 + 1))) else (some ((([] : List (S26))), false))) = some (r1, r2) := H
       have A11 := Aside0.mk A110
       clear A110
       rcases Bool.eq_false_or_eq_true t267 with rfl | rfl
       ·replace H := iT rfl H
        have H' := Aside0.mk H
        clear H
        have p263 : 0 ≤ (x9_1 : Int) := of_decide_eq_true asmB
        have q263 : x9_1 < (l1.length : Int) := of_decide_eq_true asmB
        obtain ⟨ad263, e263, hx263_0, hx263_1, hx263_2, hx263_3, hx263_4, hx263_5, hx263_6, hx263_7, hx263_8, hx263_9, hx263_10, hx263_11⟩ := at_T28 HR1.out x9_1 p263 q263
        cases e263
        replace hx263_0 := bx HB.out hx263_0
        replace hx263_1 := bx HB.out hx263_1
        replace hx263_2 := bx HB.out hx263_2
        replace hx263_3 := bx HB.out hx263_3
        replace hx263_4 := bx HB.out hx263_4
        replace hx263_5 := bx HB.out hx263_5
        replace hx263_6 := bx HB.out hx263_6
        replace hx263_7 := bx HB.out hx263_7
        replace hx263_8 := bx HB.out hx263_8
        replace hx263_9 := bx HB.out hx263_9
        replace hx263_10 := bx HB.out hx263_10
        replace hx263_11 := bx HB.out hx263_11
        replace p263 := eq_true p263
        replace q263 := eq_true q263
        obtain ⟨Ao13, co13, eo13⟩ := Kd.R_slice HO_8.out
        subst eo13
        go_wp2_with (first | ((with_reducible refine gate_callee (f := 66) rfl ?_); refine goesL_ (some 26) rfl rfl Try.func66 (by kernel_rfl) rfl #[.slice Ao13 x8_1.length co13, .agg #[.int .i64 ((rd_T28 l1 x9_1).f0), .int .i64 ((rd_T28 l1 x9_1).f1), .int .i64 ((rd_T28 l1 x9_1).f2.f0), .int .i64 ((rd_T28 l1 x9_1).f2.f1), .int .i64 ((rd_T28 l1 x9_1).f2.f2), .int .i64 ((rd_T28 l1 x9_1).f2.f3), .int .i64 ((rd_T28 l1 x9_1).f2.f4), .int .i64 ((rd_T28 l1 x9_1).f3.f0), .int .i64 ((rd_T28 l1 x9_1).f3.f1), .int .i64 ((rd_T28 l1 x9_1).f3.f2), .int .i64 ((rd_T28 l1 x9_1).f3.f3), .int .i64 ((rd_T28 l1 x9_1).f3.f4)]] rfl argsB ?_; (with_reducible refine (spec_l19Apply.calls k1 _ _ x8_1 ((rd_T28 l1 x9_1).f0) ((rd_T28 l1 x9_1).f1) ((rd_T28 l1 x9_1).f2.f0) ((rd_T28 l1 x9_1).f2.f1) ((rd_T28 l1 x9_1).f2.f2) ((rd_T28 l1 x9_1).f2.f3) ((rd_T28 l1 x9_1).f2.f4) ((rd_T28 l1 x9_1).f3.f0) ((rd_T28 l1 x9_1).f3.f1) ((rd_T28 l1 x9_1).f3.f2) ((rd_T28 l1 x9_1).f3.f3) ((rd_T28 l1 x9_1).f3.f4) t264 true _ ?side1 ?side2 A11.out).mono ?_); (case side1 => repeat (first | exact (Kd.R_reads' HO_8.out).2.2 | (with_reducible refine Kd.C_alloc ?_ _) | (with_reducible refine Kd.C_drewN ?_ _) | (with_reducible refine Kd.C_drew ?_))); (case side2 => exact (Kd.R_reads' HO_8.out).2.1); rintro e w14 ⟨v265, rfl, ho0, hb⟩; refine ⟨_, rfl, ?_⟩; have HO266 := Aside0.mk (Kd.R_lower (Kd.R_new' ho0 (Kd.R_lt (upR HO_8.out))) (below_size (bW HB))); replace HO_8 := Aside0.mk (Kd.R_elder' (upR HO_8.out) (Kd.R_base ho0) hb); replace HB := uB HB hb; (try clear hb); (try clear hk); (try clear ho0)))
        go_roundg k1
        case measure => have := HK1.out; omega
        case rel => exact ⟨(t264), (wrap64 (x9_1 + 1)), rB, H', ⟨by have := HK1.out; omega⟩, ⟨by (with_reducible repeat (first | apply Kd.R_alloc | apply Kd.R_drewN | apply Kd.R_drew)); exact Kd.R_mono HO266.out (fun _ hk => trivial)⟩, (aB HB)⟩
       ·replace H := iF (by decide) H
        obtain ⟨y268, hy268⟩ : ∃ y_ : List (S26), y_ = (([] : List (S26))) := ⟨_, rfl⟩
        replace H : (some (y268, false)) = some (r1, r2) := by first | (rw [hy268]; with_reducible exact H) | (have H2_ := (Option.bind_some _ _).symm.trans H; rw [hy268]; with_reducible exact H2_) | (have H2_ := (Option.bind_some _ _).symm.trans H; with_reducible exact H2_) | with_reducible exact H | (rw [hy268]; exact H) | exact H
        have Ny268 := Aside0.mk hy268
        clear hy268
        simp only [Option.some.injEq, Prod.mk.injEq] at H
        obtain ⟨rfl, rfl⟩ := H
        have p263 : 0 ≤ (x9_1 : Int) := of_decide_eq_true asmB
        have q263 : x9_1 < (l1.length : Int) := of_decide_eq_true asmB
        obtain ⟨ad263, e263, hx263_0, hx263_1, hx263_2, hx263_3, hx263_4, hx263_5, hx263_6, hx263_7, hx263_8, hx263_9, hx263_10, hx263_11⟩ := at_T28 HR1.out x9_1 p263 q263
        cases e263
        replace hx263_0 := bx HB.out hx263_0
        replace hx263_1 := bx HB.out hx263_1
        replace hx263_2 := bx HB.out hx263_2
        replace hx263_3 := bx HB.out hx263_3
        replace hx263_4 := bx HB.out hx263_4
        replace hx263_5 := bx HB.out hx263_5
        replace hx263_6 := bx HB.out hx263_6
        replace hx263_7 := bx HB.out hx263_7
        replace hx263_8 := bx HB.out hx263_8
        replace hx263_9 := bx HB.out hx263_9
        replace hx263_10 := bx HB.out hx263_10
        replace hx263_11 := bx HB.out hx263_11
        replace p263 := eq_true p263
        replace q263 := eq_true q263
        obtain ⟨Ao15, co15, eo15⟩ := Kd.R_slice HO_8.out
        subst eo15
        go_wp2_with (first | ((with_reducible refine gate_callee (f := 66) rfl ?_); refine goesL_ (some 26) rfl rfl Try.func66 (by kernel_rfl) rfl #[.slice Ao15 x8_1.length co15, .agg #[.int .i64 ((rd_T28 l1 x9_1).f0), .int .i64 ((rd_T28 l1 x9_1).f1), .int .i64 ((rd_T28 l1 x9_1).f2.f0), .int .i64 ((rd_T28 l1 x9_1).f2.f1), .int .i64 ((rd_T28 l1 x9_1).f2.f2), .int .i64 ((rd_T28 l1 x9_1).f2.f3), .int .i64 ((rd_T28 l1 x9_1).f2.f4), .int .i64 ((rd_T28 l1 x9_1).f3.f0), .int .i64 ((rd_T28 l1 x9_1).f3.f1), .int .i64 ((rd_T28 l1 x9_1).f3.f2), .int .i64 ((rd_T28 l1 x9_1).f3.f3), .int .i64 ((rd_T28 l1 x9_1).f3.f4)]] rfl argsB ?_; (with_reducible refine (spec_l19Apply.calls k1 _ _ x8_1 ((rd_T28 l1 x9_1).f0) ((rd_T28 l1 x9_1).f1) ((rd_T28 l1 x9_1).f2.f0) ((rd_T28 l1 x9_1).f2.f1) ((rd_T28 l1 x9_1).f2.f2) ((rd_T28 l1 x9_1).f2.f3) ((rd_T28 l1 x9_1).f2.f4) ((rd_T28 l1 x9_1).f3.f0) ((rd_T28 l1 x9_1).f3.f1) ((rd_T28 l1 x9_1).f3.f2) ((rd_T28 l1 x9_1).f3.f3) ((rd_T28 l1 x9_1).f3.f4) t264 false _ ?side1 ?side2 A11.out).mono ?_); (case side1 => repeat (first | exact (Kd.R_reads' HO_8.out).2.2 | (with_reducible refine Kd.C_alloc ?_ _) | (with_reducible refine Kd.C_drewN ?_ _) | (with_reducible refine Kd.C_drew ?_))); (case side2 => exact (Kd.R_reads' HO_8.out).2.1); rintro e w16 ⟨v265, rfl, ho0, hb⟩; refine ⟨_, rfl, ?_⟩; have HO266 := Aside0.mk (Kd.R_lower (Kd.R_new' ho0 (Kd.R_lt (upR HO_8.out))) (below_size (bW HB))); replace HO_8 := Aside0.mk (Kd.R_elder' (upR HO_8.out) (Kd.R_base ho0) hb); replace HB := uB HB hb; (try clear hb); (try clear hk); (try clear ho0)) | ((with_reducible refine gate_dst (N := 31) rfl ?_); refine Kd.R_lit k26 _ 26 ?hg (N := 31) ?hd (xs := ([] : List (S26))) (inner := []) (ok := fun _ => True) (okp := fun _ => True) ?hr ?hp (fun _ hk => hk) trivial (Below.refl _ _) (Nat.le_refl _) (by simp) ?_; (case hd => rfl); (case hg => rfl); (case hr => first | (go_simp; done) | (go_simp; rfl)); (case hp => exact (Reps.none _ _)); intro v269 w17 ho18 hb hg_ hnew_; clear hg_ hnew_; (first | rw [← Ny268.out] at ho18 | (simp only [Int.reduceToNat] at ho18; rw [← Ny268.out] at ho18)); have HO270 := Aside0.mk (Kd.R_lower (Kd.R_new' (Kd.R_new' ho18 (Kd.R_lt (upR HO_8.out))) (Kd.R_lt (upR HO266.out))) (below_size (bW HB))); replace HO_8 := Aside0.mk (Kd.R_elder' (upR HO_8.out) (Kd.R_base ho18) hb); replace HO266 := Aside0.mk (Kd.R_elder' (upR HO266.out) (Kd.R_base ho18) hb); replace HB := uB HB hb; clear hb ho18))
        go_ret2
        exact ⟨_, eB, by (with_reducible repeat (first | apply Kd.R_alloc | apply Kd.R_drewN | apply Kd.R_drew)); exact Kd.R_mono HO270.out (fun _ hk => trivial), (bW HB)⟩
      ·rw [if_neg c10] at H
       exact absurd H (by simp)
     ·rw [if_neg c9] at H
      exact absurd H (by simp)
    ·simp only [Option.some.injEq, Prod.mk.injEq] at H
     obtain ⟨rfl, rfl⟩ := H
     go_wp2
     go_ret2
     exact ⟨_, eB, upR HO_8.out, (bW HB)⟩
 ·rw [if_neg c4] at H
  exact absurd H (by simp)

/-! ### spec_l19Good: function 68 -/
def spec_l19Good.f (k : Nat) (l0 : List (S26)) (l1 : List (S28)) : Option (Bool) := (spec_l4Legs.f k l0).bind fun t271 => (if t271 = true then (if (l1.length : Int) > 10 then (some false) else ((spec_l19Run.f k l0 l1 (l1.length : Int)).bind fun bt272 => (some bt272.2))) else (some false))
theorem spec_l19Good.mono : ∀ a0 a1 k, LeO (spec_l19Good.f k a0 a1) (spec_l19Good.f (k + 1) a0 a1) := by
 intro a0 a1 k
 unfold spec_l19Good.f
 repeat' with_reducible first | apply spec_l19Run.mono | apply spec_l4Legs.mono | exact LeO.refl _ | exact LeO.none _ | refine LeO.ite ?_ ?_ | refine LeO.bind ?_ (fun _ => ?_)
set_option maxHeartbeats 8000000 in
set_option maxRecDepth 100000 in
theorem spec_l19Good.calls (k : Nat) (A0 : Option Addr) (c0 : Nat) (l0 : List (S26)) (A1 : Option Addr) (c1 : Nat) (l1 : List (S28)) (r : Bool) (w : World) (hr0 : Kd.C k26 w A0 l0.length l0) (hc0 : l0.length ≤ c0) (hr1 : Kd.C k28 w A1 l1.length l1) (hc1 : l1.length ≤ c1) (h : spec_l19Good.f k l0 l1 = some r) :
  Calls Try.prog 68 #[.slice A0 l0.length c0, .slice A1 l1.length c1] w fun e w' => e = .returned (.bool r) ∧ Below w.heap.size w w' := by
 have HR0 := Aside0.mk hr0
 have HC0 := Aside0.mk hc0
 clear hr0 hc0
 have HR1 := Aside0.mk hr1
 have HC1 := Aside0.mk hc1
 clear hr1 hc1
 have HB := Aside0.mk (Below.refl w.heap.size w)
 have H := h
 clear h
 unfold spec_l19Good.f at H
 replace H := bA H
 obtain ⟨t271, A3, H⟩ := H
 rcases Bool.eq_false_or_eq_true t271 with rfl | rfl
 ·replace H := iT rfl H
  replace H := ifD H
  rcases H with ⟨H, c5, c5b0⟩ | ⟨H, c5, c5b0⟩
  ·have c5b1 : decide (10 < l1.length) = true := decide_eq_true (by omega)
   clear c5
   obtain rfl := Option.some.inj H
   go_enter Try.func68, Try.ntmps68
   go_wp2_with (first | ((with_reducible refine gC 64 ?_); refine lA (some 8) Try.func64 (spec_l4Legs.calls k _ _ l0 true _ ?side1 ?side2 A3.out) ?_; (case side1 => repeat (first | exact HR0.out | (with_reducible refine Kd.C_alloc ?_ _) | (with_reducible refine Kd.C_drewN ?_ _) | (with_reducible refine Kd.C_drew ?_))); (case side2 => exact HC0.out); intro w6 hb; replace HB := uB HB hb; (try clear hb)))
   go_ret
   exact ⟨eB, (bW HB)⟩
  ·have c5b1 : decide (10 < l1.length) = false := decide_eq_false (by omega)
   clear c5
   replace H := Option.bind_eq_some_iff.mp H
   obtain ⟨⟨t272, t273⟩, A70, H⟩ := H
   replace H : (some t273) = some r := H
   have A7 := Aside0.mk A70
   clear A70
   obtain rfl := Option.some.inj H
   go_enter Try.func68, Try.ntmps68
   go_wp2_with (first | ((with_reducible refine gC 64 ?_); refine lA (some 8) Try.func64 (spec_l4Legs.calls k _ _ l0 true _ ?side1 ?side2 A3.out) ?_; (case side1 => repeat (first | exact HR0.out | (with_reducible refine Kd.C_alloc ?_ _) | (with_reducible refine Kd.C_drewN ?_ _) | (with_reducible refine Kd.C_drew ?_))); (case side2 => exact HC0.out); intro w8 hb; replace HB := uB HB hb; (try clear hb)) | ((with_reducible refine gate_callee (f := 71) rfl ?_); refine goesL_ (some 20) rfl rfl Try.func71 (by kernel_rfl) rfl #[.slice A0 l0.length c0, .slice A1 l1.length c1, .int .i64 (l1.length : Int)] rfl argsB ?_; (with_reducible refine (spec_l19Run.calls k _ _ l0 _ _ l1 (l1.length : Int) t272 t273 _ ?side1 ?side2 ?side3 ?side4 A7.out).mono ?_); (case side1 => repeat (first | exact (Kd.C_below HR0.out HB.out) | (with_reducible refine Kd.C_alloc ?_ _) | (with_reducible refine Kd.C_drewN ?_ _) | (with_reducible refine Kd.C_drew ?_))); (case side2 => exact HC0.out); (case side3 => repeat (first | exact (Kd.C_below HR1.out HB.out) | (with_reducible refine Kd.C_alloc ?_ _) | (with_reducible refine Kd.C_drewN ?_ _) | (with_reducible refine Kd.C_drew ?_))); (case side4 => exact HC1.out); rintro e w9 ⟨v274, rfl, ho0, hb⟩; refine ⟨_, rfl, ?_⟩; have HO275 := Aside0.mk (Kd.R_lower ho0 (below_size (bW HB))); replace HB := uB HB hb; (try clear hb); (try clear ho0)))
   go_ret
   exact ⟨eB, (bW HB)⟩
 ·replace H := iF (by decide) H
  obtain rfl := Option.some.inj H
  go_enter Try.func68, Try.ntmps68
  go_wp2_with (first | ((with_reducible refine gC 64 ?_); refine lA (some 8) Try.func64 (spec_l4Legs.calls k _ _ l0 false _ ?side1 ?side2 A3.out) ?_; (case side1 => repeat (first | exact HR0.out | (with_reducible refine Kd.C_alloc ?_ _) | (with_reducible refine Kd.C_drewN ?_ _) | (with_reducible refine Kd.C_drew ?_))); (case side2 => exact HC0.out); intro w10 hb; replace HB := uB HB hb; (try clear hb)))
  go_ret
  exact ⟨eB, (bW HB)⟩

/-! ### spec_l19Touches: function 74 -/
def spec_l19Touches.f (a0_0 a0_1 a0_2 a0_3 a0_4 a1 : Int) : Option (Bool) := if (!(a0_0 == 0) || (!(a0_1 == 0) || (!(a0_2 == 0) || (!(a0_3 == 0) || (!(a0_4 == 0)))))) = true then (if a0_0 = a1 then (some true) else (some (a0_1 == a1))) else (some false)
set_option maxHeartbeats 8000000 in
set_option maxRecDepth 100000 in
theorem spec_l19Touches.calls (a0_0 a0_1 a0_2 a0_3 a0_4 a1 : Int) (r : Bool) (w : World) (h : spec_l19Touches.f a0_0 a0_1 a0_2 a0_3 a0_4 a1 = some r) :
  Calls Try.prog 74 #[.agg #[.int .i64 a0_0, .int .i64 a0_1, .int .i64 a0_2, .int .i64 a0_3, .int .i64 a0_4], .int .i64 a1] w fun e w' => e = .returned (.bool r) ∧ Below w.heap.size w w' := by
 have hu26 := Try.underlying26
 have HB := Aside0.mk (Below.refl w.heap.size w)
 have H := h
 clear h
 unfold spec_l19Touches.f at H
 by_cases c3 : (!(a0_0 == 0) || (!(a0_1 == 0) || (!(a0_2 == 0) || (!(a0_3 == 0) || (!(a0_4 == 0)))))) = true
 ·rw [if_pos c3] at H
  have c3b0 : (!(a0_0 == 0) || (!(a0_1 == 0) || (!(a0_2 == 0) || (!(a0_3 == 0) || (!(a0_4 == 0)))))) = true := c3
  clear c3
  replace H := ifI H
  rcases H with ⟨H, -, c4b0, c4b1⟩ | ⟨H, c4, c4b0, c4b1⟩
  ·obtain rfl := Option.some.inj H
   go_enter Try.func74, Try.ntmps74
   go_wp2_with (first | ((with_reducible refine gD 2 ?_); refine bxE 2 26 #[.int .i64 a0_0, .int .i64 a0_1, .int .i64 a0_2, .int .i64 a0_3, .int .i64 a0_4] fun gb276 w5 hg hbox hb => ?_; have BK276 := Aside0.mk hbox; have GE276 := gB HB hg; replace HB := uB HB hb; clear hb hbox hg) | ((with_reducible refine gD 5 ?_); refine bxE 5 26 #[.int .i64 0, .int .i64 0, .int .i64 0, .int .i64 0, .int .i64 0] fun gb277 w6 hg hbox hb => ?_; have BK277 := Aside0.mk hbox; have GE277 := gB HB hg; have ⟨NB276_277, NB277_276⟩ := nB BK276 hg; replace BK276 := uK BK276 hb; replace HB := uB HB hb; clear hb hbox hg; have hnb7 := NB277_276.out; have hnc7 := NB276_277.out; have ⟨hcz8_0, hcz8_1, hcz8_2, hcz8_3, hcz8_4, hfz8_0⟩ := cz5 BK277; have ⟨hcz9_0, hcz9_1, hcz9_2, hcz9_3, hcz9_4, hfz9_0⟩ := cz5 BK276))
   go_ret
   exact ⟨eB, (bW HB)⟩
  ·obtain rfl := Option.some.inj H
   go_enter Try.func74, Try.ntmps74
   go_wp2_with (first | ((with_reducible refine gD 2 ?_); refine bxE 2 26 #[.int .i64 a0_0, .int .i64 a0_1, .int .i64 a0_2, .int .i64 a0_3, .int .i64 a0_4] fun gb276 w10 hg hbox hb => ?_; have BK276 := Aside0.mk hbox; have GE276 := gB HB hg; replace HB := uB HB hb; clear hb hbox hg) | ((with_reducible refine gD 5 ?_); refine bxE 5 26 #[.int .i64 0, .int .i64 0, .int .i64 0, .int .i64 0, .int .i64 0] fun gb277 w11 hg hbox hb => ?_; have BK277 := Aside0.mk hbox; have GE277 := gB HB hg; have ⟨NB276_277, NB277_276⟩ := nB BK276 hg; replace BK276 := uK BK276 hb; replace HB := uB HB hb; clear hb hbox hg; have hnb12 := NB277_276.out; have hnc12 := NB276_277.out; have ⟨hcz13_0, hcz13_1, hcz13_2, hcz13_3, hcz13_4, hfz13_0⟩ := cz5 BK277; have ⟨hcz14_0, hcz14_1, hcz14_2, hcz14_3, hcz14_4, hfz14_0⟩ := cz5 BK276))
   go_ret
   exact ⟨eB, (bW HB)⟩
 ·rw [if_neg c3] at H
  have c3b0 : (!(a0_0 == 0) || (!(a0_1 == 0) || (!(a0_2 == 0) || (!(a0_3 == 0) || (!(a0_4 == 0)))))) = false := by simpa using c3
  clear c3
  obtain rfl := Option.some.inj H
  go_enter Try.func74, Try.ntmps74
  go_wp2_with (first | ((with_reducible refine gD 2 ?_); refine bxE 2 26 #[.int .i64 a0_0, .int .i64 a0_1, .int .i64 a0_2, .int .i64 a0_3, .int .i64 a0_4] fun gb276 w15 hg hbox hb => ?_; have BK276 := Aside0.mk hbox; have GE276 := gB HB hg; replace HB := uB HB hb; clear hb hbox hg) | ((with_reducible refine gD 5 ?_); refine bxE 5 26 #[.int .i64 0, .int .i64 0, .int .i64 0, .int .i64 0, .int .i64 0] fun gb277 w16 hg hbox hb => ?_; have BK277 := Aside0.mk hbox; have GE277 := gB HB hg; have ⟨NB276_277, NB277_276⟩ := nB BK276 hg; replace BK276 := uK BK276 hb; replace HB := uB HB hb; clear hb hbox hg; have hnb17 := NB277_276.out; have hnc17 := NB276_277.out; have ⟨hcz18_0, hcz18_1, hcz18_2, hcz18_3, hcz18_4, hfz18_0⟩ := cz5 BK277; have ⟨hcz19_0, hcz19_1, hcz19_2, hcz19_3, hcz19_4, hfz19_0⟩ := cz5 BK276))
  go_ret
  exact ⟨eB, (bW HB)⟩

/-! ### spec_EditsOn: function 35 -/
mutual
def spec_EditsOn.j0 : Nat → List (S28) → Int → List Int → Bool → Option (List Int × Bool)
 | 0, _, _, _, _ => none
 | k + 1, x1, x2, x8, x19 => if x19 = true then (some (x8, false)) else (spec_EditsOn.l0 k x1 x2 x8 0)
def spec_EditsOn.l0 : Nat → List (S28) → Int → List Int → Int → Option (List Int × Bool)
 | 0, _, _, _, _ => none
 | k + 1, x1, x2, x8, x9 => if x9 < (x1.length : Int) then (if 0 ≤ x9 then ((spec_l19Touches.f ((rd_T28 x1 x9).f2.f0) ((rd_T28 x1 x9).f2.f1) ((rd_T28 x1 x9).f2.f2) ((rd_T28 x1 x9).f2.f3) ((rd_T28 x1 x9).f2.f4) x2).bind fun t284 => (if t284 = true then (if x8.length < 17592186044416 then (spec_EditsOn.l0 k x1 x2 (x8 ++ [x9]) (wrap64 (x9 + 1))) else (none)) else ((spec_l19Touches.f ((rd_T28 x1 x9).f3.f0) ((rd_T28 x1 x9).f3.f1) ((rd_T28 x1 x9).f3.f2) ((rd_T28 x1 x9).f3.f3) ((rd_T28 x1 x9).f3.f4) x2).bind fun t289 => (if t289 = true then (if x8.length < 17592186044416 then (spec_EditsOn.l0 k x1 x2 (x8 ++ [x9]) (wrap64 (x9 + 1))) else (none)) else (spec_EditsOn.l0 k x1 x2 x8 (wrap64 (x9 + 1))))))) else (none)) else (some (x8, true))
end
def spec_EditsOn.f (k : Nat) (l0 : List (S26)) (l1 : List (S28)) (a2 : Int) : Option (List Int × Bool) := (some (([] : List Int) : List Int)).bind fun y278 => ((spec_l19Good.f k l0 l1).bind fun t281 => (if t281 = true then ((spec_l4Station.f a2).bind fun t282 => (spec_EditsOn.j0 k l1 a2 y278 (!t282))) else (spec_EditsOn.j0 k l1 a2 y278 true)))
theorem spec_EditsOn.mono_l : ∀ k, (∀ y0 y1 y2 y3, LeO (spec_EditsOn.j0 k y0 y1 y2 y3) (spec_EditsOn.j0 (k + 1) y0 y1 y2 y3)) ∧ (∀ y0 y1 y2 y3, LeO (spec_EditsOn.l0 k y0 y1 y2 y3) (spec_EditsOn.l0 (k + 1) y0 y1 y2 y3))
 | 0 => ⟨fun _ _ _ _ r h => by simp [spec_EditsOn.j0] at h, fun _ _ _ _ r h => by simp [spec_EditsOn.l0] at h⟩
 | k + 1 => by
  obtain ⟨ih0, ih1⟩ := spec_EditsOn.mono_l k
  refine ⟨?_, ?_⟩
  ·intro y0 y1 y2 y3
   unfold spec_EditsOn.j0
   repeat' with_reducible first | apply ih0 | apply ih1 | apply spec_l19Good.mono | exact LeO.refl _ | exact LeO.none _ | refine LeO.ite ?_ ?_ | refine LeO.bind ?_ (fun _ => ?_)
  ·intro y0 y1 y2 y3
   unfold spec_EditsOn.l0
   repeat' with_reducible first | apply ih0 | apply ih1 | apply spec_l19Good.mono | exact LeO.refl _ | exact LeO.none _ | refine LeO.ite ?_ ?_ | refine LeO.bind ?_ (fun _ => ?_)
theorem spec_EditsOn.mono : ∀ a0 a1 a2 k, LeO (spec_EditsOn.f k a0 a1 a2) (spec_EditsOn.f (k + 1) a0 a1 a2) := by
 intro a0 a1 a2 k
 obtain ⟨ih0, ih1⟩ := spec_EditsOn.mono_l k
 unfold spec_EditsOn.f
 repeat' with_reducible first | apply ih0 | apply ih1 | apply spec_l19Good.mono | exact LeO.refl _ | exact LeO.none _ | refine LeO.ite ?_ ?_ | refine LeO.bind ?_ (fun _ => ?_)
set_option maxHeartbeats 8000000 in
set_option maxRecDepth 100000 in
theorem spec_EditsOn.calls (k : Nat) (A0 : Option Addr) (c0 : Nat) (l0 : List (S26)) (A1 : Option Addr) (c1 : Nat) (l1 : List (S28)) (a2 : Int) (r1 : List Int) (r2 : Bool) (w : World) (hr0 : Kd.C k26 w A0 l0.length l0) (hc0 : l0.length ≤ c0) (hr1 : Kd.C k28 w A1 l1.length l1) (hc1 : l1.length ≤ c1) (h : spec_EditsOn.f k l0 l1 a2 = some (r1, r2)) :
  Calls Try.prog 35 #[.slice A0 l0.length c0, .slice A1 l1.length c1, .int .i64 a2] w fun e w' => ∃ v0_ : Value, e = .returned (.tuple #[v0_, .bool r2]) ∧ Kd.R (Kd.int .i64) 3 w' w.heap.size (fun _ => True) v0_ r1 ∧ Below w.heap.size w w' := by
 have hu26 := Try.underlying26
 have HR0 := Aside0.mk hr0
 have HC0 := Aside0.mk hc0
 clear hr0 hc0
 have HR1 := Aside0.mk hr1
 have HC1 := Aside0.mk hc1
 clear hr1 hc1
 have HB := Aside0.mk (Below.refl w.heap.size w)
 have H := h
 clear h
 unfold spec_EditsOn.f at H
 obtain ⟨y278, hy278⟩ : ∃ y_ : List Int, y_ = (([] : List Int)) := ⟨_, rfl⟩
 replace H : ((spec_l19Good.f k l0 l1).bind fun t281 => (if t281 = true then ((spec_l4Station.f a2).bind fun t282 => (spec_EditsOn.j0 k l1 a2 y278 (!t282))) else (spec_EditsOn.j0 k l1 a2 y278 true))) = some (r1, r2) := by first | (rw [hy278]; with_reducible exact H) | (have H2_ := (Option.bind_some _ _).symm.trans H; rw [hy278]; with_reducible exact H2_) | (have H2_ := (Option.bind_some _ _).symm.trans H; with_reducible exact H2_) | with_reducible exact H | (rw [hy278]; exact H) | exact H
 have Ny278 := Aside0.mk hy278
 clear hy278
 have HC4 := Aside0.mk H
 clear H
 go_enter Try.func35, Try.ntmps35
 go_upto_region 2 with (first | ((with_reducible refine gate_dst (N := 10) rfl ?_); refine Kd.R_lit (Kd.int .i64) _ 3 ?hg (N := 10) ?hd (xs := ([] : List Int)) (inner := []) (ok := fun _ => True) (okp := fun _ => True) ?hr ?hp (fun _ hk => hk) trivial (Below.refl _ _) (Nat.le_refl _) (by simp) ?_; (case hd => rfl); (case hg => rfl); (case hr => first | (go_simp; done) | (go_simp; rfl)); (case hp => exact (Reps.none _ _)); intro v279 w5 ho6 hb hg_ hnew_; clear hg_ hnew_; (first | rw [← Ny278.out] at ho6 | (simp only [Int.reduceToNat] at ho6; rw [← Ny278.out] at ho6)); have HO280 := Aside0.mk (Kd.R_lower ho6 (below_size (bW HB))); replace HB := uB HB hb; clear hb ho6))
 (try simp only [Act.put, List.setIfInBounds_toArray, List.set_cons_zero, List.set_cons_succ])
 go_cut [19] (fun v19 wc => ∃ (kq : Nat) (x19_3 : Bool), v19 = .bool x19_3 ∧ Aside0 (spec_EditsOn.j0 kq l1 a2 y278 x19_3 = some (r1, r2)) ∧ Aside0 (kq ≤ k) ∧ Aside0 (Kd.R (Kd.int .i64) 3 wc w.heap.size (fun _ => True) v279 y278) ∧ Aside0 (Below w.heap.size w wc))
 case first =>
  have H := HC4.out
  clear HC4
  replace H := bA H
  obtain ⟨t281, A7, H⟩ := H
  rcases Bool.eq_false_or_eq_true t281 with rfl | rfl
  ·replace H := iT rfl H
   replace H := bA H
   obtain ⟨t282, A9, H⟩ := H
   have H' := Aside0.mk H
   clear H
   go_wp2_with (first | ((with_reducible refine gC 68 ?_); refine lA (some 13) Try.func68 (spec_l19Good.calls k _ _ l0 _ _ l1 true _ ?side1 ?side2 ?side3 ?side4 A7.out) ?_; (case side1 => repeat (first | exact (Kd.C_below HR0.out HB.out) | (with_reducible refine Kd.C_alloc ?_ _) | (with_reducible refine Kd.C_drewN ?_ _) | (with_reducible refine Kd.C_drew ?_))); (case side2 => exact HC0.out); (case side3 => repeat (first | exact (Kd.C_below HR1.out HB.out) | (with_reducible refine Kd.C_alloc ?_ _) | (with_reducible refine Kd.C_drewN ?_ _) | (with_reducible refine Kd.C_drew ?_))); (case side4 => exact HC1.out); intro w10 hb; replace HO280 := uR HO280 hb; replace HB := uB HB hb; (try clear hb); (try clear hk)) | (go_at_call 73; (with_reducible refine (spec_l4Station.calls a2 t282 _ A9.out).mono ?_); rintro e w' ⟨rfl, ⟨nd, rfl⟩⟩))
   go_meet
   case rel => exact ⟨_, (!t282), rB, H', leB, ⟨upR HO280.out⟩, (aB HB)⟩
  ·replace H := iF (by decide) H
   have H' := Aside0.mk H
   clear H
   go_wp2_with (first | ((with_reducible refine gC 68 ?_); refine lA (some 13) Try.func68 (spec_l19Good.calls k _ _ l0 _ _ l1 false _ ?side1 ?side2 ?side3 ?side4 A7.out) ?_; (case side1 => repeat (first | exact (Kd.C_below HR0.out HB.out) | (with_reducible refine Kd.C_alloc ?_ _) | (with_reducible refine Kd.C_drewN ?_ _) | (with_reducible refine Kd.C_drew ?_))); (case side2 => exact HC0.out); (case side3 => repeat (first | exact (Kd.C_below HR1.out HB.out) | (with_reducible refine Kd.C_alloc ?_ _) | (with_reducible refine Kd.C_drewN ?_ _) | (with_reducible refine Kd.C_drew ?_))); (case side4 => exact HC1.out); intro w11 hb; replace HO280 := uR HO280 hb; replace HB := uB HB hb; (try clear hb); (try clear hk)))
   go_meet
   case rel => exact ⟨_, (true), rB, H', leB, ⟨upR HO280.out⟩, (aB HB)⟩
 case rest =>
  clear HC4
  try clear c1
  obtain ⟨kq, x19_3, rfl, HA, HJ3, HO_8, HB⟩ := hcut
  cases kq with
  | zero => exact absurd HA.out (by simp [spec_EditsOn.j0])
  | succ kj3 =>
   have H := HA.out
   clear HA
   simp only [spec_EditsOn.j0] at H
   rcases Bool.eq_false_or_eq_true x19_3 with rfl | rfl
   ·replace H := iT rfl H
    simp only [Option.some.injEq, Prod.mk.injEq] at H
    obtain ⟨rfl, rfl⟩ := H
    go_wp2
    go_ret2
    exact ⟨_, eB, upR HO_8.out, (bW HB)⟩
   ·replace H := iF (by decide) H
    have H' := Aside0.mk H
    clear H
    go_wp2
    go_loopg [8, 9] kj3 (fun kq v8 v9 w' => ∃ (x8_2 : List Int) (x9_2 : Int), v9 = .int .i64 x9_2 ∧ Aside0 (spec_EditsOn.l0 kq l1 a2 x8_2 x9_2 = some (r1, r2)) ∧ Aside0 (kq ≤ kj3) ∧ Aside0 (Kd.R (Kd.int .i64) 3 w' w.heap.size (fun _ => True) v8 x8_2) ∧ Aside0 (Below w.heap.size w w'))
    case atStart => exact ⟨(y278), (0), rB, H', ⟨Nat.le_refl _⟩, ⟨upR HO_8.out⟩, (aB HB)⟩
    case round =>
     clear H'
     try clear c1
     obtain ⟨x8_2, x9_2, rfl, HA, HK2, HO_8, HB⟩ := hrel
     cases gk with
     | zero => exact absurd HA.out (by simp [spec_EditsOn.l0])
     | succ k2 =>
      have H := HA.out
      clear HA
      simp only [spec_EditsOn.l0] at H
      replace H := ifD H
      rcases H with ⟨H, -, c13b0⟩ | ⟨H, -, c13b0⟩
      ·by_cases c14 : 0 ≤ x9_2
       ·rw [if_pos c14] at H
        have c14b0 : decide (0 ≤ x9_2) = true := decide_eq_true c14
        clear c14
        replace H := bA H
        obtain ⟨t284, A15, H⟩ := H
        rcases Bool.eq_false_or_eq_true t284 with rfl | rfl
        ·replace H := iT rfl H
         by_cases c17 : x8_2.length < 17592186044416
         ·rw [if_pos c17] at H
          have LMc17 := Aside0.mk c17
          clear c17
          obtain ⟨y285, hy285⟩ : ∃ y_ : List Int, y_ = (x8_2 ++ [x9_2]) := ⟨_, rfl⟩
          replace H : (spec_EditsOn.l0 k2 l1 a2 y285 (wrap64 (x9_2 + 1))) = some (r1, r2) := by first | (rw [hy285]; with_reducible exact H) | (have H2_ := (Option.bind_some _ _).symm.trans H; rw [hy285]; with_reducible exact H2_) | (have H2_ := (Option.bind_some _ _).symm.trans H; with_reducible exact H2_) | with_reducible exact H | (rw [hy285]; exact H) | exact H
          have Ny285 := Aside0.mk hy285
          clear hy285
          have H' := Aside0.mk H
          clear H
          have p283 : 0 ≤ (x9_2 : Int) := of_decide_eq_true asmB
          have q283 : x9_2 < (l1.length : Int) := of_decide_eq_true asmB
          obtain ⟨ad283, e283, hx283_0, hx283_1, hx283_2, hx283_3, hx283_4, hx283_5, hx283_6, hx283_7, hx283_8, hx283_9, hx283_10, hx283_11⟩ := at_T28 HR1.out x9_2 p283 q283
          cases e283
          replace hx283_0 := bx HB.out hx283_0
          replace hx283_1 := bx HB.out hx283_1
          replace hx283_2 := bx HB.out hx283_2
          replace hx283_3 := bx HB.out hx283_3
          replace hx283_4 := bx HB.out hx283_4
          replace hx283_5 := bx HB.out hx283_5
          replace hx283_6 := bx HB.out hx283_6
          replace hx283_7 := bx HB.out hx283_7
          replace hx283_8 := bx HB.out hx283_8
          replace hx283_9 := bx HB.out hx283_9
          replace hx283_10 := bx HB.out hx283_10
          replace hx283_11 := bx HB.out hx283_11
          replace p283 := eq_true p283
          replace q283 := eq_true q283
          go_wp2_with (first | ((with_reducible refine gC 74 ?_); refine lA (some 33) Try.func74 (spec_l19Touches.calls ((rd_T28 l1 x9_2).f2.f0) ((rd_T28 l1 x9_2).f2.f1) ((rd_T28 l1 x9_2).f2.f2) ((rd_T28 l1 x9_2).f2.f3) ((rd_T28 l1 x9_2).f2.f4) a2 true _ A15.out) ?_; intro w18 hb; replace HO_8 := uR HO_8 hb; replace HB := uB HB hb; (try clear hb); (try clear hk)) | ((with_reducible refine gate_builtin (b := .append) (xs := #[.tmp 43, .tmp 45]) rfl ?_); at_builtin; refine Kd.R_append (Kd.int .i64) (w0 := w) w.heap.size rfl (.tmp 43) (.tmp 45) 56 3 (.int .i64 0) 8 rfl Try.underlying56 info3 rfl (by decide) (by omega) u8 x8_2 x9_2 [.int .i64 x9_2] (fun _ => True) (fun _ => False) rfl rfl ?aP (fun _ hk => hk.elim) ?aF ?aO ?aB ?aS ?aL ?_; (case aP => exact rfl); (case aB => exact (bW HB)); (case aF => exact (fun _ _ => trivial)); (case aO => exact (upR HO_8.out)); (case aS => exact (below_size (bW HB))); (case aL => have := LMc17.out; omega); intro v286 w19 ho hb hg hat; rw [← Ny285.out] at ho; have HO287 := Aside0.mk (ho); replace HB := Aside0.mk (hb); clear HO_8; clear ho hb hg hat))
          go_roundg k2
          case measure => have := HJ3.out; have := HK2.out; omega
          case rel => exact ⟨(y285), (wrap64 (x9_2 + 1)), rB, H', ⟨by have := HJ3.out; have := HK2.out; omega⟩, ⟨upR HO287.out⟩, (aB HB)⟩
         ·rw [if_neg c17] at H
          exact absurd H (by simp)
        ·replace H := iF (by decide) H
         replace H := bA H
         obtain ⟨t289, A20, H⟩ := H
         rcases Bool.eq_false_or_eq_true t289 with rfl | rfl
         ·replace H := iT rfl H
          by_cases c22 : x8_2.length < 17592186044416
          ·rw [if_pos c22] at H
           have LMc22 := Aside0.mk c22
           clear c22
           obtain ⟨y290, hy290⟩ : ∃ y_ : List Int, y_ = (x8_2 ++ [x9_2]) := ⟨_, rfl⟩
           replace H : (spec_EditsOn.l0 k2 l1 a2 y290 (wrap64 (x9_2 + 1))) = some (r1, r2) := by first | (rw [hy290]; with_reducible exact H) | (have H2_ := (Option.bind_some _ _).symm.trans H; rw [hy290]; with_reducible exact H2_) | (have H2_ := (Option.bind_some _ _).symm.trans H; with_reducible exact H2_) | with_reducible exact H | (rw [hy290]; exact H) | exact H
           have Ny290 := Aside0.mk hy290
           clear hy290
           have H' := Aside0.mk H
           clear H
           have p283 : 0 ≤ (x9_2 : Int) := of_decide_eq_true asmB
           have q283 : x9_2 < (l1.length : Int) := of_decide_eq_true asmB
           obtain ⟨ad283, e283, hx283_0, hx283_1, hx283_2, hx283_3, hx283_4, hx283_5, hx283_6, hx283_7, hx283_8, hx283_9, hx283_10, hx283_11⟩ := at_T28 HR1.out x9_2 p283 q283
           cases e283
           replace hx283_0 := bx HB.out hx283_0
           replace hx283_1 := bx HB.out hx283_1
           replace hx283_2 := bx HB.out hx283_2
           replace hx283_3 := bx HB.out hx283_3
           replace hx283_4 := bx HB.out hx283_4
           replace hx283_5 := bx HB.out hx283_5
           replace hx283_6 := bx HB.out hx283_6
           replace hx283_7 := bx HB.out hx283_7
           replace hx283_8 := bx HB.out hx283_8
           replace hx283_9 := bx HB.out hx283_9
           replace hx283_10 := bx HB.out hx283_10
           replace hx283_11 := bx HB.out hx283_11
           replace p283 := eq_true p283
           replace q283 := eq_true q283
           go_wp2_with (first | ((with_reducible refine gC 74 ?_); refine lA (some 33) Try.func74 (spec_l19Touches.calls ((rd_T28 l1 x9_2).f2.f0) ((rd_T28 l1 x9_2).f2.f1) ((rd_T28 l1 x9_2).f2.f2) ((rd_T28 l1 x9_2).f2.f3) ((rd_T28 l1 x9_2).f2.f4) a2 false _ A15.out) ?_; intro w23 hb; replace HO_8 := uR HO_8 hb; replace HB := uB HB hb; (try clear hb); (try clear hk); have p288 : 0 ≤ (x9_2 : Int) := of_decide_eq_true asmB; have q288 : x9_2 < (l1.length : Int) := of_decide_eq_true asmB; obtain ⟨ad288, e288, hx288_0, hx288_1, hx288_2, hx288_3, hx288_4, hx288_5, hx288_6, hx288_7, hx288_8, hx288_9, hx288_10, hx288_11⟩ := at_T28 HR1.out x9_2 p288 q288; obtain rfl : ad283 = ad288 := (by injection e288); replace hx288_0 := bx HB.out hx288_0; replace hx288_1 := bx HB.out hx288_1; replace hx288_2 := bx HB.out hx288_2; replace hx288_3 := bx HB.out hx288_3; replace hx288_4 := bx HB.out hx288_4; replace hx288_5 := bx HB.out hx288_5; replace hx288_6 := bx HB.out hx288_6; replace hx288_7 := bx HB.out hx288_7; replace hx288_8 := bx HB.out hx288_8; replace hx288_9 := bx HB.out hx288_9; replace hx288_10 := bx HB.out hx288_10; replace hx288_11 := bx HB.out hx288_11; replace p288 := eq_true p288; replace q288 := eq_true q288) | (go_at_call 74; (with_reducible refine (spec_l19Touches.calls ((rd_T28 l1 x9_2).f3.f0) ((rd_T28 l1 x9_2).f3.f1) ((rd_T28 l1 x9_2).f3.f2) ((rd_T28 l1 x9_2).f3.f3) ((rd_T28 l1 x9_2).f3.f4) a2 true _ A20.out).mono ?_); rintro e w24 ⟨rfl, hb⟩; replace HO_8 := uR HO_8 hb; replace HB := uB HB hb; (try clear hb); (try clear hk)) | ((with_reducible refine gate_builtin (b := .append) (xs := #[.tmp 43, .tmp 45]) rfl ?_); at_builtin; refine Kd.R_append (Kd.int .i64) (w0 := w) w.heap.size rfl (.tmp 43) (.tmp 45) 56 3 (.int .i64 0) 8 rfl Try.underlying56 info3 rfl (by decide) (by omega) u8 x8_2 x9_2 [.int .i64 x9_2] (fun _ => True) (fun _ => False) rfl rfl ?aP (fun _ hk => hk.elim) ?aF ?aO ?aB ?aS ?aL ?_; (case aP => exact rfl); (case aB => exact (bW HB)); (case aF => exact (fun _ _ => trivial)); (case aO => exact (upR HO_8.out)); (case aS => exact (below_size (bW HB))); (case aL => have := LMc22.out; omega); intro v291 w25 ho hb hg hat; rw [← Ny290.out] at ho; have HO292 := Aside0.mk (ho); replace HB := Aside0.mk (hb); clear HO_8; clear ho hb hg hat))
           go_roundg k2
           case measure => have := HJ3.out; have := HK2.out; omega
           case rel => exact ⟨(y290), (wrap64 (x9_2 + 1)), rB, H', ⟨by have := HJ3.out; have := HK2.out; omega⟩, ⟨upR HO292.out⟩, (aB HB)⟩
          ·rw [if_neg c22] at H
           exact absurd H (by simp)
         ·replace H := iF (by decide) H
          have H' := Aside0.mk H
          clear H
          have p283 : 0 ≤ (x9_2 : Int) := of_decide_eq_true asmB
          have q283 : x9_2 < (l1.length : Int) := of_decide_eq_true asmB
          obtain ⟨ad283, e283, hx283_0, hx283_1, hx283_2, hx283_3, hx283_4, hx283_5, hx283_6, hx283_7, hx283_8, hx283_9, hx283_10, hx283_11⟩ := at_T28 HR1.out x9_2 p283 q283
          cases e283
          replace hx283_0 := bx HB.out hx283_0
          replace hx283_1 := bx HB.out hx283_1
          replace hx283_2 := bx HB.out hx283_2
          replace hx283_3 := bx HB.out hx283_3
          replace hx283_4 := bx HB.out hx283_4
          replace hx283_5 := bx HB.out hx283_5
          replace hx283_6 := bx HB.out hx283_6
          replace hx283_7 := bx HB.out hx283_7
          replace hx283_8 := bx HB.out hx283_8
          replace hx283_9 := bx HB.out hx283_9
          replace hx283_10 := bx HB.out hx283_10
          replace hx283_11 := bx HB.out hx283_11
          replace p283 := eq_true p283
          replace q283 := eq_true q283
          go_wp2_with (first | ((with_reducible refine gC 74 ?_); refine lA (some 33) Try.func74 (spec_l19Touches.calls ((rd_T28 l1 x9_2).f2.f0) ((rd_T28 l1 x9_2).f2.f1) ((rd_T28 l1 x9_2).f2.f2) ((rd_T28 l1 x9_2).f2.f3) ((rd_T28 l1 x9_2).f2.f4) a2 false _ A15.out) ?_; intro w26 hb; replace HO_8 := uR HO_8 hb; replace HB := uB HB hb; (try clear hb); (try clear hk); have p288 : 0 ≤ (x9_2 : Int) := of_decide_eq_true asmB; have q288 : x9_2 < (l1.length : Int) := of_decide_eq_true asmB; obtain ⟨ad288, e288, hx288_0, hx288_1, hx288_2, hx288_3, hx288_4, hx288_5, hx288_6, hx288_7, hx288_8, hx288_9, hx288_10, hx288_11⟩ := at_T28 HR1.out x9_2 p288 q288; obtain rfl : ad283 = ad288 := (by injection e288); replace hx288_0 := bx HB.out hx288_0; replace hx288_1 := bx HB.out hx288_1; replace hx288_2 := bx HB.out hx288_2; replace hx288_3 := bx HB.out hx288_3; replace hx288_4 := bx HB.out hx288_4; replace hx288_5 := bx HB.out hx288_5; replace hx288_6 := bx HB.out hx288_6; replace hx288_7 := bx HB.out hx288_7; replace hx288_8 := bx HB.out hx288_8; replace hx288_9 := bx HB.out hx288_9; replace hx288_10 := bx HB.out hx288_10; replace hx288_11 := bx HB.out hx288_11; replace p288 := eq_true p288; replace q288 := eq_true q288) | (go_at_call 74; (with_reducible refine (spec_l19Touches.calls ((rd_T28 l1 x9_2).f3.f0) ((rd_T28 l1 x9_2).f3.f1) ((rd_T28 l1 x9_2).f3.f2) ((rd_T28 l1 x9_2).f3.f3) ((rd_T28 l1 x9_2).f3.f4) a2 false _ A20.out).mono ?_); rintro e w27 ⟨rfl, hb⟩; replace HO_8 := uR HO_8 hb; replace HB := uB HB hb; (try clear hb); (try clear hk)))
          go_roundg k2
          case measure => have := HJ3.out; have := HK2.out; omega
          case rel => exact ⟨(x8_2), (wrap64 (x9_2 + 1)), rB, H', ⟨by have := HJ3.out; have := HK2.out; omega⟩, ⟨upR HO_8.out⟩, (aB HB)⟩
       ·rw [if_neg c14] at H
        exact absurd H (by simp)
      ·simp only [Option.some.injEq, Prod.mk.injEq] at H
       obtain ⟨rfl, rfl⟩ := H
       go_wp2
       go_ret2
       exact ⟨_, eB, upR HO_8.out, (bW HB)⟩

/-! ### impl_IsHistory: function 32 -/
def impl_IsHistory.f (k : Nat) (l0 : List (S26)) (l1 : List (S28)) : Option (Bool) := (impl_versions.f k l0 l1).bind fun bt293 => (some bt293.2)
theorem impl_IsHistory.mono : ∀ a0 a1 k, LeO (impl_IsHistory.f k a0 a1) (impl_IsHistory.f (k + 1) a0 a1) := by
 intro a0 a1 k
 unfold impl_IsHistory.f
 repeat' with_reducible first | apply impl_versions.mono | exact LeO.refl _ | exact LeO.none _ | refine LeO.ite ?_ ?_ | refine LeO.bind ?_ (fun _ => ?_)
set_option maxHeartbeats 8000000 in
set_option maxRecDepth 100000 in
theorem impl_IsHistory.calls (k : Nat) (A0 : Option Addr) (c0 : Nat) (l0 : List (S26)) (A1 : Option Addr) (c1 : Nat) (l1 : List (S28)) (r : Bool) (w : World) (hr0 : Kd.C k26 w A0 l0.length l0) (hc0 : l0.length ≤ c0) (hr1 : Kd.C k28 w A1 l1.length l1) (hc1 : l1.length ≤ c1) (h : impl_IsHistory.f k l0 l1 = some r) :
  Calls Try.prog 32 #[.slice A0 l0.length c0, .slice A1 l1.length c1] w fun e w' => e = .returned (.bool r) ∧ Below w.heap.size w w' := by
 have HR0 := Aside0.mk hr0
 have HC0 := Aside0.mk hc0
 clear hr0 hc0
 have HR1 := Aside0.mk hr1
 have HC1 := Aside0.mk hc1
 clear hr1 hc1
 have HB := Aside0.mk (Below.refl w.heap.size w)
 have H := h
 clear h
 unfold impl_IsHistory.f at H
 replace H := Option.bind_eq_some_iff.mp H
 obtain ⟨⟨t293, t294⟩, A30, H⟩ := H
 replace H : (some t294) = some r := H
 have A3 := Aside0.mk A30
 clear A30
 obtain rfl := Option.some.inj H
 go_enter Try.func32, Try.ntmps32
 go_wp2_with (first | ((with_reducible refine gate_callee (f := 69) rfl ?_); refine goesL_ (some 10) rfl rfl Try.func69 (by kernel_rfl) rfl #[.slice A0 l0.length c0, .slice A1 l1.length c1] rfl argsB ?_; (with_reducible refine (impl_versions.calls k _ _ l0 _ _ l1 t293 t294 _ ?side1 ?side2 ?side3 ?side4 A3.out).mono ?_); (case side1 => repeat (first | exact HR0.out | (with_reducible refine Kd.C_alloc ?_ _) | (with_reducible refine Kd.C_drewN ?_ _) | (with_reducible refine Kd.C_drew ?_))); (case side2 => exact HC0.out); (case side3 => repeat (first | exact HR1.out | (with_reducible refine Kd.C_alloc ?_ _) | (with_reducible refine Kd.C_drewN ?_ _) | (with_reducible refine Kd.C_drew ?_))); (case side4 => exact HC1.out); rintro e w4 ⟨v295, rfl, ho0, hb⟩; refine ⟨_, rfl, ?_⟩; have HO296 := Aside0.mk (Kd.S_lower ho0 (below_size (bW HB))); replace HB := uB HB hb; (try clear hb); (try clear ho0)))
 go_ret
 exact ⟨eB, (bW HB)⟩

/-! ### impl_touches: function 76 -/
def impl_touches.f (a0_0 a0_1 a0_2 a0_3 a0_4 a1 : Int) : Option (Bool) := if (!(a0_0 == 0) || (!(a0_1 == 0) || (!(a0_2 == 0) || (!(a0_3 == 0) || (!(a0_4 == 0)))))) = true then (if a0_0 = a1 then (some true) else (some (a0_1 == a1))) else (some false)
set_option maxHeartbeats 8000000 in
set_option maxRecDepth 100000 in
theorem impl_touches.calls (a0_0 a0_1 a0_2 a0_3 a0_4 a1 : Int) (r : Bool) (w : World) (h : impl_touches.f a0_0 a0_1 a0_2 a0_3 a0_4 a1 = some r) :
  Calls Try.prog 76 #[.agg #[.int .i64 a0_0, .int .i64 a0_1, .int .i64 a0_2, .int .i64 a0_3, .int .i64 a0_4], .int .i64 a1] w fun e w' => e = .returned (.bool r) ∧ Below w.heap.size w w' := by
 have hu26 := Try.underlying26
 have HB := Aside0.mk (Below.refl w.heap.size w)
 have H := h
 clear h
 unfold impl_touches.f at H
 by_cases c3 : (!(a0_0 == 0) || (!(a0_1 == 0) || (!(a0_2 == 0) || (!(a0_3 == 0) || (!(a0_4 == 0)))))) = true
 ·rw [if_pos c3] at H
  have c3b0 : (!(a0_0 == 0) || (!(a0_1 == 0) || (!(a0_2 == 0) || (!(a0_3 == 0) || (!(a0_4 == 0)))))) = true := c3
  clear c3
  replace H := ifI H
  rcases H with ⟨H, -, c4b0, c4b1⟩ | ⟨H, c4, c4b0, c4b1⟩
  ·obtain rfl := Option.some.inj H
   go_enter Try.func76, Try.ntmps76
   go_wp2_with (first | ((with_reducible refine gD 2 ?_); refine bxE 2 26 #[.int .i64 a0_0, .int .i64 a0_1, .int .i64 a0_2, .int .i64 a0_3, .int .i64 a0_4] fun gb297 w5 hg hbox hb => ?_; have BK297 := Aside0.mk hbox; have GE297 := gB HB hg; replace HB := uB HB hb; clear hb hbox hg; have ⟨hcz6_0, hcz6_1, hcz6_2, hcz6_3, hcz6_4, hfz6_0⟩ := cz5 BK297))
   go_ret
   exact ⟨eB, (bW HB)⟩
  ·obtain rfl := Option.some.inj H
   go_enter Try.func76, Try.ntmps76
   go_wp2_with (first | ((with_reducible refine gD 2 ?_); refine bxE 2 26 #[.int .i64 a0_0, .int .i64 a0_1, .int .i64 a0_2, .int .i64 a0_3, .int .i64 a0_4] fun gb297 w7 hg hbox hb => ?_; have BK297 := Aside0.mk hbox; have GE297 := gB HB hg; replace HB := uB HB hb; clear hb hbox hg; have ⟨hcz8_0, hcz8_1, hcz8_2, hcz8_3, hcz8_4, hfz8_0⟩ := cz5 BK297))
   go_ret
   exact ⟨eB, (bW HB)⟩
 ·rw [if_neg c3] at H
  have c3b0 : (!(a0_0 == 0) || (!(a0_1 == 0) || (!(a0_2 == 0) || (!(a0_3 == 0) || (!(a0_4 == 0)))))) = false := by simpa using c3
  clear c3
  obtain rfl := Option.some.inj H
  go_enter Try.func76, Try.ntmps76
  go_wp2_with (first | ((with_reducible refine gD 2 ?_); refine bxE 2 26 #[.int .i64 a0_0, .int .i64 a0_1, .int .i64 a0_2, .int .i64 a0_3, .int .i64 a0_4] fun gb297 w9 hg hbox hb => ?_; have BK297 := Aside0.mk hbox; have GE297 := gB HB hg; replace HB := uB HB hb; clear hb hbox hg; have ⟨hcz10_0, hcz10_1, hcz10_2, hcz10_3, hcz10_4, hfz10_0⟩ := cz5 BK297))
  go_ret
  exact ⟨eB, (bW HB)⟩

end Go.Proofs.Ytinelmmnajelaaa.QFnDiffs
