/- Contracts of Go functions that FnExactUndoEdits reaches: the call computes what the plain function says. No condition. -/
import Derived.Test.YtinelmmnajelaaaQFnExactUndoEditsx0
import Derived.Test.YtinelmmnajelaaaQFnExactUndoEditsx5
import Derived.Test.YtinelmmnajelaaaQFnExactUndoEditsx6
namespace Go.Proofs.Ytinelmmnajelaaa.QFnExactUndoEdits
open Go.RowKit Go.Proofs.YtinelmmnajelaaaW.PrintWords Go.Proofs.YtinelmmnajelaaaW.PrintLast Go.Proofs.YtinelmmnajelaaaW.PrintMore
attribute [local go_sem] max2_int min2_int max_two min_two max_three min_three max_four min_four   -- for this text's walks alone
set_option linter.unusedVariables false
set_option linter.unusedSimpArgs false

/-! ### spec_l19Run: function 71 -/
def spec_l19Run.l0 : Nat → List (S28) → Int → List (S26) → Int → Option ((List (S26)) × Bool)
 | 0, _, _, _, _ => none
 | k + 1, x1, x2, x8, x9 => if x9 < x2 then (if 0 ≤ x9 then (if x9 < (x1.length : Int) then ((spec_l19Apply.f k x8 ((rd_T28 x1 x9).f0) ((rd_T28 x1 x9).f1) ((rd_T28 x1 x9).f2.f0) ((rd_T28 x1 x9).f2.f1) ((rd_T28 x1 x9).f2.f2) ((rd_T28 x1 x9).f2.f3) ((rd_T28 x1 x9).f2.f4) ((rd_T28 x1 x9).f3.f0) ((rd_T28 x1 x9).f3.f1) ((rd_T28 x1 x9).f3.f2) ((rd_T28 x1 x9).f3.f3) ((rd_T28 x1 x9).f3.f4)).bind fun bt246 => (if bt246.2 = true then (spec_l19Run.l0 k x1 x2 bt246.1 (wrap64 (x9 + 1))) else (some ((([] : List (S26))), false)))) else (none)) else (none)) else (some (x8, true))
def spec_l19Run.f (k : Nat) (l0 : List (S26)) (l1 : List (S28)) (a2 : Int) : Option ((List (S26)) × Bool) := (some (([] : List (S26)) : List (S26))).bind fun y239 => (if y239.length + l0.length < 3518437208883 then (spec_l19Run.l0 k l1 a2 (y239 ++ l0) 0) else (none))
theorem spec_l19Run.mono_l : ∀ k, (∀ y0 y1 y2 y3, LeO (spec_l19Run.l0 k y0 y1 y2 y3) (spec_l19Run.l0 (k + 1) y0 y1 y2 y3))
 | 0 => fun _ _ _ _ r h => by simp [spec_l19Run.l0] at h
 | k + 1 => by
  have ih0 := spec_l19Run.mono_l k
  ·intro y0 y1 y2 y3
   unfold spec_l19Run.l0
   repeat' with_reducible first | apply ih0 | apply spec_l19Apply.mono | exact LeO.refl _ | exact LeO.none _ | refine LeO.ite ?_ ?_ | refine LeO.bind ?_ (fun _ => ?_)
theorem spec_l19Run.mono : ∀ a0 a1 a2 k, LeO (spec_l19Run.f k a0 a1 a2) (spec_l19Run.f (k + 1) a0 a1 a2) := by
 intro a0 a1 a2 k
 have ih0 := spec_l19Run.mono_l k
 unfold spec_l19Run.f
 repeat' with_reducible first | apply ih0 | apply spec_l19Apply.mono | exact LeO.refl _ | exact LeO.none _ | refine LeO.ite ?_ ?_ | refine LeO.bind ?_ (fun _ => ?_)
set_option maxHeartbeats 8000000 in
set_option maxRecDepth 100000 in
theorem spec_l19Run.calls (k : Nat) (A0 : Option Addr) (c0 : Nat) (l0 : List (S26)) (A1 : Option Addr) (c1 : Nat) (l1 : List (S28)) (a2 : Int) (r1 : List (S26)) (r2 : Bool) (w : World) (hr0 : Kd.C k26 w A0 l0.length l0) (hc0 : l0.length ≤ c0) (hr1 : Kd.C k28 w A1 l1.length l1) (hc1 : l1.length ≤ c1) (h : spec_l19Run.f k l0 l1 a2 = some (r1, r2)) :
  Calls Try.prog 71 #[.slice A0 l0.length c0, .slice A1 l1.length c1, .int .i64 a2] w fun e w' => ∃ v0_ : Value, e = .returned (.tuple #[v0_, .bool r2]) ∧ Kd.R k26 26 w' w.heap.size (fun _ => True) v0_ r1 ∧ Below w.heap.size w w' := by
 have hu28 := Try.underlying28
 have HR0 := Aside0.mk hr0
 have HC0 := Aside0.mk hc0
 clear hr0 hc0
 have HR1 := Aside0.mk hr1
 have HC1 := Aside0.mk hc1
 clear hr1 hc1
 have HB := Aside0.mk (Below.refl w.heap.size w)
 have H := h
 clear h
 unfold spec_l19Run.f at H
 obtain ⟨y239, hy239⟩ : ∃ y_ : List (S26), y_ = (([] : List (S26))) := ⟨_, rfl⟩
 replace H : (if y239.length + l0.length < 3518437208883 then (spec_l19Run.l0 k l1 a2 (y239 ++ l0) 0) else (none)) = some (r1, r2) := by first | (rw [hy239]; with_reducible exact H) | (have H2_ := (Option.bind_some _ _).symm.trans H; rw [hy239]; with_reducible exact H2_) | (have H2_ := (Option.bind_some _ _).symm.trans H; with_reducible exact H2_) | with_reducible exact H | (rw [hy239]; exact H) | exact H
 have Ny239 := Aside0.mk hy239
 clear hy239
 by_cases c4 : y239.length + l0.length < 3518437208883
 ·rw [if_pos c4] at H
  have LMc4 := Aside0.mk c4
  clear c4
  obtain ⟨y242, hy242⟩ : ∃ y_ : List (S26), y_ = (y239 ++ l0) := ⟨_, rfl⟩
  replace H : (spec_l19Run.l0 k l1 a2 y242 0) = some (r1, r2) := by first | (rw [hy242]; with_reducible exact H) | (have H2_ := (Option.bind_some _ _).symm.trans H; rw [hy242]; with_reducible exact H2_) | (have H2_ := (Option.bind_some _ _).symm.trans H; with_reducible exact H2_) | with_reducible exact H | (rw [hy242]; exact H) | exact H
  have Ny242 := Aside0.mk hy242
  clear hy242
  have H' := Aside0.mk H
  clear H
  go_enter Try.func71, Try.ntmps71
  go_wp2_with (first | ((with_reducible refine gate_dst (N := 12) rfl ?_); refine Kd.R_lit k26 _ 26 ?hg (N := 12) ?hd (xs := ([] : List (S26))) (inner := []) (ok := fun _ => True) (okp := fun _ => True) ?hr ?hp (fun _ hk => hk) trivial (Below.refl _ _) (Nat.le_refl _) (by simp) ?_; (case hd => rfl); (case hg => rfl); (case hr => first | (go_simp; done) | (go_simp; rfl)); (case hp => exact (Reps.none _ _)); intro v240 w5 ho6 hb hg_ hnew_; clear hg_ hnew_; (first | rw [← Ny239.out] at ho6 | (simp only [Int.reduceToNat] at ho6; rw [← Ny239.out] at ho6)); have HO241 := Aside0.mk (Kd.R_lower ho6 (below_size (bW HB))); replace HB := uB HB hb; clear hb ho6) | ((with_reducible refine gate_builtin (b := .append) (xs := #[.tmp 12, .tmp 13]) rfl ?_); at_builtin; refine Kd.R_append_rows k26 (w0 := w) w.heap.size rfl (.tmp 12) (.tmp 13) 39 26 (.agg #[(.int .i64 0), (.int .i64 0), (.int .i64 0), (.int .i64 0), (.int .i64 0)]) 40 rfl Try.underlying39 info26 rfl (by decide) (by omega) v240 y239 l0 _ _ _ (fun _ => True) (fun _ => False) rfl rfl ?aO ?aR (fun _ _ h => h) (fun _ h => h.elim) ?aF ?aB ?aS ?aL ?_; (case aR => repeat (first | exact (Kd.C_below HR0.out HB.out) | (with_reducible refine Kd.C_alloc ?_ _) | (with_reducible refine Kd.C_drewN ?_ _) | (with_reducible refine Kd.C_drew ?_))); (case aB => exact (bW HB)); (case aF => exact (fun _ _ => trivial)); (case aO => exact (upR HO241.out)); (case aS => exact (below_size (bW HB))); (case aL => have := LMc4.out; omega); intro v243 w7 ho hb hg hat; rw [← Ny242.out] at ho; have HO244 := Aside0.mk (ho); replace HB := Aside0.mk (hb); clear HO241; clear ho hb hg hat))
  (try simp only [Act.put, List.setIfInBounds_toArray, List.set_cons_zero, List.set_cons_succ])
  go_loopg [8, 9] k (fun kq v8 v9 w' => ∃ (x8_1 : List (S26)) (x9_1 : Int), v9 = .int .i64 x9_1 ∧ Aside0 (spec_l19Run.l0 kq l1 a2 x8_1 x9_1 = some (r1, r2)) ∧ Aside0 (kq ≤ k) ∧ Aside0 (Kd.R k26 26 w' w.heap.size (fun _ => True) v8 x8_1) ∧ Aside0 (Below w.heap.size w w'))
  case atStart => exact ⟨(y242), (0), rB, H', ⟨Nat.le_refl _⟩, ⟨upR HO244.out⟩, (aB HB)⟩
  case round =>
   clear H'
   try clear c1
   try clear c4
   obtain ⟨x8_1, x9_1, rfl, HA, HK1, HO_8, HB⟩ := hrel
   cases gk with
   | zero => exact absurd HA.out (by simp [spec_l19Run.l0])
   | succ k1 =>
    have H := HA.out
    clear HA
    simp only [spec_l19Run.l0] at H
    replace H := ifD H
    rcases H with ⟨H, -, c8b0⟩ | ⟨H, -, c8b0⟩
    ·by_cases c9 : 0 ≤ x9_1
     ·rw [if_pos c9] at H
      have c9b0 : decide (0 ≤ x9_1) = true := decide_eq_true c9
      clear c9
      by_cases c10 : x9_1 < (l1.length : Int)
      ·rw [if_pos c10] at H
       have c10b0 : decide (x9_1 < (l1.length : Int)) = true := decide_eq_true c10
       clear c10
       replace H := Option.bind_eq_some_iff.mp H
       obtain ⟨⟨t246, t249⟩, A110, H⟩ := H
       replace H : (if t249 = true then (spec_l19Run.l0 k1 l1 a2 t246 (wrap64 (x9_1 + 1))) else (some ((([] : List (S26))), false))) = some (r1, r2) := H
       have A11 := Aside0.mk A110
       clear A110
       rcases Bool.eq_false_or_eq_true t249 with rfl | rfl
       ·replace H := iT rfl H
        have H' := Aside0.mk H
        clear H
        have p245 : 0 ≤ (x9_1 : Int) := of_decide_eq_true asmB
        have q245 : x9_1 < (l1.length : Int) := of_decide_eq_true asmB
        obtain ⟨ad245, e245, hx245_0, hx245_1, hx245_2, hx245_3, hx245_4, hx245_5, hx245_6, hx245_7, hx245_8, hx245_9, hx245_10, hx245_11⟩ := at_T28 HR1.out x9_1 p245 q245
        cases e245
        replace hx245_0 := bx HB.out hx245_0
        replace hx245_1 := bx HB.out hx245_1
        replace hx245_2 := bx HB.out hx245_2
        replace hx245_3 := bx HB.out hx245_3
        replace hx245_4 := bx HB.out hx245_4
        replace hx245_5 := bx HB.out hx245_5
        replace hx245_6 := bx HB.out hx245_6
        replace hx245_7 := bx HB.out hx245_7
        replace hx245_8 := bx HB.out hx245_8
        replace hx245_9 := bx HB.out hx245_9
        replace hx245_10 := bx HB.out hx245_10
        replace hx245_11 := bx HB.out hx245_11
        replace p245 := eq_true p245
        replace q245 := eq_true q245
        obtain ⟨Ao13, co13, eo13⟩ := Kd.R_slice HO_8.out
        subst eo13
        go_wp2_with (first | ((with_reducible refine gate_callee (f := 66) rfl ?_); refine goesL_ (some 26) rfl rfl Try.func66 (by kernel_rfl) rfl #[.slice Ao13 x8_1.length co13, .agg #[.int .i64 ((rd_T28 l1 x9_1).f0), .int .i64 ((rd_T28 l1 x9_1).f1), .int .i64 ((rd_T28 l1 x9_1).f2.f0), .int .i64 ((rd_T28 l1 x9_1).f2.f1), .int .i64 ((rd_T28 l1 x9_1).f2.f2), .int .i64 ((rd_T28 l1 x9_1).f2.f3), .int .i64 ((rd_T28 l1 x9_1).f2.f4), .int .i64 ((rd_T28 l1 x9_1).f3.f0), .int .i64 ((rd_T28 l1 x9_1).f3.f1), .int .i64 ((rd_T28 l1 x9_1).f3.f2), .int .i64 ((rd_T28 l1 x9_1).f3.f3), .int .i64 ((rd_T28 l1 x9_1).f3.f4)]] rfl argsB ?_; (with_reducible refine (spec_l19Apply.calls k1 _ _ x8_1 ((rd_T28 l1 x9_1).f0) ((rd_T28 l1 x9_1).f1) ((rd_T28 l1 x9_1).f2.f0) ((rd_T28 l1 x9_1).f2.f1) ((rd_T28 l1 x9_1).f2.f2) ((rd_T28 l1 x9_1).f2.f3) ((rd_T28 l1 x9_1).f2.f4) ((rd_T28 l1 x9_1).f3.f0) ((rd_T28 l1 x9_1).f3.f1) ((rd_T28 l1 x9_1).f3.f2) ((rd_T28 l1 x9_1).f3.f3) ((rd_T28 l1 x9_1).f3.f4) t246 true _ ?side1 ?side2 A11.out).mono ?_); (case side1 => repeat (first | exact (Kd.R_reads' HO_8.out).2.2 | (with_reducible refine Kd.C_alloc ?_ _) | (with_reducible refine Kd.C_drewN ?_ _) | (with_reducible refine Kd.C_drew ?_))); (case side2 => exact (Kd.R_reads' HO_8.out).2.1); rintro e w14 ⟨v247, rfl, ho0, hb⟩; refine ⟨_, rfl, ?_⟩; have HO248 := Aside0.mk (Kd.R_lower (Kd.R_new' ho0 (Kd.R_lt (upR HO_8.out))) (below_size (bW HB))); replace HO_8 := Aside0.mk (Kd.R_elder' (upR HO_8.out) (Kd.R_base ho0) hb); replace HB := uB HB hb; (try clear hb); (try clear hk); (try clear ho0)))
        go_roundg k1
        case measure => have := HK1.out; omega
        case rel => exact ⟨(t246), (wrap64 (x9_1 + 1)), rB, H', ⟨by have := HK1.out; omega⟩, ⟨by (with_reducible repeat (first | apply Kd.R_alloc | apply Kd.R_drewN | apply Kd.R_drew)); exact Kd.R_mono HO248.out (fun _ hk => trivial)⟩, (aB HB)⟩
       ·replace H := iF (by decide) H
        obtain ⟨y250, hy250⟩ : ∃ y_ : List (S26), y_ = (([] : List (S26))) := ⟨_, rfl⟩
        replace H : (some (y250, false)) = some (r1, r2) := by first | (rw [hy250]; with_reducible exact H) | (have H2_ := (Option.bind_some _ _).symm.trans H; rw [hy250]; with_reducible exact H2_) | (have H2_ := (Option.bind_some _ _).symm.trans H; with_reducible exact H2_) | with_reducible exact H | (rw [hy250]; exact H) | exact H
        have Ny250 := Aside0.mk hy250
        clear hy250
        simp only [Option.some.injEq, Prod.mk.injEq] at H
        obtain ⟨rfl, rfl⟩ := H
        have p245 : 0 ≤ (x9_1 : Int) := of_decide_eq_true asmB
        have q245 : x9_1 < (l1.length : Int) := of_decide_eq_true asmB
        obtain ⟨ad245, e245, hx245_0, hx245_1, hx245_2, hx245_3, hx245_4, hx245_5, hx245_6, hx245_7, hx245_8, hx245_9, hx245_10, hx245_11⟩ := at_T28 HR1.out x9_1 p245 q245
        cases e245
        replace hx245_0 := bx HB.out hx245_0
        replace hx245_1 := bx HB.out hx245_1
        replace hx245_2 := bx HB.out hx245_2
        replace hx245_3 := bx HB.out hx245_3
        replace hx245_4 := bx HB.out hx245_4
        replace hx245_5 := bx HB.out hx245_5
        replace hx245_6 := bx HB.out hx245_6
        replace hx245_7 := bx HB.out hx245_7
        replace hx245_8 := bx HB.out hx245_8
        replace hx245_9 := bx HB.out hx245_9
        replace hx245_10 := bx HB.out hx245_10
        replace hx245_11 := bx HB.out hx245_11
        replace p245 := eq_true p245
        replace q245 := eq_true q245
        obtain ⟨Ao15, co15, eo15⟩ := Kd.R_slice HO_8.out
        subst eo15
        go_wp2_with (first | ((with_reducible refine gate_callee (f := 66) rfl ?_); refine goesL_ (some 26) rfl rfl Try.func66 (by kernel_rfl) rfl #[.slice Ao15 x8_1.length co15, .agg #[.int .i64 ((rd_T28 l1 x9_1).f0), .int .i64 ((rd_T28 l1 x9_1).f1), .int .i64 ((rd_T28 l1 x9_1).f2.f0), .int .i64 ((rd_T28 l1 x9_1).f2.f1), .int .i64 ((rd_T28 l1 x9_1).f2.f2), .int .i64 ((rd_T28 l1 x9_1).f2.f3), .int .i64 ((rd_T28 l1 x9_1).f2.f4), .int .i64 ((rd_T28 l1 x9_1).f3.f0), .int .i64 ((rd_T28 l1 x9_1).f3.f1), .int .i64 ((rd_T28 l1 x9_1).f3.f2), .int .i64 ((rd_T28 l1 x9_1).f3.f3), .int .i64 ((rd_T28 l1 x9_1).f3.f4)]] rfl argsB ?_; (with_reducible refine (spec_l19Apply.calls k1 _ _ x8_1 ((rd_T28 l1 x9_1).f0) ((rd_T28 l1 x9_1).f1) ((rd_T28 l1 x9_1).f2.f0) ((rd_T28 l1 x9_1).f2.f1) ((rd_T28 l1 x9_1).f2.f2) ((rd_T28 l1 x9_1).f2.f3) ((rd_T28 l1 x9_1).f2.f4) ((rd_T28 l1 x9_1).f3.f0) ((rd_T28 l1 x9_1).f3.f1) ((rd_T28 l1 x9_1).f3.f2) ((rd_T28 l1 x9_1).f3.f3) ((rd_T28 l1 x9_1).f3.f4) t246 false _ ?side1 ?side2 A11.out).mono ?_); (case side1 => repeat (first | exact (Kd.R_reads' HO_8.out).2.2 | (with_reducible refine Kd.C_alloc ?_ _) | (with_reducible refine Kd.C_drewN ?_ _) | (with_reducible refine Kd.C_drew ?_))); (case side2 => exact (Kd.R_reads' HO_8.out).2.1); rintro e w16 ⟨v247, rfl, ho0, hb⟩; refine ⟨_, rfl, ?_⟩; have HO248 := Aside0.mk (Kd.R_lower (Kd.R_new' ho0 (Kd.R_lt (upR HO_8.out))) (below_size (bW HB))); replace HO_8 := Aside0.mk (Kd.R_elder' (upR HO_8.out) (Kd.R_base ho0) hb); replace HB := uB HB hb; (try clear hb); (try clear hk); (try clear ho0)) | ((with_reducible refine gate_dst (N := 31) rfl ?_); refine Kd.R_lit k26 _ 26 ?hg (N := 31) ?hd (xs := ([] : List (S26))) (inner := []) (ok := fun _ => True) (okp := fun _ => True) ?hr ?hp (fun _ hk => hk) trivial (Below.refl _ _) (Nat.le_refl _) (by simp) ?_; (case hd => rfl); (case hg => rfl); (case hr => first | (go_simp; done) | (go_simp; rfl)); (case hp => exact (Reps.none _ _)); intro v251 w17 ho18 hb hg_ hnew_; clear hg_ hnew_; (first | rw [← Ny250.out] at ho18 | (simp only [Int.reduceToNat] at ho18; rw [← Ny250.out] at ho18)); have HO252 := Aside0.mk (Kd.R_lower (Kd.R_new' (Kd.R_new' ho18 (Kd.R_lt (upR HO_8.out))) (Kd.R_lt (upR HO248.out))) (below_size (bW HB))); replace HO_8 := Aside0.mk (Kd.R_elder' (upR HO_8.out) (Kd.R_base ho18) hb); replace HO248 := Aside0.mk (Kd.R_elder' (upR HO248.out) (Kd.R_base ho18) hb); replace HB := uB HB hb; clear hb ho18))
        go_ret2
        exact ⟨_, eB, by (with_reducible repeat (first | apply Kd.R_alloc | apply Kd.R_drewN | apply Kd.R_drew)); exact Kd.R_mono HO252.out (fun _ hk => trivial), (bW HB)⟩
      ·rw [if_neg c10] at H
       exact absurd H (by simp)
     ·rw [if_neg c9] at H
      exact absurd H (by simp)
    ·simp only [Option.some.injEq, Prod.mk.injEq] at H
     obtain ⟨rfl, rfl⟩ := H
     go_wp2
     go_ret2
     exact ⟨_, eB, upR HO_8.out, (bW HB)⟩
 ·rw [if_neg c4] at H
  exact absurd H (by simp)

/-! ### spec_l19Good: function 68 -/
def spec_l19Good.f (k : Nat) (l0 : List (S26)) (l1 : List (S28)) : Option (Bool) := (spec_l4Legs.f k l0).bind fun t253 => (if t253 = true then (if (l1.length : Int) > 10 then (some false) else ((spec_l19Run.f k l0 l1 (l1.length : Int)).bind fun bt254 => (some bt254.2))) else (some false))
theorem spec_l19Good.mono : ∀ a0 a1 k, LeO (spec_l19Good.f k a0 a1) (spec_l19Good.f (k + 1) a0 a1) := by
 intro a0 a1 k
 unfold spec_l19Good.f
 repeat' with_reducible first | apply spec_l19Run.mono | apply spec_l4Legs.mono | exact LeO.refl _ | exact LeO.none _ | refine LeO.ite ?_ ?_ | refine LeO.bind ?_ (fun _ => ?_)
set_option maxHeartbeats 8000000 in
set_option maxRecDepth 100000 in
theorem spec_l19Good.calls (k : Nat) (A0 : Option Addr) (c0 : Nat) (l0 : List (S26)) (A1 : Option Addr) (c1 : Nat) (l1 : List (S28)) (r : Bool) (w : World) (hr0 : Kd.C k26 w A0 l0.length l0) (hc0 : l0.length ≤ c0) (hr1 : Kd.C k28 w A1 l1.length l1) (hc1 : l1.length ≤ c1) (h : spec_l19Good.f k l0 l1 = some r) :
  Calls Try.prog 68 #[.slice A0 l0.length c0, .slice A1 l1.length c1] w fun e w' => e = .returned (.bool r) ∧ Below w.heap.size w w' := by
 have HR0 := Aside0.mk hr0
 have HC0 := Aside0.mk hc0
 clear hr0 hc0
 have HR1 := Aside0.mk hr1
 have HC1 := Aside0.mk hc1
 clear hr1 hc1
 have HB := Aside0.mk (Below.refl w.heap.size w)
 have H := h
 clear h
 unfold spec_l19Good.f at H
 replace H := bA H
 obtain ⟨t253, A3, H⟩ := H
 rcases Bool.eq_false_or_eq_true t253 with rfl | rfl
 ·replace H := iT rfl H
  replace H := ifD H
  rcases H with ⟨H, c5, c5b0⟩ | ⟨H, c5, c5b0⟩
  ·have c5b1 : decide (10 < l1.length) = true := decide_eq_true (by omega)
   clear c5
   obtain rfl := Option.some.inj H
   go_enter Try.func68, Try.ntmps68
   go_wp2_with (first | ((with_reducible refine gC 64 ?_); refine lA (some 8) Try.func64 (spec_l4Legs.calls k _ _ l0 true _ ?side1 ?side2 A3.out) ?_; (case side1 => repeat (first | exact HR0.out | (with_reducible refine Kd.C_alloc ?_ _) | (with_reducible refine Kd.C_drewN ?_ _) | (with_reducible refine Kd.C_drew ?_))); (case side2 => exact HC0.out); intro w6 hb; replace HB := uB HB hb; (try clear hb)))
   go_ret
   exact ⟨eB, (bW HB)⟩
  ·have c5b1 : decide (10 < l1.length) = false := decide_eq_false (by omega)
   clear c5
   replace H := Option.bind_eq_some_iff.mp H
   obtain ⟨⟨t254, t255⟩, A70, H⟩ := H
   replace H : (some t255) = some r := H
   have A7 := Aside0.mk A70
   clear A70
   obtain rfl := Option.some.inj H
   go_enter Try.func68, Try.ntmps68
   go_wp2_with (first | ((with_reducible refine gC 64 ?_); refine lA (some 8) Try.func64 (spec_l4Legs.calls k _ _ l0 true _ ?side1 ?side2 A3.out) ?_; (case side1 => repeat (first | exact HR0.out | (with_reducible refine Kd.C_alloc ?_ _) | (with_reducible refine Kd.C_drewN ?_ _) | (with_reducible refine Kd.C_drew ?_))); (case side2 => exact HC0.out); intro w8 hb; replace HB := uB HB hb; (try clear hb)) | ((with_reducible refine gate_callee (f := 71) rfl ?_); refine goesL_ (some 20) rfl rfl Try.func71 (by kernel_rfl) rfl #[.slice A0 l0.length c0, .slice A1 l1.length c1, .int .i64 (l1.length : Int)] rfl argsB ?_; (with_reducible refine (spec_l19Run.calls k _ _ l0 _ _ l1 (l1.length : Int) t254 t255 _ ?side1 ?side2 ?side3 ?side4 A7.out).mono ?_); (case side1 => repeat (first | exact (Kd.C_below HR0.out HB.out) | (with_reducible refine Kd.C_alloc ?_ _) | (with_reducible refine Kd.C_drewN ?_ _) | (with_reducible refine Kd.C_drew ?_))); (case side2 => exact HC0.out); (case side3 => repeat (first | exact (Kd.C_below HR1.out HB.out) | (with_reducible refine Kd.C_alloc ?_ _) | (with_reducible refine Kd.C_drewN ?_ _) | (with_reducible refine Kd.C_drew ?_))); (case side4 => exact HC1.out); rintro e w9 ⟨v256, rfl, ho0, hb⟩; refine ⟨_, rfl, ?_⟩; have HO257 := Aside0.mk (Kd.R_lower ho0 (below_size (bW HB))); replace HB := uB HB hb; (try clear hb); (try clear ho0)))
   go_ret
   exact ⟨eB, (bW HB)⟩
 ·replace H := iF (by decide) H
  obtain rfl := Option.some.inj H
  go_enter Try.func68, Try.ntmps68
  go_wp2_with (first | ((with_reducible refine gC 64 ?_); refine lA (some 8) Try.func64 (spec_l4Legs.calls k _ _ l0 false _ ?side1 ?side2 A3.out) ?_; (case side1 => repeat (first | exact HR0.out | (with_reducible refine Kd.C_alloc ?_ _) | (with_reducible refine Kd.C_drewN ?_ _) | (with_reducible refine Kd.C_drew ?_))); (case side2 => exact HC0.out); intro w10 hb; replace HB := uB HB hb; (try clear hb)))
  go_ret
  exact ⟨eB, (bW HB)⟩

/-! ### spec_UndoEdits: function 45 -/
mutual
def spec_UndoEdits.j0 : Nat → List (S28) → Int → List (S28) → Bool → Option ((List (S28)) × Bool)
 | 0, _, _, _, _ => none
 | k + 1, x1, x2, x8, x21 => if x21 = true then (some (x8, false)) else (spec_UndoEdits.l0 k x1 x2 x8 (wrap64 ((x1.length : Int) - 1)))
def spec_UndoEdits.l0 : Nat → List (S28) → Int → List (S28) → Int → Option ((List (S28)) × Bool)
 | 0, _, _, _, _ => none
 | k + 1, x1, x2, x8, x9 => if x9 ≥ (wrap64 ((x1.length : Int) - x2)) then (if 0 ≤ x9 then (if x9 < (x1.length : Int) then ((spec_l19Inverse.f ((rd_T28 x1 x9).f0) ((rd_T28 x1 x9).f1) ((rd_T28 x1 x9).f2.f0) ((rd_T28 x1 x9).f2.f1) ((rd_T28 x1 x9).f2.f2) ((rd_T28 x1 x9).f2.f3) ((rd_T28 x1 x9).f2.f4) ((rd_T28 x1 x9).f3.f0) ((rd_T28 x1 x9).f3.f1) ((rd_T28 x1 x9).f3.f2) ((rd_T28 x1 x9).f3.f3) ((rd_T28 x1 x9).f3.f4)).bind fun bt264 => (if x8.length < 1466015503701 then (spec_UndoEdits.l0 k x1 x2 (x8 ++ [(⟨bt264.1, bt264.2.1, (⟨bt264.2.2.1, bt264.2.2.2.1, bt264.2.2.2.2.1, bt264.2.2.2.2.2.1, bt264.2.2.2.2.2.2.1⟩ : S26), (⟨bt264.2.2.2.2.2.2.2.1, bt264.2.2.2.2.2.2.2.2.1, bt264.2.2.2.2.2.2.2.2.2.1, bt264.2.2.2.2.2.2.2.2.2.2.1, bt264.2.2.2.2.2.2.2.2.2.2.2⟩ : S26)⟩ : S28)]) (wrap64 (x9 - 1))) else (none))) else (none)) else (none)) else (some (x8, true))
end
def spec_UndoEdits.f (k : Nat) (l0 : List (S26)) (l1 : List (S28)) (a2 : Int) : Option ((List (S28)) × Bool) := (some (([] : List (S28)) : List (S28))).bind fun y258 => ((spec_l19Good.f k l0 l1).bind fun t261 => (if t261 = true then ((spec_l1In.f a2 0 (l1.length : Int)).bind fun t262 => (spec_UndoEdits.j0 k l1 a2 y258 (!t262))) else (spec_UndoEdits.j0 k l1 a2 y258 true)))
theorem spec_UndoEdits.mono_l : ∀ k, (∀ y0 y1 y2 y3, LeO (spec_UndoEdits.j0 k y0 y1 y2 y3) (spec_UndoEdits.j0 (k + 1) y0 y1 y2 y3)) ∧ (∀ y0 y1 y2 y3, LeO (spec_UndoEdits.l0 k y0 y1 y2 y3) (spec_UndoEdits.l0 (k + 1) y0 y1 y2 y3))
 | 0 => ⟨fun _ _ _ _ r h => by simp [spec_UndoEdits.j0] at h, fun _ _ _ _ r h => by simp [spec_UndoEdits.l0] at h⟩
 | k + 1 => by
  obtain ⟨ih0, ih1⟩ := spec_UndoEdits.mono_l k
  refine ⟨?_, ?_⟩
  ·intro y0 y1 y2 y3
   unfold spec_UndoEdits.j0
   repeat' with_reducible first | apply ih0 | apply ih1 | apply spec_l19Good.mono | exact LeO.refl _ | exact LeO.none _ | refine LeO.ite ?_ ?_ | refine LeO.bind ?_ (fun _ => ?_)
  ·intro y0 y1 y2 y3
   unfold spec_UndoEdits.l0
   repeat' with_reducible first | apply ih0 | apply ih1 | apply spec_l19Good.mono | exact LeO.refl _ | exact LeO.none _ | refine LeO.ite ?_ ?_ | refine LeO.bind ?_ (fun _ => ?_)
theorem spec_UndoEdits.mono : ∀ a0 a1 a2 k, LeO (spec_UndoEdits.f k a0 a1 a2) (spec_UndoEdits.f (k + 1) a0 a1 a2) := by
 intro a0 a1 a2 k
 obtain ⟨ih0, ih1⟩ := spec_UndoEdits.mono_l k
 unfold spec_UndoEdits.f
 repeat' with_reducible first | apply ih0 | apply ih1 | apply spec_l19Good.mono | exact LeO.refl _ | exact LeO.none _ | refine LeO.ite ?_ ?_ | refine LeO.bind ?_ (fun _ => ?_)
set_option maxHeartbeats 8000000 in
set_option maxRecDepth 100000 in
theorem spec_UndoEdits.calls (k : Nat) (A0 : Option Addr) (c0 : Nat) (l0 : List (S26)) (A1 : Option Addr) (c1 : Nat) (l1 : List (S28)) (a2 : Int) (r1 : List (S28)) (r2 : Bool) (w : World) (hr0 : Kd.C k26 w A0 l0.length l0) (hc0 : l0.length ≤ c0) (hr1 : Kd.C k28 w A1 l1.length l1) (hc1 : l1.length ≤ c1) (h : spec_UndoEdits.f k l0 l1 a2 = some (r1, r2)) :
  Calls Try.prog 45 #[.slice A0 l0.length c0, .slice A1 l1.length c1, .int .i64 a2] w fun e w' => ∃ v0_ : Value, e = .returned (.tuple #[v0_, .bool r2]) ∧ Kd.R k28 28 w' w.heap.size (fun _ => True) v0_ r1 ∧ Below w.heap.size w w' := by
 have hu28 := Try.underlying28
 have HR0 := Aside0.mk hr0
 have HC0 := Aside0.mk hc0
 clear hr0 hc0
 have HR1 := Aside0.mk hr1
 have HC1 := Aside0.mk hc1
 clear hr1 hc1
 have HB := Aside0.mk (Below.refl w.heap.size w)
 have H := h
 clear h
 unfold spec_UndoEdits.f at H
 obtain ⟨y258, hy258⟩ : ∃ y_ : List (S28), y_ = (([] : List (S28))) := ⟨_, rfl⟩
 replace H : ((spec_l19Good.f k l0 l1).bind fun t261 => (if t261 = true then ((spec_l1In.f a2 0 (l1.length : Int)).bind fun t262 => (spec_UndoEdits.j0 k l1 a2 y258 (!t262))) else (spec_UndoEdits.j0 k l1 a2 y258 true))) = some (r1, r2) := by first | (rw [hy258]; with_reducible exact H) | (have H2_ := (Option.bind_some _ _).symm.trans H; rw [hy258]; with_reducible exact H2_) | (have H2_ := (Option.bind_some _ _).symm.trans H; with_reducible exact H2_) | with_reducible exact H | (rw [hy258]; exact H) | exact H
 have Ny258 := Aside0.mk hy258
 clear hy258
 have HC4 := Aside0.mk H
 clear H
 go_enter Try.func45, Try.ntmps45
 go_upto_region 2 with (first | ((with_reducible refine gate_dst (N := 10) rfl ?_); (try (refine gate_guard (by rfl) ?_; dsimp only)); refine Kd.R_lit k28 _ 28 ?hg (N := 10) ?hd (xs := ([] : List (S28))) (inner := []) (ok := fun _ => True) (okp := fun _ => True) ?hr ?hp (fun _ hk => hk) trivial (Below.refl _ _) (Nat.le_refl _) (by simp) ?_; (case hd => rfl); (case hg => rfl); (case hr => first | (go_simp; done) | (go_simp; rfl)); (case hp => exact (Reps.none _ _)); intro v259 w5 ho6 hb hg_ hnew_; clear hg_ hnew_; (first | rw [← Ny258.out] at ho6 | (simp only [Int.reduceToNat] at ho6; rw [← Ny258.out] at ho6)); have HO260 := Aside0.mk (Kd.R_lower ho6 (below_size (bW HB))); replace HB := uB HB hb; clear hb ho6))
 (try simp only [Act.put, List.setIfInBounds_toArray, List.set_cons_zero, List.set_cons_succ])
 go_cut [21] (fun v21 wc => ∃ (kq : Nat) (x21_3 : Bool), v21 = .bool x21_3 ∧ Aside0 (spec_UndoEdits.j0 kq l1 a2 y258 x21_3 = some (r1, r2)) ∧ Aside0 (kq ≤ k) ∧ Aside0 (Kd.R k28 28 wc w.heap.size (fun _ => True) v259 y258) ∧ Aside0 (Below w.heap.size w wc))
 case first =>
  have H := HC4.out
  clear HC4
  replace H := bA H
  obtain ⟨t261, A7, H⟩ := H
  rcases Bool.eq_false_or_eq_true t261 with rfl | rfl
  ·replace H := iT rfl H
   replace H := bA H
   obtain ⟨t262, A9, H⟩ := H
   have H' := Aside0.mk H
   clear H
   go_wp2_with (first | ((with_reducible refine gC 68 ?_); refine lA (some 13) Try.func68 (spec_l19Good.calls k _ _ l0 _ _ l1 true _ ?side1 ?side2 ?side3 ?side4 A7.out) ?_; (case side1 => repeat (first | exact (Kd.C_below HR0.out HB.out) | (with_reducible refine Kd.C_alloc ?_ _) | (with_reducible refine Kd.C_drewN ?_ _) | (with_reducible refine Kd.C_drew ?_))); (case side2 => exact HC0.out); (case side3 => repeat (first | exact (Kd.C_below HR1.out HB.out) | (with_reducible refine Kd.C_alloc ?_ _) | (with_reducible refine Kd.C_drewN ?_ _) | (with_reducible refine Kd.C_drew ?_))); (case side4 => exact HC1.out); intro w10 hb; replace HO260 := uR HO260 hb; replace HB := uB HB hb; (try clear hb); (try clear hk)) | (go_at_call 70; (with_reducible refine (spec_l1In.calls a2 0 (l1.length : Int) t262 _ A9.out).mono ?_); rintro e w' ⟨rfl, ⟨nd, rfl⟩⟩))
   go_meet
   case rel => exact ⟨_, (!t262), rB, H', leB, ⟨upR HO260.out⟩, (aB HB)⟩
  ·replace H := iF (by decide) H
   have H' := Aside0.mk H
   clear H
   go_wp2_with (first | ((with_reducible refine gC 68 ?_); refine lA (some 13) Try.func68 (spec_l19Good.calls k _ _ l0 _ _ l1 false _ ?side1 ?side2 ?side3 ?side4 A7.out) ?_; (case side1 => repeat (first | exact (Kd.C_below HR0.out HB.out) | (with_reducible refine Kd.C_alloc ?_ _) | (with_reducible refine Kd.C_drewN ?_ _) | (with_reducible refine Kd.C_drew ?_))); (case side2 => exact HC0.out); (case side3 => repeat (first | exact (Kd.C_below HR1.out HB.out) | (with_reducible refine Kd.C_alloc ?_ _) | (with_reducible refine Kd.C_drewN ?_ _) | (with_reducible refine Kd.C_drew ?_))); (case side4 => exact HC1.out); intro w11 hb; replace HO260 := uR HO260 hb; replace HB := uB HB hb; (try clear hb); (try clear hk)))
   go_meet
   case rel => exact ⟨_, (true), rB, H', leB, ⟨upR HO260.out⟩, (aB HB)⟩
 case rest =>
  clear HC4
  try clear c1
  obtain ⟨kq, x21_3, rfl, HA, HJ3, HO_8, HB⟩ := hcut
  cases kq with
  | zero => exact absurd HA.out (by simp [spec_UndoEdits.j0])
  | succ kj3 =>
   have H := HA.out
   clear HA
   simp only [spec_UndoEdits.j0] at H
   rcases Bool.eq_false_or_eq_true x21_3 with rfl | rfl
   ·replace H := iT rfl H
    simp only [Option.some.injEq, Prod.mk.injEq] at H
    obtain ⟨rfl, rfl⟩ := H
    go_wp2
    go_ret2
    exact ⟨_, eB, upR HO_8.out, (bW HB)⟩
   ·replace H := iF (by decide) H
    have H' := Aside0.mk H
    clear H
    go_wp2
    go_loopg [8, 9] kj3 (fun kq v8 v9 w' => ∃ (x8_2 : List (S28)) (x9_2 : Int), v9 = .int .i64 x9_2 ∧ Aside0 (spec_UndoEdits.l0 kq l1 a2 x8_2 x9_2 = some (r1, r2)) ∧ Aside0 (kq ≤ kj3) ∧ Aside0 (Kd.R k28 28 w' w.heap.size (fun _ => True) v8 x8_2) ∧ Aside0 (Below w.heap.size w w'))
    case atStart => exact ⟨(y258), (wrap64 ((l1.length : Int) - 1)), rB, H', ⟨Nat.le_refl _⟩, ⟨upR HO_8.out⟩, (aB HB)⟩
    case round =>
     clear H'
     try clear c1
     obtain ⟨x8_2, x9_2, rfl, HA, HK2, HO_8, HB⟩ := hrel
     cases gk with
     | zero => exact absurd HA.out (by simp [spec_UndoEdits.l0])
     | succ k2 =>
      have H := HA.out
      clear HA
      simp only [spec_UndoEdits.l0] at H
      replace H := ifD H
      rcases H with ⟨H, -, c13b0⟩ | ⟨H, -, c13b0⟩
      ·by_cases c14 : 0 ≤ x9_2
       ·rw [if_pos c14] at H
        have c14b0 : decide (0 ≤ x9_2) = true := decide_eq_true c14
        clear c14
        by_cases c15 : x9_2 < (l1.length : Int)
        ·rw [if_pos c15] at H
         have c15b0 : decide (x9_2 < (l1.length : Int)) = true := decide_eq_true c15
         clear c15
         replace H := Option.bind_eq_some_iff.mp H
         obtain ⟨⟨t264, t265, t266, t267, t268, t269, t270, t271, t272, t273, t274, t275⟩, A160, H⟩ := H
         replace H : (if x8_2.length < 1466015503701 then (spec_UndoEdits.l0 k2 l1 a2 (x8_2 ++ [(⟨t264, t265, (⟨t266, t267, t268, t269, t270⟩ : S26), (⟨t271, t272, t273, t274, t275⟩ : S26)⟩ : S28)]) (wrap64 (x9_2 - 1))) else (none)) = some (r1, r2) := H
         have A16 := Aside0.mk A160
         clear A160
         by_cases c17 : x8_2.length < 1466015503701
         ·rw [if_pos c17] at H
          have LMc17 := Aside0.mk c17
          clear c17
          obtain ⟨y276, hy276⟩ : ∃ y_ : List (S28), y_ = (x8_2 ++ [(⟨t264, t265, (⟨t266, t267, t268, t269, t270⟩ : S26), (⟨t271, t272, t273, t274, t275⟩ : S26)⟩ : S28)]) := ⟨_, rfl⟩
          replace H : (spec_UndoEdits.l0 k2 l1 a2 y276 (wrap64 (x9_2 - 1))) = some (r1, r2) := by first | (rw [hy276]; with_reducible exact H) | (have H2_ := (Option.bind_some _ _).symm.trans H; rw [hy276]; with_reducible exact H2_) | (have H2_ := (Option.bind_some _ _).symm.trans H; with_reducible exact H2_) | with_reducible exact H | (rw [hy276]; exact H) | exact H
          have Ny276 := Aside0.mk hy276
          clear hy276
          have H' := Aside0.mk H
          clear H
          have p263 : 0 ≤ (x9_2 : Int) := of_decide_eq_true asmB
          have q263 : x9_2 < (l1.length : Int) := of_decide_eq_true asmB
          obtain ⟨ad263, e263, hx263_0, hx263_1, hx263_2, hx263_3, hx263_4, hx263_5, hx263_6, hx263_7, hx263_8, hx263_9, hx263_10, hx263_11⟩ := at_T28 HR1.out x9_2 p263 q263
          cases e263
          replace hx263_0 := bx HB.out hx263_0
          replace hx263_1 := bx HB.out hx263_1
          replace hx263_2 := bx HB.out hx263_2
          replace hx263_3 := bx HB.out hx263_3
          replace hx263_4 := bx HB.out hx263_4
          replace hx263_5 := bx HB.out hx263_5
          replace hx263_6 := bx HB.out hx263_6
          replace hx263_7 := bx HB.out hx263_7
          replace hx263_8 := bx HB.out hx263_8
          replace hx263_9 := bx HB.out hx263_9
          replace hx263_10 := bx HB.out hx263_10
          replace hx263_11 := bx HB.out hx263_11
          replace p263 := eq_true p263
          replace q263 := eq_true q263
          go_wp2_with (first | ((with_reducible refine gC 59 ?_); refine lA (some 39) Try.func59 (spec_l19Inverse.calls ((rd_T28 l1 x9_2).f0) ((rd_T28 l1 x9_2).f1) ((rd_T28 l1 x9_2).f2.f0) ((rd_T28 l1 x9_2).f2.f1) ((rd_T28 l1 x9_2).f2.f2) ((rd_T28 l1 x9_2).f2.f3) ((rd_T28 l1 x9_2).f2.f4) ((rd_T28 l1 x9_2).f3.f0) ((rd_T28 l1 x9_2).f3.f1) ((rd_T28 l1 x9_2).f3.f2) ((rd_T28 l1 x9_2).f3.f3) ((rd_T28 l1 x9_2).f3.f4) t264 t265 t266 t267 t268 t269 t270 t271 t272 t273 t274 t275 _ A16.out) ?_; intro w18 hb; replace HO_8 := uR HO_8 hb; replace HB := uB HB hb; (try clear hb); (try clear hk)) | ((with_reducible refine gate_builtin (b := .append) (xs := #[.tmp 34, .tmp 40]) rfl ?_); (try (refine gate_guard (by rfl) ?_; dsimp only)); at_builtin; refine Kd.R_append k28 (w0 := w) w.heap.size rfl (.tmp 34) (.tmp 40) 36 28 (.agg #[(.int .i64 0), (.int .i64 0), (.int .i64 0), (.int .i64 0), (.int .i64 0), (.int .i64 0), (.int .i64 0), (.int .i64 0), (.int .i64 0), (.int .i64 0), (.int .i64 0), (.int .i64 0)]) 96 rfl Try.underlying36 info28 rfl (by decide) (by omega) u8 x8_2 (⟨t264, t265, (⟨t266, t267, t268, t269, t270⟩ : S26), (⟨t271, t272, t273, t274, t275⟩ : S26)⟩ : S28) [.int .i64 t264, .int .i64 t265, .int .i64 t266, .int .i64 t267, .int .i64 t268, .int .i64 t269, .int .i64 t270, .int .i64 t271, .int .i64 t272, .int .i64 t273, .int .i64 t274, .int .i64 t275] (fun _ => True) (fun _ => False) rfl rfl ?aP (fun _ hk => hk.elim) ?aF ?aO ?aB ?aS ?aL ?_; (case aP => exact k28_mkM _ _ _ (⟨t264, t265, (⟨t266, t267, t268, t269, t270⟩ : S26), (⟨t271, t272, t273, t274, t275⟩ : S26)⟩ : S28)); (case aB => exact (bW HB)); (case aF => exact (fun _ _ => trivial)); (case aO => exact (upR HO_8.out)); (case aS => exact (below_size (bW HB))); (case aL => have := LMc17.out; omega); intro v277 w19 ho hb hg hat; rw [← Ny276.out] at ho; have HO278 := Aside0.mk (ho); replace HB := Aside0.mk (hb); clear HO_8; clear ho hb hg hat))
          go_roundg k2
          case measure => have := HJ3.out; have := HK2.out; omega
          case rel => exact ⟨(y276), (wrap64 (x9_2 - 1)), rB, H', ⟨by have := HJ3.out; have := HK2.out; omega⟩, ⟨upR HO278.out⟩, (aB HB)⟩
         ·rw [if_neg c17] at H
          exact absurd H (by simp)
        ·rw [if_neg c15] at H
         exact absurd H (by simp)
       ·rw [if_neg c14] at H
        exact absurd H (by simp)
      ·simp only [Option.some.injEq, Prod.mk.injEq] at H
       obtain ⟨rfl, rfl⟩ := H
       go_wp2
       go_ret2
       exact ⟨_, eB, upR HO_8.out, (bW HB)⟩

/-! ### impl_within: function 72 -/
def impl_within.f (a0 a1 a2 : Int) : Option (Bool) := if a0 ≥ a1 then (some (decide (a0 ≤ a2))) else (some false)
set_option maxHeartbeats 8000000 in
set_option maxRecDepth 100000 in
theorem impl_within.calls (a0 a1 a2 : Int) (r : Bool) (w : World) (h : impl_within.f a0 a1 a2 = some r) :
  Calls Try.prog 72 #[.int .i64 a0, .int .i64 a1, .int .i64 a2] w fun e w' => e = .returned (.bool r) ∧ Drawn0 w w' := by
 have H := h
 clear h
 unfold impl_within.f at H
 replace H := ifD H
 rcases H with ⟨H, -, c4b0⟩ | ⟨H, -, c4b0⟩
 ·obtain rfl := Option.some.inj H
  go_enter Try.func72, Try.ntmps72
  go_wp2
  go_ret
  exact ⟨rB, by repeat (first | exact Drawn0.refl _ | apply Drawn0.step)⟩
 ·obtain rfl := Option.some.inj H
  go_enter Try.func72, Try.ntmps72
  go_wp2
  go_ret
  exact ⟨rB, by repeat (first | exact Drawn0.refl _ | apply Drawn0.step)⟩

/-! ### impl_isStation: function 75 -/
def impl_isStation.f (a0 : Int) : Option (Bool) := (impl_within.f a0 0 7).bind fun t279 => (some t279)
set_option maxHeartbeats 8000000 in
set_option maxRecDepth 100000 in
theorem impl_isStation.calls (a0 : Int) (r : Bool) (w : World) (h : impl_isStation.f a0 = some r) :
  Calls Try.prog 75 #[.int .i64 a0] w fun e w' => e = .returned (.bool r) ∧ Drawn0 w w' := by
 have H := h
 clear h
 unfold impl_isStation.f at H
 replace H := bA H
 obtain ⟨t279, A2, H⟩ := H
 obtain rfl := Option.some.inj H
 go_enter Try.func75, Try.ntmps75
 go_wp2_with (first | ((with_reducible refine gC 72 ?_); refine lA (some 4) Try.func72 (impl_within.calls a0 0 7 t279 _ A2.out) ?_; rintro _ ⟨nd, rfl⟩))
 go_ret
 exact ⟨rB, by repeat (first | exact Drawn0.refl _ | apply Drawn0.step)⟩

/-! ### impl_isBearing: function 98 -/
def impl_isBearing.f (a0 : Int) : Option (Bool) := (impl_within.f a0 0 359).bind fun t280 => (some t280)
set_option maxHeartbeats 8000000 in
set_option maxRecDepth 100000 in
theorem impl_isBearing.calls (a0 : Int) (r : Bool) (w : World) (h : impl_isBearing.f a0 = some r) :
  Calls Try.prog 98 #[.int .i64 a0] w fun e w' => e = .returned (.bool r) ∧ Drawn0 w w' := by
 have H := h
 clear h
 unfold impl_isBearing.f at H
 replace H := bA H
 obtain ⟨t280, A2, H⟩ := H
 obtain rfl := Option.some.inj H
 go_enter Try.func98, Try.ntmps98
 go_wp2_with (first | ((with_reducible refine gC 72 ?_); refine lA (some 4) Try.func72 (impl_within.calls a0 0 359 t280 _ A2.out) ?_; rintro _ ⟨nd, rfl⟩))
 go_ret
 exact ⟨rB, by repeat (first | exact Drawn0.refl _ | apply Drawn0.step)⟩

/-! ### impl_IsLeg: function 89 -/
def impl_IsLeg.f (a0_0 a0_1 a0_2 a0_3 a0_4 : Int) : Option (Bool) := (impl_isStation.f a0_0).bind fun t282 => (if t282 = true then ((impl_isStation.f a0_1).bind fun t283 => (if t283 = true then (if a0_0 = a0_1 then (some false) else ((impl_within.f a0_2 1 500).bind fun t284 => (if t284 = true then ((impl_isBearing.f a0_3).bind fun t285 => (if t285 = true then ((impl_within.f a0_4 (-90) 90).bind fun t286 => (some t286)) else (some false))) else (some false)))) else (some false))) else (some false))
set_option maxHeartbeats 8000000 in
set_option maxRecDepth 100000 in
theorem impl_IsLeg.calls (a0_0 a0_1 a0_2 a0_3 a0_4 : Int) (r : Bool) (w : World) (h : impl_IsLeg.f a0_0 a0_1 a0_2 a0_3 a0_4 = some r) :
  Calls Try.prog 89 #[.agg #[.int .i64 a0_0, .int .i64 a0_1, .int .i64 a0_2, .int .i64 a0_3, .int .i64 a0_4]] w fun e w' => e = .returned (.bool r) ∧ Below w.heap.size w w' := by
 have hu26 := Try.underlying26
 have HB := Aside0.mk (Below.refl w.heap.size w)
 have H := h
 clear h
 unfold impl_IsLeg.f at H
 replace H := bA H
 obtain ⟨t282, A2, H⟩ := H
 rcases Bool.eq_false_or_eq_true t282 with rfl | rfl
 ·replace H := iT rfl H
  replace H := bA H
  obtain ⟨t283, A4, H⟩ := H
  rcases Bool.eq_false_or_eq_true t283 with rfl | rfl
  ·replace H := iT rfl H
   replace H := ifI H
   rcases H with ⟨H, -, c6b0, c6b1⟩ | ⟨H, c6, c6b0, c6b1⟩
   ·obtain rfl := Option.some.inj H
    go_enter Try.func89, Try.ntmps89
    go_wp2_with (first | ((with_reducible refine gD 1 ?_); refine bxE 1 26 #[.int .i64 a0_0, .int .i64 a0_1, .int .i64 a0_2, .int .i64 a0_3, .int .i64 a0_4] fun gb281 w7 hg hbox hb => ?_; have BK281 := Aside0.mk hbox; have GE281 := gB HB hg; replace HB := uB HB hb; clear hb hbox hg; have ⟨hcz8_0, hcz8_1, hcz8_2, hcz8_3, hcz8_4, hfz8_0⟩ := cz5 BK281) | ((with_reducible refine gC 75 ?_); refine lA (some 5) Try.func75 (impl_isStation.calls a0_0 true _ A2.out) ?_; rintro _ ⟨nd, rfl⟩) | (go_at_call 75; (with_reducible refine (impl_isStation.calls a0_1 true _ A4.out).mono ?_); rintro e w' ⟨rfl, ⟨nd, rfl⟩⟩))
    go_ret
    exact ⟨eB, (bW HB)⟩
   ·replace H := bA H
    obtain ⟨t284, A9, H⟩ := H
    rcases Bool.eq_false_or_eq_true t284 with rfl | rfl
    ·replace H := iT rfl H
     replace H := bA H
     obtain ⟨t285, A11, H⟩ := H
     rcases Bool.eq_false_or_eq_true t285 with rfl | rfl
     ·replace H := iT rfl H
      replace H := bA H
      obtain ⟨t286, A13, H⟩ := H
      obtain rfl := Option.some.inj H
      go_enter Try.func89, Try.ntmps89
      go_wp2_with (first | ((with_reducible refine gD 1 ?_); refine bxE 1 26 #[.int .i64 a0_0, .int .i64 a0_1, .int .i64 a0_2, .int .i64 a0_3, .int .i64 a0_4] fun gb281 w14 hg hbox hb => ?_; have BK281 := Aside0.mk hbox; have GE281 := gB HB hg; replace HB := uB HB hb; clear hb hbox hg; have ⟨hcz15_0, hcz15_1, hcz15_2, hcz15_3, hcz15_4, hfz15_0⟩ := cz5 BK281) | ((with_reducible refine gC 75 ?_); refine lA (some 5) Try.func75 (impl_isStation.calls a0_0 true _ A2.out) ?_; rintro _ ⟨nd, rfl⟩) | (go_at_call 75; (with_reducible refine (impl_isStation.calls a0_1 true _ A4.out).mono ?_); rintro e w' ⟨rfl, ⟨nd, rfl⟩⟩) | (go_at_call 72; (with_reducible refine (impl_within.calls a0_2 1 500 true _ A9.out).mono ?_); rintro e w' ⟨rfl, ⟨nd, rfl⟩⟩) | (go_at_call 98; (with_reducible refine (impl_isBearing.calls a0_3 true _ A11.out).mono ?_); rintro e w' ⟨rfl, ⟨nd, rfl⟩⟩) | (go_at_call 72; (with_reducible refine (impl_within.calls a0_4 (-90) 90 t286 _ A13.out).mono ?_); rintro e w' ⟨rfl, ⟨nd, rfl⟩⟩))
      go_ret
      exact ⟨eB, (bW HB)⟩
     ·replace H := iF (by decide) H
      obtain rfl := Option.some.inj H
      go_enter Try.func89, Try.ntmps89
      go_wp2_with (first | ((with_reducible refine gD 1 ?_); refine bxE 1 26 #[.int .i64 a0_0, .int .i64 a0_1, .int .i64 a0_2, .int .i64 a0_3, .int .i64 a0_4] fun gb281 w16 hg hbox hb => ?_; have BK281 := Aside0.mk hbox; have GE281 := gB HB hg; replace HB := uB HB hb; clear hb hbox hg; have ⟨hcz17_0, hcz17_1, hcz17_2, hcz17_3, hcz17_4, hfz17_0⟩ := cz5 BK281) | ((with_reducible refine gC 75 ?_); refine lA (some 5) Try.func75 (impl_isStation.calls a0_0 true _ A2.out) ?_; rintro _ ⟨nd, rfl⟩) | (go_at_call 75; (with_reducible refine (impl_isStation.calls a0_1 true _ A4.out).mono ?_); rintro e w' ⟨rfl, ⟨nd, rfl⟩⟩) | (go_at_call 72; (with_reducible refine (impl_within.calls a0_2 1 500 true _ A9.out).mono ?_); rintro e w' ⟨rfl, ⟨nd, rfl⟩⟩) | (go_at_call 98; (with_reducible refine (impl_isBearing.calls a0_3 false _ A11.out).mono ?_); rintro e w' ⟨rfl, ⟨nd, rfl⟩⟩))
      go_ret
      exact ⟨eB, (bW HB)⟩
    ·replace H := iF (by decide) H
     obtain rfl := Option.some.inj H
     go_enter Try.func89, Try.ntmps89
     go_wp2_with (first | ((with_reducible refine gD 1 ?_); refine bxE 1 26 #[.int .i64 a0_0, .int .i64 a0_1, .int .i64 a0_2, .int .i64 a0_3, .int .i64 a0_4] fun gb281 w18 hg hbox hb => ?_; have BK281 := Aside0.mk hbox; have GE281 := gB HB hg; replace HB := uB HB hb; clear hb hbox hg; have ⟨hcz19_0, hcz19_1, hcz19_2, hcz19_3, hcz19_4, hfz19_0⟩ := cz5 BK281) | ((with_reducible refine gC 75 ?_); refine lA (some 5) Try.func75 (impl_isStation.calls a0_0 true _ A2.out) ?_; rintro _ ⟨nd, rfl⟩) | (go_at_call 75; (with_reducible refine (impl_isStation.calls a0_1 true _ A4.out).mono ?_); rintro e w' ⟨rfl, ⟨nd, rfl⟩⟩) | (go_at_call 72; (with_reducible refine (impl_within.calls a0_2 1 500 false _ A9.out).mono ?_); rintro e w' ⟨rfl, ⟨nd, rfl⟩⟩))
     go_ret
     exact ⟨eB, (bW HB)⟩
  ·replace H := iF (by decide) H
   obtain rfl := Option.some.inj H
   go_enter Try.func89, Try.ntmps89
   go_wp2_with (first | ((with_reducible refine gD 1 ?_); refine bxE 1 26 #[.int .i64 a0_0, .int .i64 a0_1, .int .i64 a0_2, .int .i64 a0_3, .int .i64 a0_4] fun gb281 w20 hg hbox hb => ?_; have BK281 := Aside0.mk hbox; have GE281 := gB HB hg; replace HB := uB HB hb; clear hb hbox hg; have ⟨hcz21_0, hcz21_1, hcz21_2, hcz21_3, hcz21_4, hfz21_0⟩ := cz5 BK281) | ((with_reducible refine gC 75 ?_); refine lA (some 5) Try.func75 (impl_isStation.calls a0_0 true _ A2.out) ?_; rintro _ ⟨nd, rfl⟩) | (go_at_call 75; (with_reducible refine (impl_isStation.calls a0_1 false _ A4.out).mono ?_); rintro e w' ⟨rfl, ⟨nd, rfl⟩⟩))
   go_ret
   exact ⟨eB, (bW HB)⟩
 ·replace H := iF (by decide) H
  obtain rfl := Option.some.inj H
  go_enter Try.func89, Try.ntmps89
  go_wp2_with (first | ((with_reducible refine gD 1 ?_); refine bxE 1 26 #[.int .i64 a0_0, .int .i64 a0_1, .int .i64 a0_2, .int .i64 a0_3, .int .i64 a0_4] fun gb281 w22 hg hbox hb => ?_; have BK281 := Aside0.mk hbox; have GE281 := gB HB hg; replace HB := uB HB hb; clear hb hbox hg; have ⟨hcz23_0, hcz23_1, hcz23_2, hcz23_3, hcz23_4, hfz23_0⟩ := cz5 BK281) | ((with_reducible refine gC 75 ?_); refine lA (some 5) Try.func75 (impl_isStation.calls a0_0 false _ A2.out) ?_; rintro _ ⟨nd, rfl⟩))
  go_ret
  exact ⟨eB, (bW HB)⟩

/-! ### impl_areLegs: function 65 -/
def impl_areLegs.l0 : Nat → List (S26) → List (S26) → Int → Int → Option (Bool)
 | 0, _, _, _, _ => none
 | k + 1, x0, x5, x6, x7 => if x7 < x6 then (if 0 ≤ x7 then (if x7 < (x5.length : Int) then ((impl_IsLeg.f ((rd_T26 x5 x7).f0) ((rd_T26 x5 x7).f1) ((rd_T26 x5 x7).f2) ((rd_T26 x5 x7).f3) ((rd_T26 x5 x7).f4)).bind fun t289 => (if t289 = true then (impl_areLegs.l0 k x0 x5 x6 (wrap64 (x7 + 1))) else (some false))) else (none)) else (none)) else (some (decide ((x0.length : Int) ≤ 12)))
def impl_areLegs.f (k : Nat) (l0 : List (S26)) : Option (Bool) := impl_areLegs.l0 k l0 l0 (l0.length : Int) 0
theorem impl_areLegs.mono_l : ∀ k, (∀ y0 y1 y2 y3, LeO (impl_areLegs.l0 k y0 y1 y2 y3) (impl_areLegs.l0 (k + 1) y0 y1 y2 y3))
 | 0 => fun _ _ _ _ r h => by simp [impl_areLegs.l0] at h
 | k + 1 => by
  have ih0 := impl_areLegs.mono_l k
  ·intro y0 y1 y2 y3
   unfold impl_areLegs.l0
   repeat' with_reducible first | apply ih0 | exact LeO.refl _ | exact LeO.none _ | refine LeO.ite ?_ ?_ | refine LeO.bind ?_ (fun _ => ?_)
theorem impl_areLegs.mono : ∀ a0 k, LeO (impl_areLegs.f k a0) (impl_areLegs.f (k + 1) a0) := by
 intro a0 k
 have ih0 := impl_areLegs.mono_l k
 unfold impl_areLegs.f
 repeat' with_reducible first | apply ih0 | exact LeO.refl _ | exact LeO.none _ | refine LeO.ite ?_ ?_ | refine LeO.bind ?_ (fun _ => ?_)
set_option maxHeartbeats 8000000 in
set_option maxRecDepth 100000 in
theorem impl_areLegs.calls (k : Nat) (A0 : Option Addr) (c0 : Nat) (l0 : List (S26)) (r : Bool) (w : World) (hr0 : Kd.C k26 w A0 l0.length l0) (hc0 : l0.length ≤ c0) (h : impl_areLegs.f k l0 = some r) :
  Calls Try.prog 65 #[.slice A0 l0.length c0] w fun e w' => e = .returned (.bool r) ∧ Below w.heap.size w w' := by
 have hu26 := Try.underlying26
 have HR0 := Aside0.mk hr0
 have HC0 := Aside0.mk hc0
 clear hr0 hc0
 have HB := Aside0.mk (Below.refl w.heap.size w)
 have H : (impl_areLegs.l0 k l0 l0 (l0.length : Int) 0) = some r := h
 clear h
 have H' := Aside0.mk H
 clear H
 go_enter Try.func65, Try.ntmps65
 go_wp2
 go_loopg [7] k (fun kq v7 w' => ∃ (x7_1 : Int), v7 = .int .i64 x7_1 ∧ Aside0 (impl_areLegs.l0 kq l0 l0 (l0.length : Int) x7_1 = some r) ∧ Aside0 (kq ≤ k) ∧ Aside0 (Below w.heap.size w w'))
 case atStart => exact ⟨(0), rB, H', ⟨Nat.le_refl _⟩, (aB HB)⟩
 case round =>
  clear H'
  obtain ⟨x7_1, rfl, HA, HK1, HB⟩ := hrel
  cases gk with
  | zero => exact absurd HA.out (by simp [impl_areLegs.l0])
  | succ k1 =>
   have H := HA.out
   clear HA
   simp only [impl_areLegs.l0] at H
   replace H := ifD H
   rcases H with ⟨H, -, c2b0⟩ | ⟨H, -, c2b0⟩
   ·by_cases c3 : 0 ≤ x7_1
    ·rw [if_pos c3] at H
     have c3b0 : decide (0 ≤ x7_1) = true := decide_eq_true c3
     clear c3
     by_cases c4 : x7_1 < (l0.length : Int)
     ·rw [if_pos c4] at H
      have c4b0 : decide (x7_1 < (l0.length : Int)) = true := decide_eq_true c4
      clear c4
      replace H := bA H
      obtain ⟨t289, A5, H⟩ := H
      rcases Bool.eq_false_or_eq_true t289 with rfl | rfl
      ·replace H := iT rfl H
       have H' := Aside0.mk H
       clear H
       have p287 : 0 ≤ (x7_1 : Int) := of_decide_eq_true asmB
       have q287 : x7_1 < (l0.length : Int) := of_decide_eq_true asmB
       obtain ⟨ad287, e287, hx287_0, hx287_1, hx287_2, hx287_3, hx287_4⟩ := at_T26 HR0.out x7_1 p287 q287
       cases e287
       replace hx287_0 := bx HB.out hx287_0
       replace hx287_1 := bx HB.out hx287_1
       replace hx287_2 := bx HB.out hx287_2
       replace hx287_3 := bx HB.out hx287_3
       replace hx287_4 := bx HB.out hx287_4
       replace p287 := eq_true p287
       replace q287 := eq_true q287
       go_wp2_with (first | ((with_reducible refine gD 4 ?_); refine bxE 4 26 #[.int .i64 0, .int .i64 0, .int .i64 0, .int .i64 0, .int .i64 0] fun gb288 w7 hg hbox hb => ?_; have BK288 := Aside0.mk hbox; have GE288 := gB HB hg; replace HB := uB HB hb; clear hb hbox hg; have ⟨hcz8_0, hcz8_1, hcz8_2, hcz8_3, hcz8_4, hfz8_0⟩ := cz5 BK288) | ((with_reducible refine gC 89 ?_); refine lA (some 12) Try.func89 (impl_IsLeg.calls ((rd_T26 l0 x7_1).f0) ((rd_T26 l0 x7_1).f1) ((rd_T26 l0 x7_1).f2) ((rd_T26 l0 x7_1).f3) ((rd_T26 l0 x7_1).f4) true _ A5.out) ?_; intro w9 hb; replace BK288 := uQ BK288 hb #[.int .i64 ((rd_T26 l0 x7_1).f0), .int .i64 ((rd_T26 l0 x7_1).f1), .int .i64 ((rd_T26 l0 x7_1).f2), .int .i64 ((rd_T26 l0 x7_1).f3), .int .i64 ((rd_T26 l0 x7_1).f4)]; replace HB := uB HB hb; (try clear hb)))
       go_roundg k1
       case measure => have := HK1.out; omega
       case rel => exact ⟨(wrap64 (x7_1 + 1)), rB, H', ⟨by have := HK1.out; omega⟩, (aB HB)⟩
      ·replace H := iF (by decide) H
       obtain rfl := Option.some.inj H
       have p287 : 0 ≤ (x7_1 : Int) := of_decide_eq_true asmB
       have q287 : x7_1 < (l0.length : Int) := of_decide_eq_true asmB
       obtain ⟨ad287, e287, hx287_0, hx287_1, hx287_2, hx287_3, hx287_4⟩ := at_T26 HR0.out x7_1 p287 q287
       cases e287
       replace hx287_0 := bx HB.out hx287_0
       replace hx287_1 := bx HB.out hx287_1
       replace hx287_2 := bx HB.out hx287_2
       replace hx287_3 := bx HB.out hx287_3
       replace hx287_4 := bx HB.out hx287_4
       replace p287 := eq_true p287
       replace q287 := eq_true q287
       go_wp2_with (first | ((with_reducible refine gD 4 ?_); refine bxE 4 26 #[.int .i64 0, .int .i64 0, .int .i64 0, .int .i64 0, .int .i64 0] fun gb288 w10 hg hbox hb => ?_; have BK288 := Aside0.mk hbox; have GE288 := gB HB hg; replace HB := uB HB hb; clear hb hbox hg; have ⟨hcz11_0, hcz11_1, hcz11_2, hcz11_3, hcz11_4, hfz11_0⟩ := cz5 BK288) | ((with_reducible refine gC 89 ?_); refine lA (some 12) Try.func89 (impl_IsLeg.calls ((rd_T26 l0 x7_1).f0) ((rd_T26 l0 x7_1).f1) ((rd_T26 l0 x7_1).f2) ((rd_T26 l0 x7_1).f3) ((rd_T26 l0 x7_1).f4) false _ A5.out) ?_; intro w12 hb; replace BK288 := uQ BK288 hb #[.int .i64 ((rd_T26 l0 x7_1).f0), .int .i64 ((rd_T26 l0 x7_1).f1), .int .i64 ((rd_T26 l0 x7_1).f2), .int .i64 ((rd_T26 l0 x7_1).f3), .int .i64 ((rd_T26 l0 x7_1).f4)]; replace HB := uB HB hb; (try clear hb)))
       go_ret
       exact ⟨eB, (bW HB)⟩
     ·rw [if_neg c4] at H
      exact absurd H (by simp)
    ·rw [if_neg c3] at H
     exact absurd H (by simp)
   ·obtain rfl := Option.some.inj H
    go_wp2
    go_ret
    exact ⟨eB, (bW HB)⟩

end Go.Proofs.Ytinelmmnajelaaa.QFnExactUndoEdits
