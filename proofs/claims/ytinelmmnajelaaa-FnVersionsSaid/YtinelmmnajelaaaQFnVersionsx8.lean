/- Contracts of Go functions that FnVersions reaches: the call computes what the plain function says. No condition. -/
import Derived.Test.YtinelmmnajelaaaQFnVersionsx0
import Derived.Test.YtinelmmnajelaaaQFnVersionsx4
import Derived.Test.YtinelmmnajelaaaQFnVersionsx5
import Derived.Test.YtinelmmnajelaaaQFnVersionsx6
import Derived.Test.YtinelmmnajelaaaQFnVersionsx7
namespace Go.Proofs.Ytinelmmnajelaaa.QFnVersions
open Go.RowKit Go.Proofs.YtinelmmnajelaaaW.PrintWords Go.Proofs.YtinelmmnajelaaaW.PrintLast Go.Proofs.YtinelmmnajelaaaW.PrintMore
attribute [local go_sem] max2_int min2_int max_two min_two max_three min_three max_four min_four   -- for this text's walks alone
set_option linter.unusedVariables false
set_option linter.unusedSimpArgs false

/-! ### impl_ApplyEdit: function 27 -/
def impl_ApplyEdit.f (k : Nat) (l0 : List (S26)) (a1_0 a1_1 a1_2 a1_3 a1_4 a1_5 a1_6 a1_7 a1_8 a1_9 a1_10 a1_11 : Int) : Option ((List (S26)) × Bool) := (impl_areLegs.f k l0).bind fun t242 => (if t242 = true then ((impl_apply.f k l0 a1_0 a1_1 a1_2 a1_3 a1_4 a1_5 a1_6 a1_7 a1_8 a1_9 a1_10 a1_11).bind fun bt243 => (some (bt243.1, bt243.2))) else (some (([] : List (S26)), false)))
theorem impl_ApplyEdit.mono : ∀ a0 a1 a2 a3 a4 a5 a6 a7 a8 a9 a10 a11 a12 k, LeO (impl_ApplyEdit.f k a0 a1 a2 a3 a4 a5 a6 a7 a8 a9 a10 a11 a12) (impl_ApplyEdit.f (k + 1) a0 a1 a2 a3 a4 a5 a6 a7 a8 a9 a10 a11 a12) := by
 intro a0 a1 a2 a3 a4 a5 a6 a7 a8 a9 a10 a11 a12 k
 unfold impl_ApplyEdit.f
 repeat' with_reducible first | apply impl_apply.mono | apply impl_areLegs.mono | exact LeO.refl _ | exact LeO.none _ | refine LeO.ite ?_ ?_ | refine LeO.bind ?_ (fun _ => ?_)
set_option maxHeartbeats 8000000 in
set_option maxRecDepth 100000 in
theorem impl_ApplyEdit.calls (k : Nat) (A0 : Option Addr) (c0 : Nat) (l0 : List (S26)) (a1_0 a1_1 a1_2 a1_3 a1_4 a1_5 a1_6 a1_7 a1_8 a1_9 a1_10 a1_11 : Int) (r1 : List (S26)) (r2 : Bool) (w : World) (hr0 : Kd.C k26 w A0 l0.length l0) (hc0 : l0.length ≤ c0) (h : impl_ApplyEdit.f k l0 a1_0 a1_1 a1_2 a1_3 a1_4 a1_5 a1_6 a1_7 a1_8 a1_9 a1_10 a1_11 = some (r1, r2)) :
  Calls Try.prog 27 #[.slice A0 l0.length c0, .agg #[.int .i64 a1_0, .int .i64 a1_1, .int .i64 a1_2, .int .i64 a1_3, .int .i64 a1_4, .int .i64 a1_5, .int .i64 a1_6, .int .i64 a1_7, .int .i64 a1_8, .int .i64 a1_9, .int .i64 a1_10, .int .i64 a1_11]] w fun e w' => ∃ v0_ : Value, e = .returned (.tuple #[v0_, .bool r2]) ∧ Kd.R k26 26 w' w.heap.size (fun _ => True) v0_ r1 ∧ Below w.heap.size w w' := by
 have hu28 := Try.underlying28
 have HR0 := Aside0.mk hr0
 have HC0 := Aside0.mk hc0
 clear hr0 hc0
 have HB := Aside0.mk (Below.refl w.heap.size w)
 have H := h
 clear h
 unfold impl_ApplyEdit.f at H
 replace H := bA H
 obtain ⟨t242, A3, H⟩ := H
 rcases Bool.eq_false_or_eq_true t242 with rfl | rfl
 ·replace H := iT rfl H
  replace H := Option.bind_eq_some_iff.mp H
  obtain ⟨⟨t243, t246⟩, A50, H⟩ := H
  replace H : (some (t243, t246)) = some (r1, r2) := H
  have A5 := Aside0.mk A50
  clear A50
  simp only [Option.some.injEq, Prod.mk.injEq] at H
  obtain ⟨rfl, rfl⟩ := H
  go_enter Try.func27, Try.ntmps27
  go_wp2_with (first | ((with_reducible refine gD 3 ?_); refine bxE 3 28 #[.int .i64 a1_0, .int .i64 a1_1, .int .i64 a1_2, .int .i64 a1_3, .int .i64 a1_4, .int .i64 a1_5, .int .i64 a1_6, .int .i64 a1_7, .int .i64 a1_8, .int .i64 a1_9, .int .i64 a1_10, .int .i64 a1_11] fun gb241 w6 hg hbox hb => ?_; have BK241 := Aside0.mk hbox; have GE241 := gB HB hg; replace HB := uB HB hb; clear hb hbox hg) | ((with_reducible refine gC 65 ?_); refine lA (some 7) Try.func65 (impl_areLegs.calls k _ _ l0 true _ ?side1 ?side2 A3.out) ?_; (case side1 => repeat (first | exact (Kd.C_below HR0.out HB.out) | (with_reducible refine Kd.C_alloc ?_ _) | (with_reducible refine Kd.C_drewN ?_ _) | (with_reducible refine Kd.C_drew ?_))); (case side2 => exact HC0.out); intro w7 hb; replace BK241 := uK BK241 hb; replace HB := uB HB hb; (try clear hb); have ⟨hcz8_0, hcz8_1, hcz8_2, hcz8_3, hcz8_4, hcz8_5, hcz8_6, hcz8_7, hcz8_8, hcz8_9, hcz8_10, hcz8_11, hfz8_0⟩ := cz12 BK241) | ((with_reducible refine gate_callee (f := 67) rfl ?_); refine goesL_ (some 11) rfl rfl Try.func67 (by kernel_rfl) rfl #[.slice A0 l0.length c0, .agg #[.int .i64 a1_0, .int .i64 a1_1, .int .i64 a1_2, .int .i64 a1_3, .int .i64 a1_4, .int .i64 a1_5, .int .i64 a1_6, .int .i64 a1_7, .int .i64 a1_8, .int .i64 a1_9, .int .i64 a1_10, .int .i64 a1_11]] rfl argsB ?_; (with_reducible refine (impl_apply.calls k _ _ l0 a1_0 a1_1 a1_2 a1_3 a1_4 a1_5 a1_6 a1_7 a1_8 a1_9 a1_10 a1_11 t243 t246 _ ?side1 ?side2 A5.out).mono ?_); (case side1 => repeat (first | exact (Kd.C_below HR0.out HB.out) | (with_reducible refine Kd.C_alloc ?_ _) | (with_reducible refine Kd.C_drewN ?_ _) | (with_reducible refine Kd.C_drew ?_))); (case side2 => exact HC0.out); rintro e w9 ⟨v244, rfl, ho0, hb⟩; refine ⟨_, rfl, ?_⟩; have HO245 := Aside0.mk (Kd.R_lower ho0 (below_size (bW HB))); replace BK241 := uK BK241 hb; replace HB := uB HB hb; (try clear hb); (try clear ho0)))
  go_ret2
  exact ⟨_, eB, upR HO245.out, (bW HB)⟩
 ·replace H := iF (by decide) H
  simp only [Option.some.injEq, Prod.mk.injEq] at H
  obtain ⟨rfl, rfl⟩ := H
  go_enter Try.func27, Try.ntmps27
  go_wp2_with (first | ((with_reducible refine gD 3 ?_); refine bxE 3 28 #[.int .i64 a1_0, .int .i64 a1_1, .int .i64 a1_2, .int .i64 a1_3, .int .i64 a1_4, .int .i64 a1_5, .int .i64 a1_6, .int .i64 a1_7, .int .i64 a1_8, .int .i64 a1_9, .int .i64 a1_10, .int .i64 a1_11] fun gb241 w10 hg hbox hb => ?_; have BK241 := Aside0.mk hbox; have GE241 := gB HB hg; replace HB := uB HB hb; clear hb hbox hg) | ((with_reducible refine gC 65 ?_); refine lA (some 7) Try.func65 (impl_areLegs.calls k _ _ l0 false _ ?side1 ?side2 A3.out) ?_; (case side1 => repeat (first | exact (Kd.C_below HR0.out HB.out) | (with_reducible refine Kd.C_alloc ?_ _) | (with_reducible refine Kd.C_drewN ?_ _) | (with_reducible refine Kd.C_drew ?_))); (case side2 => exact HC0.out); intro w11 hb; replace BK241 := uK BK241 hb; replace HB := uB HB hb; (try clear hb)))
  go_ret2
  exact ⟨_, eB, by first | exact Kd.R_nil _ _ _ _ _ | exact Kd.N_nil _ _ _ _ _ | exact Kd.V_nil _ _ _ _ _ | exact Kd.Q_nil _ _ _ _ _ | exact Kd.S_nil _ _ _ _ _, (bW HB)⟩

/-! ### spec_l19Run: function 71 -/
def spec_l19Run.l0 : Nat → List (S28) → Int → List (S26) → Int → Option ((List (S26)) × Bool)
 | 0, _, _, _, _ => none
 | k + 1, x1, x2, x8, x9 => if x9 < x2 then (if 0 ≤ x9 then (if x9 < (x1.length : Int) then ((spec_l19Apply.f k x8 ((rd_T28 x1 x9).f0) ((rd_T28 x1 x9).f1) ((rd_T28 x1 x9).f2.f0) ((rd_T28 x1 x9).f2.f1) ((rd_T28 x1 x9).f2.f2) ((rd_T28 x1 x9).f2.f3) ((rd_T28 x1 x9).f2.f4) ((rd_T28 x1 x9).f3.f0) ((rd_T28 x1 x9).f3.f1) ((rd_T28 x1 x9).f3.f2) ((rd_T28 x1 x9).f3.f3) ((rd_T28 x1 x9).f3.f4)).bind fun bt254 => (if bt254.2 = true then (spec_l19Run.l0 k x1 x2 bt254.1 (wrap64 (x9 + 1))) else (some ((([] : List (S26))), false)))) else (none)) else (none)) else (some (x8, true))
def spec_l19Run.f (k : Nat) (l0 : List (S26)) (l1 : List (S28)) (a2 : Int) : Option ((List (S26)) × Bool) := (some (([] : List (S26)) : List (S26))).bind fun y247 => (if y247.length + l0.length < 3518437208883 then (spec_l19Run.l0 k l1 a2 (y247 ++ l0) 0) else (none))
theorem spec_l19Run.mono_l : ∀ k, (∀ y0 y1 y2 y3, LeO (spec_l19Run.l0 k y0 y1 y2 y3) (spec_l19Run.l0 (k + 1) y0 y1 y2 y3))
 | 0 => fun _ _ _ _ r h => by simp [spec_l19Run.l0] at h
 | k + 1 => by
  have ih0 := spec_l19Run.mono_l k
  ·intro y0 y1 y2 y3
   unfold spec_l19Run.l0
   repeat' with_reducible first | apply ih0 | apply spec_l19Apply.mono | exact LeO.refl _ | exact LeO.none _ | refine LeO.ite ?_ ?_ | refine LeO.bind ?_ (fun _ => ?_)
theorem spec_l19Run.mono : ∀ a0 a1 a2 k, LeO (spec_l19Run.f k a0 a1 a2) (spec_l19Run.f (k + 1) a0 a1 a2) := by
 intro a0 a1 a2 k
 have ih0 := spec_l19Run.mono_l k
 unfold spec_l19Run.f
 repeat' with_reducible first | apply ih0 | apply spec_l19Apply.mono | exact LeO.refl _ | exact LeO.none _ | refine LeO.ite ?_ ?_ | refine LeO.bind ?_ (fun _ => ?_)
set_option maxHeartbeats 8000000 in
set_option maxRecDepth 100000 in
theorem spec_l19Run.calls (k : Nat) (A0 : Option Addr) (c0 : Nat) (l0 : List (S26)) (A1 : Option Addr) (c1 : Nat) (l1 : List (S28)) (a2 : Int) (r1 : List (S26)) (r2 : Bool) (w : World) (hr0 : Kd.C k26 w A0 l0.length l0) (hc0 : l0.length ≤ c0) (hr1 : Kd.C k28 w A1 l1.length l1) (hc1 : l1.length ≤ c1) (h : spec_l19Run.f k l0 l1 a2 = some (r1, r2)) :
  Calls Try.prog 71 #[.slice A0 l0.length c0, .slice A1 l1.length c1, .int .i64 a2] w fun e w' => ∃ v0_ : Value, e = .returned (.tuple #[v0_, .bool r2]) ∧ Kd.R k26 26 w' w.heap.size (fun _ => True) v0_ r1 ∧ Below w.heap.size w w' := by
 have hu28 := Try.underlying28
 have HR0 := Aside0.mk hr0
 have HC0 := Aside0.mk hc0
 clear hr0 hc0
 have HR1 := Aside0.mk hr1
 have HC1 := Aside0.mk hc1
 clear hr1 hc1
 have HB := Aside0.mk (Below.refl w.heap.size w)
 have H := h
 clear h
 unfold spec_l19Run.f at H
 obtain ⟨y247, hy247⟩ : ∃ y_ : List (S26), y_ = (([] : List (S26))) := ⟨_, rfl⟩
 replace H : (if y247.length + l0.length < 3518437208883 then (spec_l19Run.l0 k l1 a2 (y247 ++ l0) 0) else (none)) = some (r1, r2) := by first | (rw [hy247]; with_reducible exact H) | (have H2_ := (Option.bind_some _ _).symm.trans H; rw [hy247]; with_reducible exact H2_) | (have H2_ := (Option.bind_some _ _).symm.trans H; with_reducible exact H2_) | with_reducible exact H | (rw [hy247]; exact H) | exact H
 have Ny247 := Aside0.mk hy247
 clear hy247
 by_cases c4 : y247.length + l0.length < 3518437208883
 ·rw [if_pos c4] at H
  have LMc4 := Aside0.mk c4
  clear c4
  obtain ⟨y250, hy250⟩ : ∃ y_ : List (S26), y_ = (y247 ++ l0) := ⟨_, rfl⟩
  replace H : (spec_l19Run.l0 k l1 a2 y250 0) = some (r1, r2) := by first | (rw [hy250]; with_reducible exact H) | (have H2_ := (Option.bind_some _ _).symm.trans H; rw [hy250]; with_reducible exact H2_) | (have H2_ := (Option.bind_some _ _).symm.trans H; with_reducible exact H2_) | with_reducible exact H | (rw [hy250]; exact H) | exact H
  have Ny250 := Aside0.mk hy250
  clear hy250
  have H' := Aside0.mk H
  clear H
  go_enter Try.func71, Try.ntmps71
  go_wp2_with (first | ((with_reducible refine gate_dst (N := 12) rfl ?_); refine Kd.R_lit k26 _ 26 ?hg (N := 12) ?hd (xs := ([] : List (S26))) (inner := []) (ok := fun _ => True) (okp := fun _ => True) ?hr ?hp (fun _ hk => hk) trivial (Below.refl _ _) (Nat.le_refl _) (by simp) ?_; (case hd => rfl); (case hg => rfl); (case hr => first | (go_simp; done) | (go_simp; rfl)); (case hp => exact (Reps.none _ _)); intro v248 w5 ho6 hb hg_ hnew_; clear hg_ hnew_; (first | rw [← Ny247.out] at ho6 | (simp only [Int.reduceToNat] at ho6; rw [← Ny247.out] at ho6)); have HO249 := Aside0.mk (Kd.R_lower ho6 (below_size (bW HB))); replace HB := uB HB hb; clear hb ho6) | ((with_reducible refine gate_builtin (b := .append) (xs := #[.tmp 12, .tmp 13]) rfl ?_); at_builtin; refine Kd.R_append_rows k26 (w0 := w) w.heap.size rfl (.tmp 12) (.tmp 13) 39 26 (.agg #[(.int .i64 0), (.int .i64 0), (.int .i64 0), (.int .i64 0), (.int .i64 0)]) 40 rfl Try.underlying39 info26 rfl (by decide) (by omega) v248 y247 l0 _ _ _ (fun _ => True) (fun _ => False) rfl rfl ?aO ?aR (fun _ _ h => h) (fun _ h => h.elim) ?aF ?aB ?aS ?aL ?_; (case aR => repeat (first | exact (Kd.C_below HR0.out HB.out) | (with_reducible refine Kd.C_alloc ?_ _) | (with_reducible refine Kd.C_drewN ?_ _) | (with_reducible refine Kd.C_drew ?_))); (case aB => exact (bW HB)); (case aF => exact (fun _ _ => trivial)); (case aO => exact (upR HO249.out)); (case aS => exact (below_size (bW HB))); (case aL => have := LMc4.out; omega); intro v251 w7 ho hb hg hat; rw [← Ny250.out] at ho; have HO252 := Aside0.mk (ho); replace HB := Aside0.mk (hb); clear HO249; clear ho hb hg hat))
  (try simp only [Act.put, List.setIfInBounds_toArray, List.set_cons_zero, List.set_cons_succ])
  go_loopg [8, 9] k (fun kq v8 v9 w' => ∃ (x8_1 : List (S26)) (x9_1 : Int), v9 = .int .i64 x9_1 ∧ Aside0 (spec_l19Run.l0 kq l1 a2 x8_1 x9_1 = some (r1, r2)) ∧ Aside0 (kq ≤ k) ∧ Aside0 (Kd.R k26 26 w' w.heap.size (fun _ => True) v8 x8_1) ∧ Aside0 (Below w.heap.size w w'))
  case atStart => exact ⟨(y250), (0), rB, H', ⟨Nat.le_refl _⟩, ⟨upR HO252.out⟩, (aB HB)⟩
  case round =>
   clear H'
   try clear c1
   try clear c4
   obtain ⟨x8_1, x9_1, rfl, HA, HK1, HO_8, HB⟩ := hrel
   cases gk with
   | zero => exact absurd HA.out (by simp [spec_l19Run.l0])
   | succ k1 =>
    have H := HA.out
    clear HA
    simp only [spec_l19Run.l0] at H
    replace H := ifD H
    rcases H with ⟨H, -, c8b0⟩ | ⟨H, -, c8b0⟩
    ·by_cases c9 : 0 ≤ x9_1
     ·rw [if_pos c9] at H
      have c9b0 : decide (0 ≤ x9_1) = true := decide_eq_true c9
      clear c9
      by_cases c10 : x9_1 < (l1.length : Int)
      ·rw [if_pos c10] at H
       have c10b0 : decide (x9_1 < (l1.length : Int)) = true := decide_eq_true c10
       clear c10
       replace H := Option.bind_eq_some_iff.mp H
       obtain ⟨⟨t254, t257⟩, A110, H⟩ := H
       replace H : (if t257 = true then (spec_l19Run.l0 k1 l1 a2 t254 (wrap64 (x9_1 + 1))) else (some ((([] : List (S26))), false))) = some (r1, r2) := H
       have A11 := Aside0.mk A110
       clear A110
       rcases Bool.eq_false_or_eq_true t257 with rfl | rfl
       ·replace H := iT rfl H
        have H' := Aside0.mk H
        clear H
        have p253 : 0 ≤ (x9_1 : Int) := of_decide_eq_true asmB
        have q253 : x9_1 < (l1.length : Int) := of_decide_eq_true asmB
        obtain ⟨ad253, e253, hx253_0, hx253_1, hx253_2, hx253_3, hx253_4, hx253_5, hx253_6, hx253_7, hx253_8, hx253_9, hx253_10, hx253_11⟩ := at_T28 HR1.out x9_1 p253 q253
        cases e253
        replace hx253_0 := bx HB.out hx253_0
        replace hx253_1 := bx HB.out hx253_1
        replace hx253_2 := bx HB.out hx253_2
        replace hx253_3 := bx HB.out hx253_3
        replace hx253_4 := bx HB.out hx253_4
        replace hx253_5 := bx HB.out hx253_5
        replace hx253_6 := bx HB.out hx253_6
        replace hx253_7 := bx HB.out hx253_7
        replace hx253_8 := bx HB.out hx253_8
        replace hx253_9 := bx HB.out hx253_9
        replace hx253_10 := bx HB.out hx253_10
        replace hx253_11 := bx HB.out hx253_11
        replace p253 := eq_true p253
        replace q253 := eq_true q253
        obtain ⟨Ao13, co13, eo13⟩ := Kd.R_slice HO_8.out
        subst eo13
        go_wp2_with (first | ((with_reducible refine gate_callee (f := 66) rfl ?_); refine goesL_ (some 26) rfl rfl Try.func66 (by kernel_rfl) rfl #[.slice Ao13 x8_1.length co13, .agg #[.int .i64 ((rd_T28 l1 x9_1).f0), .int .i64 ((rd_T28 l1 x9_1).f1), .int .i64 ((rd_T28 l1 x9_1).f2.f0), .int .i64 ((rd_T28 l1 x9_1).f2.f1), .int .i64 ((rd_T28 l1 x9_1).f2.f2), .int .i64 ((rd_T28 l1 x9_1).f2.f3), .int .i64 ((rd_T28 l1 x9_1).f2.f4), .int .i64 ((rd_T28 l1 x9_1).f3.f0), .int .i64 ((rd_T28 l1 x9_1).f3.f1), .int .i64 ((rd_T28 l1 x9_1).f3.f2), .int .i64 ((rd_T28 l1 x9_1).f3.f3), .int .i64 ((rd_T28 l1 x9_1).f3.f4)]] rfl argsB ?_; (with_reducible refine (spec_l19Apply.calls k1 _ _ x8_1 ((rd_T28 l1 x9_1).f0) ((rd_T28 l1 x9_1).f1) ((rd_T28 l1 x9_1).f2.f0) ((rd_T28 l1 x9_1).f2.f1) ((rd_T28 l1 x9_1).f2.f2) ((rd_T28 l1 x9_1).f2.f3) ((rd_T28 l1 x9_1).f2.f4) ((rd_T28 l1 x9_1).f3.f0) ((rd_T28 l1 x9_1).f3.f1) ((rd_T28 l1 x9_1).f3.f2) ((rd_T28 l1 x9_1).f3.f3) ((rd_T28 l1 x9_1).f3.f4) t254 true _ ?side1 ?side2 A11.out).mono ?_); (case side1 => repeat (first | exact (Kd.R_reads' HO_8.out).2.2 | (with_reducible refine Kd.C_alloc ?_ _) | (with_reducible refine Kd.C_drewN ?_ _) | (with_reducible refine Kd.C_drew ?_))); (case side2 => exact (Kd.R_reads' HO_8.out).2.1); rintro e w14 ⟨v255, rfl, ho0, hb⟩; refine ⟨_, rfl, ?_⟩; have HO256 := Aside0.mk (Kd.R_lower (Kd.R_new' ho0 (Kd.R_lt (upR HO_8.out))) (below_size (bW HB))); replace HO_8 := Aside0.mk (Kd.R_elder' (upR HO_8.out) (Kd.R_base ho0) hb); replace HB := uB HB hb; (try clear hb); (try clear hk); (try clear ho0)))
        go_roundg k1
        case measure => have := HK1.out; omega
        case rel => exact ⟨(t254), (wrap64 (x9_1 + 1)), rB, H', ⟨by have := HK1.out; omega⟩, ⟨by (with_reducible repeat (first | apply Kd.R_alloc | apply Kd.R_drewN | apply Kd.R_drew)); exact Kd.R_mono HO256.out (fun _ hk => trivial)⟩, (aB HB)⟩
       ·replace H := iF (by decide) H
        obtain ⟨y258, hy258⟩ : ∃ y_ : List (S26), y_ = (([] : List (S26))) := ⟨_, rfl⟩
        replace H : (some (y258, false)) = some (r1, r2) := by first | (rw [hy258]; with_reducible exact H) | (have H2_ := (Option.bind_some _ _).symm.trans H; rw [hy258]; with_reducible exact H2_) | (have H2_ := (Option.bind_some _ _).symm.trans H; with_reducible exact H2_) | with_reducible exact H | (rw [hy258]; exact H) | exact H
        have Ny258 := Aside0.mk hy258
        clear hy258
        simp only [Option.some.injEq, Prod.mk.injEq] at H
        obtain ⟨rfl, rfl⟩ := H
        have p253 : 0 ≤ (x9_1 : Int) := of_decide_eq_true asmB
        have q253 : x9_1 < (l1.length : Int) := of_decide_eq_true asmB
        obtain ⟨ad253, e253, hx253_0, hx253_1, hx253_2, hx253_3, hx253_4, hx253_5, hx253_6, hx253_7, hx253_8, hx253_9, hx253_10, hx253_11⟩ := at_T28 HR1.out x9_1 p253 q253
        cases e253
        replace hx253_0 := bx HB.out hx253_0
        replace hx253_1 := bx HB.out hx253_1
        replace hx253_2 := bx HB.out hx253_2
        replace hx253_3 := bx HB.out hx253_3
        replace hx253_4 := bx HB.out hx253_4
        replace hx253_5 := bx HB.out hx253_5
        replace hx253_6 := bx HB.out hx253_6
        replace hx253_7 := bx HB.out hx253_7
        replace hx253_8 := bx HB.out hx253_8
        replace hx253_9 := bx HB.out hx253_9
        replace hx253_10 := bx HB.out hx253_10
        replace hx253_11 := bx HB.out hx253_11
        replace p253 := eq_true p253
        replace q253 := eq_true q253
        obtain ⟨Ao15, co15, eo15⟩ := Kd.R_slice HO_8.out
        subst eo15
        go_wp2_with (first | ((with_reducible refine gate_callee (f := 66) rfl ?_); refine goesL_ (some 26) rfl rfl Try.func66 (by kernel_rfl) rfl #[.slice Ao15 x8_1.length co15, .agg #[.int .i64 ((rd_T28 l1 x9_1).f0), .int .i64 ((rd_T28 l1 x9_1).f1), .int .i64 ((rd_T28 l1 x9_1).f2.f0), .int .i64 ((rd_T28 l1 x9_1).f2.f1), .int .i64 ((rd_T28 l1 x9_1).f2.f2), .int .i64 ((rd_T28 l1 x9_1).f2.f3), .int .i64 ((rd_T28 l1 x9_1).f2.f4), .int .i64 ((rd_T28 l1 x9_1).f3.f0), .int .i64 ((rd_T28 l1 x9_1).f3.f1), .int .i64 ((rd_T28 l1 x9_1).f3.f2), .int .i64 ((rd_T28 l1 x9_1).f3.f3), .int .i64 ((rd_T28 l1 x9_1).f3.f4)]] rfl argsB ?_; (with_reducible refine (spec_l19Apply.calls k1 _ _ x8_1 ((rd_T28 l1 x9_1).f0) ((rd_T28 l1 x9_1).f1) ((rd_T28 l1 x9_1).f2.f0) ((rd_T28 l1 x9_1).f2.f1) ((rd_T28 l1 x9_1).f2.f2) ((rd_T28 l1 x9_1).f2.f3) ((rd_T28 l1 x9_1).f2.f4) ((rd_T28 l1 x9_1).f3.f0) ((rd_T28 l1 x9_1).f3.f1) ((rd_T28 l1 x9_1).f3.f2) ((rd_T28 l1 x9_1).f3.f3) ((rd_T28 l1 x9_1).f3.f4) t254 false _ ?side1 ?side2 A11.out).mono ?_); (case side1 => repeat (first | exact (Kd.R_reads' HO_8.out).2.2 | (with_reducible refine Kd.C_alloc ?_ _) | (with_reducible refine Kd.C_drewN ?_ _) | (with_reducible refine Kd.C_drew ?_))); (case side2 => exact (Kd.R_reads' HO_8.out).2.1); rintro e w16 ⟨v255, rfl, ho0, hb⟩; refine ⟨_, rfl, ?_⟩; have HO256 := Aside0.mk (Kd.R_lower (Kd.R_new' ho0 (Kd.R_lt (upR HO_8.out))) (below_size (bW HB))); replace HO_8 := Aside0.mk (Kd.R_elder' (upR HO_8.out) (Kd.R_base ho0) hb); replace HB := uB HB hb; (try clear hb); (try clear hk); (try clear ho0)) | ((with_reducible refine gate_dst (N := 31) rfl ?_); refine Kd.R_lit k26 _ 26 ?hg (N := 31) ?hd (xs := ([] : List (S26))) (inner := []) (ok := fun _ => True) (okp := fun _ => True) ?hr ?hp (fun _ hk => hk) trivial (Below.refl _ _) (Nat.le_refl _) (by simp) ?_; (case hd => rfl); (case hg => rfl); (case hr => first | (go_simp; done) | (go_simp; rfl)); (case hp => exact (Reps.none _ _)); intro v259 w17 ho18 hb hg_ hnew_; clear hg_ hnew_; (first | rw [← Ny258.out] at ho18 | (simp only [Int.reduceToNat] at ho18; rw [← Ny258.out] at ho18)); have HO260 := Aside0.mk (Kd.R_lower (Kd.R_new' (Kd.R_new' ho18 (Kd.R_lt (upR HO_8.out))) (Kd.R_lt (upR HO256.out))) (below_size (bW HB))); replace HO_8 := Aside0.mk (Kd.R_elder' (upR HO_8.out) (Kd.R_base ho18) hb); replace HO256 := Aside0.mk (Kd.R_elder' (upR HO256.out) (Kd.R_base ho18) hb); replace HB := uB HB hb; clear hb ho18))
        go_ret2
        exact ⟨_, eB, by (with_reducible repeat (first | apply Kd.R_alloc | apply Kd.R_drewN | apply Kd.R_drew)); exact Kd.R_mono HO260.out (fun _ hk => trivial), (bW HB)⟩
      ·rw [if_neg c10] at H
       exact absurd H (by simp)
     ·rw [if_neg c9] at H
      exact absurd H (by simp)
    ·simp only [Option.some.injEq, Prod.mk.injEq] at H
     obtain ⟨rfl, rfl⟩ := H
     go_wp2
     go_ret2
     exact ⟨_, eB, upR HO_8.out, (bW HB)⟩
 ·rw [if_neg c4] at H
  exact absurd H (by simp)

/-! ### spec_l19Good: function 68 -/
def spec_l19Good.f (k : Nat) (l0 : List (S26)) (l1 : List (S28)) : Option (Bool) := (spec_l4Legs.f k l0).bind fun t261 => (if t261 = true then (if (l1.length : Int) > 10 then (some false) else ((spec_l19Run.f k l0 l1 (l1.length : Int)).bind fun bt262 => (some bt262.2))) else (some false))
theorem spec_l19Good.mono : ∀ a0 a1 k, LeO (spec_l19Good.f k a0 a1) (spec_l19Good.f (k + 1) a0 a1) := by
 intro a0 a1 k
 unfold spec_l19Good.f
 repeat' with_reducible first | apply spec_l19Run.mono | apply spec_l4Legs.mono | exact LeO.refl _ | exact LeO.none _ | refine LeO.ite ?_ ?_ | refine LeO.bind ?_ (fun _ => ?_)
set_option maxHeartbeats 8000000 in
set_option maxRecDepth 100000 in
theorem spec_l19Good.calls (k : Nat) (A0 : Option Addr) (c0 : Nat) (l0 : List (S26)) (A1 : Option Addr) (c1 : Nat) (l1 : List (S28)) (r : Bool) (w : World) (hr0 : Kd.C k26 w A0 l0.length l0) (hc0 : l0.length ≤ c0) (hr1 : Kd.C k28 w A1 l1.length l1) (hc1 : l1.length ≤ c1) (h : spec_l19Good.f k l0 l1 = some r) :
  Calls Try.prog 68 #[.slice A0 l0.length c0, .slice A1 l1.length c1] w fun e w' => e = .returned (.bool r) ∧ Below w.heap.size w w' := by
 have HR0 := Aside0.mk hr0
 have HC0 := Aside0.mk hc0
 clear hr0 hc0
 have HR1 := Aside0.mk hr1
 have HC1 := Aside0.mk hc1
 clear hr1 hc1
 have HB := Aside0.mk (Below.refl w.heap.size w)
 have H := h
 clear h
 unfold spec_l19Good.f at H
 replace H := bA H
 obtain ⟨t261, A3, H⟩ := H
 rcases Bool.eq_false_or_eq_true t261 with rfl | rfl
 ·replace H := iT rfl H
  replace H := ifD H
  rcases H with ⟨H, c5, c5b0⟩ | ⟨H, c5, c5b0⟩
  ·have c5b1 : decide (10 < l1.length) = true := decide_eq_true (by omega)
   clear c5
   obtain rfl := Option.some.inj H
   go_enter Try.func68, Try.ntmps68
   go_wp2_with (first | ((with_reducible refine gC 64 ?_); refine lA (some 8) Try.func64 (spec_l4Legs.calls k _ _ l0 true _ ?side1 ?side2 A3.out) ?_; (case side1 => repeat (first | exact HR0.out | (with_reducible refine Kd.C_alloc ?_ _) | (with_reducible refine Kd.C_drewN ?_ _) | (with_reducible refine Kd.C_drew ?_))); (case side2 => exact HC0.out); intro w6 hb; replace HB := uB HB hb; (try clear hb)))
   go_ret
   exact ⟨eB, (bW HB)⟩
  ·have c5b1 : decide (10 < l1.length) = false := decide_eq_false (by omega)
   clear c5
   replace H := Option.bind_eq_some_iff.mp H
   obtain ⟨⟨t262, t263⟩, A70, H⟩ := H
   replace H : (some t263) = some r := H
   have A7 := Aside0.mk A70
   clear A70
   obtain rfl := Option.some.inj H
   go_enter Try.func68, Try.ntmps68
   go_wp2_with (first | ((with_reducible refine gC 64 ?_); refine lA (some 8) Try.func64 (spec_l4Legs.calls k _ _ l0 true _ ?side1 ?side2 A3.out) ?_; (case side1 => repeat (first | exact HR0.out | (with_reducible refine Kd.C_alloc ?_ _) | (with_reducible refine Kd.C_drewN ?_ _) | (with_reducible refine Kd.C_drew ?_))); (case side2 => exact HC0.out); intro w8 hb; replace HB := uB HB hb; (try clear hb)) | ((with_reducible refine gate_callee (f := 71) rfl ?_); refine goesL_ (some 20) rfl rfl Try.func71 (by kernel_rfl) rfl #[.slice A0 l0.length c0, .slice A1 l1.length c1, .int .i64 (l1.length : Int)] rfl argsB ?_; (with_reducible refine (spec_l19Run.calls k _ _ l0 _ _ l1 (l1.length : Int) t262 t263 _ ?side1 ?side2 ?side3 ?side4 A7.out).mono ?_); (case side1 => repeat (first | exact (Kd.C_below HR0.out HB.out) | (with_reducible refine Kd.C_alloc ?_ _) | (with_reducible refine Kd.C_drewN ?_ _) | (with_reducible refine Kd.C_drew ?_))); (case side2 => exact HC0.out); (case side3 => repeat (first | exact (Kd.C_below HR1.out HB.out) | (with_reducible refine Kd.C_alloc ?_ _) | (with_reducible refine Kd.C_drewN ?_ _) | (with_reducible refine Kd.C_drew ?_))); (case side4 => exact HC1.out); rintro e w9 ⟨v264, rfl, ho0, hb⟩; refine ⟨_, rfl, ?_⟩; have HO265 := Aside0.mk (Kd.R_lower ho0 (below_size (bW HB))); replace HB := uB HB hb; (try clear hb); (try clear ho0)))
   go_ret
   exact ⟨eB, (bW HB)⟩
 ·replace H := iF (by decide) H
  obtain rfl := Option.some.inj H
  go_enter Try.func68, Try.ntmps68
  go_wp2_with (first | ((with_reducible refine gC 64 ?_); refine lA (some 8) Try.func64 (spec_l4Legs.calls k _ _ l0 false _ ?side1 ?side2 A3.out) ?_; (case side1 => repeat (first | exact HR0.out | (with_reducible refine Kd.C_alloc ?_ _) | (with_reducible refine Kd.C_drewN ?_ _) | (with_reducible refine Kd.C_drew ?_))); (case side2 => exact HC0.out); intro w10 hb; replace HB := uB HB hb; (try clear hb)))
  go_ret
  exact ⟨eB, (bW HB)⟩

/-! ### spec_IsHistory: function 30 -/
def spec_IsHistory.f (k : Nat) (l0 : List (S26)) (l1 : List (S28)) : Option (Bool) := (spec_l19Good.f k l0 l1).bind fun t266 => (some t266)
theorem spec_IsHistory.mono : ∀ a0 a1 k, LeO (spec_IsHistory.f k a0 a1) (spec_IsHistory.f (k + 1) a0 a1) := by
 intro a0 a1 k
 unfold spec_IsHistory.f
 repeat' with_reducible first | apply spec_l19Good.mono | exact LeO.refl _ | exact LeO.none _ | refine LeO.ite ?_ ?_ | refine LeO.bind ?_ (fun _ => ?_)
set_option maxHeartbeats 8000000 in
set_option maxRecDepth 100000 in
theorem spec_IsHistory.calls (k : Nat) (A0 : Option Addr) (c0 : Nat) (l0 : List (S26)) (A1 : Option Addr) (c1 : Nat) (l1 : List (S28)) (r : Bool) (w : World) (hr0 : Kd.C k26 w A0 l0.length l0) (hc0 : l0.length ≤ c0) (hr1 : Kd.C k28 w A1 l1.length l1) (hc1 : l1.length ≤ c1) (h : spec_IsHistory.f k l0 l1 = some r) :
  Calls Try.prog 30 #[.slice A0 l0.length c0, .slice A1 l1.length c1] w fun e w' => e = .returned (.bool r) ∧ Below w.heap.size w w' := by
 have HR0 := Aside0.mk hr0
 have HC0 := Aside0.mk hc0
 clear hr0 hc0
 have HR1 := Aside0.mk hr1
 have HC1 := Aside0.mk hc1
 clear hr1 hc1
 have HB := Aside0.mk (Below.refl w.heap.size w)
 have H := h
 clear h
 unfold spec_IsHistory.f at H
 replace H := bA H
 obtain ⟨t266, A3, H⟩ := H
 obtain rfl := Option.some.inj H
 go_enter Try.func30, Try.ntmps30
 go_wp2_with (first | ((with_reducible refine gC 68 ?_); refine lA (some 7) Try.func68 (spec_l19Good.calls k _ _ l0 _ _ l1 t266 _ ?side1 ?side2 ?side3 ?side4 A3.out) ?_; (case side1 => repeat (first | exact HR0.out | (with_reducible refine Kd.C_alloc ?_ _) | (with_reducible refine Kd.C_drewN ?_ _) | (with_reducible refine Kd.C_drew ?_))); (case side2 => exact HC0.out); (case side3 => repeat (first | exact HR1.out | (with_reducible refine Kd.C_alloc ?_ _) | (with_reducible refine Kd.C_drewN ?_ _) | (with_reducible refine Kd.C_drew ?_))); (case side4 => exact HC1.out); intro w4 hb; replace HB := uB HB hb; (try clear hb)))
 go_ret
 exact ⟨eB, (bW HB)⟩

end Go.Proofs.Ytinelmmnajelaaa.QFnVersions
