/- Contracts of Go functions that FnDiffs reaches: the call computes what the plain function says. No condition. -/
import Derived.Test.YtinelmmnajelaaaQFnDiffsx0
import Derived.Test.YtinelmmnajelaaaQFnDiffsx1
import Derived.Test.YtinelmmnajelaaaQFnDiffsx6
import Derived.Test.YtinelmmnajelaaaQFnDiffsx12
namespace Go.Proofs.Ytinelmmnajelaaa.QFnDiffs
open Go.RowKit Go.Proofs.YtinelmmnajelaaaW.PrintWords Go.Proofs.YtinelmmnajelaaaW.PrintLast Go.Proofs.YtinelmmnajelaaaW.PrintMore
attribute [local go_sem] max2_int min2_int max_two min_two max_three min_three max_four min_four   -- for this text's walks alone
set_option linter.unusedVariables false
set_option linter.unusedSimpArgs false

attribute [local go_sem high] eqA26
/-! ### impl_EditsOn: function 36 -/
mutual
def impl_EditsOn.j0 : Nat → List (S28) → Int → Bool → Option (List Int × Bool)
 | 0, _, _, _ => none
 | k + 1, x1, x2, x19 => if x19 = true then (some (([] : List Int), false)) else (impl_EditsOn.l0 k x2 ([] : List Int) x1 (x1.length : Int) 0)
def impl_EditsOn.l0 : Nat → Int → List Int → List (S28) → Int → Int → Option (List Int × Bool)
 | 0, _, _, _, _, _ => none
 | k + 1, x2, x8, x20, x21, x22 => if x22 < x21 then (if 0 ≤ x22 then (if x22 < (x20.length : Int) then ((impl_touches.f ((rd_T28 x20 x22).f2.f0) ((rd_T28 x20 x22).f2.f1) ((rd_T28 x20 x22).f2.f2) ((rd_T28 x20 x22).f2.f3) ((rd_T28 x20 x22).f2.f4) x2).bind fun t302 => (if t302 = true then (if x8.length < 17592186044416 then (impl_EditsOn.l0 k x2 (x8 ++ [x22]) x20 x21 (wrap64 (x22 + 1))) else (none)) else ((impl_touches.f ((rd_T28 x20 x22).f3.f0) ((rd_T28 x20 x22).f3.f1) ((rd_T28 x20 x22).f3.f2) ((rd_T28 x20 x22).f3.f3) ((rd_T28 x20 x22).f3.f4) x2).bind fun t306 => (if t306 = true then (if x8.length < 17592186044416 then (impl_EditsOn.l0 k x2 (x8 ++ [x22]) x20 x21 (wrap64 (x22 + 1))) else (none)) else (impl_EditsOn.l0 k x2 x8 x20 x21 (wrap64 (x22 + 1))))))) else (none)) else (none)) else (some (x8, true))
end
def impl_EditsOn.f (k : Nat) (l0 : List (S26)) (l1 : List (S28)) (a2 : Int) : Option (List Int × Bool) := (impl_IsHistory.f k l0 l1).bind fun t298 => (if t298 = true then ((impl_isStation.f a2).bind fun t299 => (impl_EditsOn.j0 k l1 a2 (!t299))) else (impl_EditsOn.j0 k l1 a2 true))
theorem impl_EditsOn.mono_l : ∀ k, (∀ y0 y1 y2, LeO (impl_EditsOn.j0 k y0 y1 y2) (impl_EditsOn.j0 (k + 1) y0 y1 y2)) ∧ (∀ y0 y1 y2 y3 y4, LeO (impl_EditsOn.l0 k y0 y1 y2 y3 y4) (impl_EditsOn.l0 (k + 1) y0 y1 y2 y3 y4))
 | 0 => ⟨fun _ _ _ r h => by simp [impl_EditsOn.j0] at h, fun _ _ _ _ _ r h => by simp [impl_EditsOn.l0] at h⟩
 | k + 1 => by
  obtain ⟨ih0, ih1⟩ := impl_EditsOn.mono_l k
  refine ⟨?_, ?_⟩
  ·intro y0 y1 y2
   unfold impl_EditsOn.j0
   repeat' with_reducible first | apply ih0 | apply ih1 | apply impl_IsHistory.mono | exact LeO.refl _ | exact LeO.none _ | refine LeO.ite ?_ ?_ | refine LeO.bind ?_ (fun _ => ?_)
  ·intro y0 y1 y2 y3 y4
   unfold impl_EditsOn.l0
   repeat' with_reducible first | apply ih0 | apply ih1 | apply impl_IsHistory.mono | exact LeO.refl _ | exact LeO.none _ | refine LeO.ite ?_ ?_ | refine LeO.bind ?_ (fun _ => ?_)
theorem impl_EditsOn.mono : ∀ a0 a1 a2 k, LeO (impl_EditsOn.f k a0 a1 a2) (impl_EditsOn.f (k + 1) a0 a1 a2) := by
 intro a0 a1 a2 k
 obtain ⟨ih0, ih1⟩ := impl_EditsOn.mono_l k
 unfold impl_EditsOn.f
 repeat' with_reducible first | apply ih0 | apply ih1 | apply impl_IsHistory.mono | exact LeO.refl _ | exact LeO.none _ | refine LeO.ite ?_ ?_ | refine LeO.bind ?_ (fun _ => ?_)
set_option maxHeartbeats 8000000 in
set_option maxRecDepth 100000 in
theorem impl_EditsOn.calls (k : Nat) (A0 : Option Addr) (c0 : Nat) (l0 : List (S26)) (A1 : Option Addr) (c1 : Nat) (l1 : List (S28)) (a2 : Int) (r1 : List Int) (r2 : Bool) (w : World) (hr0 : Kd.C k26 w A0 l0.length l0) (hc0 : l0.length ≤ c0) (hr1 : Kd.C k28 w A1 l1.length l1) (hc1 : l1.length ≤ c1) (h : impl_EditsOn.f k l0 l1 a2 = some (r1, r2)) :
  Calls Try.prog 36 #[.slice A0 l0.length c0, .slice A1 l1.length c1, .int .i64 a2] w fun e w' => ∃ v0_ : Value, e = .returned (.tuple #[v0_, .bool r2]) ∧ Kd.R (Kd.int .i64) 3 w' w.heap.size (fun _ => True) v0_ r1 ∧ Below w.heap.size w w' := by
 have hu28 := Try.underlying28
 have hu26 := Try.underlying26
 have HR0 := Aside0.mk hr0
 have HC0 := Aside0.mk hc0
 clear hr0 hc0
 have HR1 := Aside0.mk hr1
 have HC1 := Aside0.mk hc1
 clear hr1 hc1
 have HB := Aside0.mk (Below.refl w.heap.size w)
 have H := h
 clear h
 unfold impl_EditsOn.f at H
 have HC4 := Aside0.mk H
 clear H
 go_enter Try.func36, Try.ntmps36
 go_upto_region 1 with (fail)
 go_cut [19] (fun v19 wc => ∃ (kq : Nat) (x19_3 : Bool), v19 = .bool x19_3 ∧ Aside0 (impl_EditsOn.j0 kq l1 a2 x19_3 = some (r1, r2)) ∧ Aside0 (kq ≤ k) ∧ Aside0 (Below w.heap.size w wc))
 case first =>
  have H := HC4.out
  clear HC4
  replace H := bA H
  obtain ⟨t298, A5, H⟩ := H
  rcases Bool.eq_false_or_eq_true t298 with rfl | rfl
  ·replace H := iT rfl H
   replace H := bA H
   obtain ⟨t299, A7, H⟩ := H
   have H' := Aside0.mk H
   clear H
   go_wp2_with (first | ((with_reducible refine gC 32 ?_); refine lA (some 13) Try.func32 (impl_IsHistory.calls k _ _ l0 _ _ l1 true _ ?side1 ?side2 ?side3 ?side4 A5.out) ?_; (case side1 => repeat (first | exact (Kd.C_below HR0.out HB.out) | (with_reducible refine Kd.C_alloc ?_ _) | (with_reducible refine Kd.C_drewN ?_ _) | (with_reducible refine Kd.C_drew ?_))); (case side2 => exact HC0.out); (case side3 => repeat (first | exact (Kd.C_below HR1.out HB.out) | (with_reducible refine Kd.C_alloc ?_ _) | (with_reducible refine Kd.C_drewN ?_ _) | (with_reducible refine Kd.C_drew ?_))); (case side4 => exact HC1.out); intro w8 hb; replace HB := uB HB hb; (try clear hb); (try clear hk)) | (go_at_call 75; (with_reducible refine (impl_isStation.calls a2 t299 _ A7.out).mono ?_); rintro e w' ⟨rfl, ⟨nd, rfl⟩⟩))
   go_meet
   case rel => exact ⟨_, (!t299), rB, H', leB, (aB HB)⟩
  ·replace H := iF (by decide) H
   have H' := Aside0.mk H
   clear H
   go_wp2_with (first | ((with_reducible refine gC 32 ?_); refine lA (some 13) Try.func32 (impl_IsHistory.calls k _ _ l0 _ _ l1 false _ ?side1 ?side2 ?side3 ?side4 A5.out) ?_; (case side1 => repeat (first | exact (Kd.C_below HR0.out HB.out) | (with_reducible refine Kd.C_alloc ?_ _) | (with_reducible refine Kd.C_drewN ?_ _) | (with_reducible refine Kd.C_drew ?_))); (case side2 => exact HC0.out); (case side3 => repeat (first | exact (Kd.C_below HR1.out HB.out) | (with_reducible refine Kd.C_alloc ?_ _) | (with_reducible refine Kd.C_drewN ?_ _) | (with_reducible refine Kd.C_drew ?_))); (case side4 => exact HC1.out); intro w9 hb; replace HB := uB HB hb; (try clear hb); (try clear hk)))
   go_meet
   case rel => exact ⟨_, (true), rB, H', leB, (aB HB)⟩
 case rest =>
  clear HC4
  try clear c1
  obtain ⟨kq, x19_3, rfl, HA, HJ3, HB⟩ := hcut
  cases kq with
  | zero => exact absurd HA.out (by simp [impl_EditsOn.j0])
  | succ kj3 =>
   have H := HA.out
   clear HA
   simp only [impl_EditsOn.j0] at H
   rcases Bool.eq_false_or_eq_true x19_3 with rfl | rfl
   ·replace H := iT rfl H
    simp only [Option.some.injEq, Prod.mk.injEq] at H
    obtain ⟨rfl, rfl⟩ := H
    go_wp2
    go_ret2
    exact ⟨_, eB, by first | exact Kd.R_nil _ _ _ _ _ | exact Kd.N_nil _ _ _ _ _ | exact Kd.V_nil _ _ _ _ _ | exact Kd.Q_nil _ _ _ _ _ | exact Kd.S_nil _ _ _ _ _, (bW HB)⟩
   ·replace H := iF (by decide) H
    have H' := Aside0.mk H
    clear H
    go_wp2
    go_loopg [8, 22] kj3 (fun kq v8 v22 w' => ∃ (x8_2 : List Int) (x22_2 : Int), v22 = .int .i64 x22_2 ∧ Aside0 (impl_EditsOn.l0 kq a2 x8_2 l1 (l1.length : Int) x22_2 = some (r1, r2)) ∧ Aside0 (kq ≤ kj3) ∧ Aside0 (Kd.R (Kd.int .i64) 3 w' w.heap.size (fun _ => True) v8 x8_2) ∧ Aside0 (Below w.heap.size w w'))
    case atStart => exact ⟨(([] : List Int)), (0), rB, H', ⟨Nat.le_refl _⟩, ⟨by first | exact Kd.R_nil _ _ _ _ _ | exact Kd.N_nil _ _ _ _ _ | exact Kd.V_nil _ _ _ _ _ | exact Kd.Q_nil _ _ _ _ _ | exact Kd.S_nil _ _ _ _ _⟩, (aB HB)⟩
    case round =>
     clear H'
     try clear c1
     obtain ⟨x8_2, x22_2, rfl, HA, HK2, HO_8, HB⟩ := hrel
     cases gk with
     | zero => exact absurd HA.out (by simp [impl_EditsOn.l0])
     | succ k2 =>
      have H := HA.out
      clear HA
      simp only [impl_EditsOn.l0] at H
      replace H := ifD H
      rcases H with ⟨H, -, c11b0⟩ | ⟨H, -, c11b0⟩
      ·by_cases c12 : 0 ≤ x22_2
       ·rw [if_pos c12] at H
        have c12b0 : decide (0 ≤ x22_2) = true := decide_eq_true c12
        clear c12
        by_cases c13 : x22_2 < (l1.length : Int)
        ·rw [if_pos c13] at H
         have c13b0 : decide (x22_2 < (l1.length : Int)) = true := decide_eq_true c13
         clear c13
         replace H := bA H
         obtain ⟨t302, A14, H⟩ := H
         rcases Bool.eq_false_or_eq_true t302 with rfl | rfl
         ·replace H := iT rfl H
          by_cases c16 : x8_2.length < 17592186044416
          ·rw [if_pos c16] at H
           have LMc16 := Aside0.mk c16
           clear c16
           obtain ⟨y303, hy303⟩ : ∃ y_ : List Int, y_ = (x8_2 ++ [x22_2]) := ⟨_, rfl⟩
           replace H : (impl_EditsOn.l0 k2 a2 y303 l1 (l1.length : Int) (wrap64 (x22_2 + 1))) = some (r1, r2) := by first | (rw [hy303]; with_reducible exact H) | (have H2_ := (Option.bind_some _ _).symm.trans H; rw [hy303]; with_reducible exact H2_) | (have H2_ := (Option.bind_some _ _).symm.trans H; with_reducible exact H2_) | with_reducible exact H | (rw [hy303]; exact H) | exact H
           have Ny303 := Aside0.mk hy303
           clear hy303
           have H' := Aside0.mk H
           clear H
           have p300 : 0 ≤ (x22_2 : Int) := of_decide_eq_true asmB
           have q300 : x22_2 < (l1.length : Int) := of_decide_eq_true asmB
           obtain ⟨ad300, e300, hx300_0, hx300_1, hx300_2, hx300_3, hx300_4, hx300_5, hx300_6, hx300_7, hx300_8, hx300_9, hx300_10, hx300_11⟩ := at_T28 HR1.out x22_2 p300 q300
           cases e300
           replace hx300_0 := bx HB.out hx300_0
           replace hx300_1 := bx HB.out hx300_1
           replace hx300_2 := bx HB.out hx300_2
           replace hx300_3 := bx HB.out hx300_3
           replace hx300_4 := bx HB.out hx300_4
           replace hx300_5 := bx HB.out hx300_5
           replace hx300_6 := bx HB.out hx300_6
           replace hx300_7 := bx HB.out hx300_7
           replace hx300_8 := bx HB.out hx300_8
           replace hx300_9 := bx HB.out hx300_9
           replace hx300_10 := bx HB.out hx300_10
           replace hx300_11 := bx HB.out hx300_11
           replace p300 := eq_true p300
           replace q300 := eq_true q300
           go_wp2_with (first | ((with_reducible refine gD 10 ?_); refine bxE 10 28 #[.int .i64 0, .int .i64 0, .int .i64 0, .int .i64 0, .int .i64 0, .int .i64 0, .int .i64 0, .int .i64 0, .int .i64 0, .int .i64 0, .int .i64 0, .int .i64 0] fun gb301 w17 hg hbox hb => ?_; have BK301 := Aside0.mk hbox; have GE301 := gB HB hg; replace HO_8 := uR HO_8 hb; replace HB := uB HB hb; clear hb hbox hg; have ⟨hcz18_0, hcz18_1, hcz18_2, hcz18_3, hcz18_4, hcz18_5, hcz18_6, hcz18_7, hcz18_8, hcz18_9, hcz18_10, hcz18_11, hfz18_0⟩ := cz12 BK301) | ((with_reducible refine gC 76 ?_); refine lA (some 30) Try.func76 (impl_touches.calls ((rd_T28 l1 x22_2).f2.f0) ((rd_T28 l1 x22_2).f2.f1) ((rd_T28 l1 x22_2).f2.f2) ((rd_T28 l1 x22_2).f2.f3) ((rd_T28 l1 x22_2).f2.f4) a2 true _ A14.out) ?_; intro w19 hb; replace HO_8 := Aside0.mk (Kd.R_below (by (with_reducible repeat (first | apply Kd.R_alloc | apply Kd.R_drewN | apply Kd.R_drew)); exact (Kd.R_mono (Kd.R_far (p := ⟨gb301, 11, none⟩) (Kd.R_far (p := ⟨gb301, 10, none⟩) (Kd.R_far (p := ⟨gb301, 9, none⟩) (Kd.R_far (p := ⟨gb301, 8, none⟩) (Kd.R_far (p := ⟨gb301, 7, none⟩) (Kd.R_far (p := ⟨gb301, 6, none⟩) (Kd.R_far (p := ⟨gb301, 5, none⟩) (Kd.R_far (p := ⟨gb301, 4, none⟩) (Kd.R_far (p := ⟨gb301, 3, none⟩) (Kd.R_far (p := ⟨gb301, 2, none⟩) (Kd.R_far (p := ⟨gb301, 1, none⟩) (Kd.R_far (p := ⟨gb301, 0, none⟩) (Kd.R_types HO_8.out BK301.out (by decide)) (fun _ hk => hk.2) (.int .i64 ((rd_T28 l1 x22_2).f0))) (fun _ hk => hk.2) (.int .i64 ((rd_T28 l1 x22_2).f1))) (fun _ hk => hk.2) (.int .i64 ((rd_T28 l1 x22_2).f2.f0))) (fun _ hk => hk.2) (.int .i64 ((rd_T28 l1 x22_2).f2.f1))) (fun _ hk => hk.2) (.int .i64 ((rd_T28 l1 x22_2).f2.f2))) (fun _ hk => hk.2) (.int .i64 ((rd_T28 l1 x22_2).f2.f3))) (fun _ hk => hk.2) (.int .i64 ((rd_T28 l1 x22_2).f2.f4))) (fun _ hk => hk.2) (.int .i64 ((rd_T28 l1 x22_2).f3.f0))) (fun _ hk => hk.2) (.int .i64 ((rd_T28 l1 x22_2).f3.f1))) (fun _ hk => hk.2) (.int .i64 ((rd_T28 l1 x22_2).f3.f2))) (fun _ hk => hk.2) (.int .i64 ((rd_T28 l1 x22_2).f3.f3))) (fun _ hk => hk.2) (.int .i64 ((rd_T28 l1 x22_2).f3.f4))) (fun _ h_ => h_.1))) hb); replace BK301 := uQ BK301 hb #[.int .i64 ((rd_T28 l1 x22_2).f0), .int .i64 ((rd_T28 l1 x22_2).f1), .int .i64 ((rd_T28 l1 x22_2).f2.f0), .int .i64 ((rd_T28 l1 x22_2).f2.f1), .int .i64 ((rd_T28 l1 x22_2).f2.f2), .int .i64 ((rd_T28 l1 x22_2).f2.f3), .int .i64 ((rd_T28 l1 x22_2).f2.f4), .int .i64 ((rd_T28 l1 x22_2).f3.f0), .int .i64 ((rd_T28 l1 x22_2).f3.f1), .int .i64 ((rd_T28 l1 x22_2).f3.f2), .int .i64 ((rd_T28 l1 x22_2).f3.f3), .int .i64 ((rd_T28 l1 x22_2).f3.f4)]; replace HB := uB HB hb; (try clear hb); (try clear hk)) | ((with_reducible refine gate_builtin (b := .append) (xs := #[.tmp 37, .tmp 39]) rfl ?_); at_builtin; refine Kd.R_append (Kd.int .i64) (w0 := w) w.heap.size rfl (.tmp 37) (.tmp 39) 56 3 (.int .i64 0) 8 rfl Try.underlying56 info3 rfl (by decide) (by omega) u8 x8_2 x22_2 [.int .i64 x22_2] (fun _ => True) (fun _ => False) rfl rfl ?aP (fun _ hk => hk.elim) ?aF ?aO ?aB ?aS ?aL ?_; (case aP => exact rfl); (case aB => exact (bW HB)); (case aF => exact (fun _ _ => trivial)); (case aO => exact (upR HO_8.out)); (case aS => exact (below_size (bW HB))); (case aL => have := LMc16.out; omega); intro v304 w20 ho hb hg hat; rw [← Ny303.out] at ho; have HO305 := Aside0.mk (ho); replace BK301 := Aside0.mk (blk_grown (g := gb301) (o := .cells #[.int .i64 ((rd_T28 l1 x22_2).f0), .int .i64 ((rd_T28 l1 x22_2).f1), .int .i64 ((rd_T28 l1 x22_2).f2.f0), .int .i64 ((rd_T28 l1 x22_2).f2.f1), .int .i64 ((rd_T28 l1 x22_2).f2.f2), .int .i64 ((rd_T28 l1 x22_2).f2.f3), .int .i64 ((rd_T28 l1 x22_2).f2.f4), .int .i64 ((rd_T28 l1 x22_2).f3.f0), .int .i64 ((rd_T28 l1 x22_2).f3.f1), .int .i64 ((rd_T28 l1 x22_2).f3.f2), .int .i64 ((rd_T28 l1 x22_2).f3.f3), .int .i64 ((rd_T28 l1 x22_2).f3.f4)] 28 (0, 0)) (upK BK301.out) hg (Kd.R_ne HO_8.out BK301.out (by decide))); replace HB := Aside0.mk (hb); clear HO_8; clear ho hb hg hat))
           go_roundg k2
           case measure => have := HJ3.out; have := HK2.out; omega
           case rel => exact ⟨(y303), (wrap64 (x22_2 + 1)), rB, H', ⟨by have := HJ3.out; have := HK2.out; omega⟩, ⟨upR HO305.out⟩, (aB HB)⟩
          ·rw [if_neg c16] at H
           exact absurd H (by simp)
         ·replace H := iF (by decide) H
          replace H := bA H
          obtain ⟨t306, A21, H⟩ := H
          rcases Bool.eq_false_or_eq_true t306 with rfl | rfl
          ·replace H := iT rfl H
           by_cases c23 : x8_2.length < 17592186044416
           ·rw [if_pos c23] at H
            have LMc23 := Aside0.mk c23
            clear c23
            obtain ⟨y307, hy307⟩ : ∃ y_ : List Int, y_ = (x8_2 ++ [x22_2]) := ⟨_, rfl⟩
            replace H : (impl_EditsOn.l0 k2 a2 y307 l1 (l1.length : Int) (wrap64 (x22_2 + 1))) = some (r1, r2) := by first | (rw [hy307]; with_reducible exact H) | (have H2_ := (Option.bind_some _ _).symm.trans H; rw [hy307]; with_reducible exact H2_) | (have H2_ := (Option.bind_some _ _).symm.trans H; with_reducible exact H2_) | with_reducible exact H | (rw [hy307]; exact H) | exact H
            have Ny307 := Aside0.mk hy307
            clear hy307
            have H' := Aside0.mk H
            clear H
            have p300 : 0 ≤ (x22_2 : Int) := of_decide_eq_true asmB
            have q300 : x22_2 < (l1.length : Int) := of_decide_eq_true asmB
            obtain ⟨ad300, e300, hx300_0, hx300_1, hx300_2, hx300_3, hx300_4, hx300_5, hx300_6, hx300_7, hx300_8, hx300_9, hx300_10, hx300_11⟩ := at_T28 HR1.out x22_2 p300 q300
            cases e300
            replace hx300_0 := bx HB.out hx300_0
            replace hx300_1 := bx HB.out hx300_1
            replace hx300_2 := bx HB.out hx300_2
            replace hx300_3 := bx HB.out hx300_3
            replace hx300_4 := bx HB.out hx300_4
            replace hx300_5 := bx HB.out hx300_5
            replace hx300_6 := bx HB.out hx300_6
            replace hx300_7 := bx HB.out hx300_7
            replace hx300_8 := bx HB.out hx300_8
            replace hx300_9 := bx HB.out hx300_9
            replace hx300_10 := bx HB.out hx300_10
            replace hx300_11 := bx HB.out hx300_11
            replace p300 := eq_true p300
            replace q300 := eq_true q300
            go_wp2_with (first | ((with_reducible refine gD 10 ?_); refine bxE 10 28 #[.int .i64 0, .int .i64 0, .int .i64 0, .int .i64 0, .int .i64 0, .int .i64 0, .int .i64 0, .int .i64 0, .int .i64 0, .int .i64 0, .int .i64 0, .int .i64 0] fun gb301 w24 hg hbox hb => ?_; have BK301 := Aside0.mk hbox; have GE301 := gB HB hg; replace HO_8 := uR HO_8 hb; replace HB := uB HB hb; clear hb hbox hg; have ⟨hcz25_0, hcz25_1, hcz25_2, hcz25_3, hcz25_4, hcz25_5, hcz25_6, hcz25_7, hcz25_8, hcz25_9, hcz25_10, hcz25_11, hfz25_0⟩ := cz12 BK301) | ((with_reducible refine gC 76 ?_); refine lA (some 30) Try.func76 (impl_touches.calls ((rd_T28 l1 x22_2).f2.f0) ((rd_T28 l1 x22_2).f2.f1) ((rd_T28 l1 x22_2).f2.f2) ((rd_T28 l1 x22_2).f2.f3) ((rd_T28 l1 x22_2).f2.f4) a2 false _ A14.out) ?_; intro w26 hb; replace HO_8 := Aside0.mk (Kd.R_below (by (with_reducible repeat (first | apply Kd.R_alloc | apply Kd.R_drewN | apply Kd.R_drew)); exact (Kd.R_mono (Kd.R_far (p := ⟨gb301, 11, none⟩) (Kd.R_far (p := ⟨gb301, 10, none⟩) (Kd.R_far (p := ⟨gb301, 9, none⟩) (Kd.R_far (p := ⟨gb301, 8, none⟩) (Kd.R_far (p := ⟨gb301, 7, none⟩) (Kd.R_far (p := ⟨gb301, 6, none⟩) (Kd.R_far (p := ⟨gb301, 5, none⟩) (Kd.R_far (p := ⟨gb301, 4, none⟩) (Kd.R_far (p := ⟨gb301, 3, none⟩) (Kd.R_far (p := ⟨gb301, 2, none⟩) (Kd.R_far (p := ⟨gb301, 1, none⟩) (Kd.R_far (p := ⟨gb301, 0, none⟩) (Kd.R_types HO_8.out BK301.out (by decide)) (fun _ hk => hk.2) (.int .i64 ((rd_T28 l1 x22_2).f0))) (fun _ hk => hk.2) (.int .i64 ((rd_T28 l1 x22_2).f1))) (fun _ hk => hk.2) (.int .i64 ((rd_T28 l1 x22_2).f2.f0))) (fun _ hk => hk.2) (.int .i64 ((rd_T28 l1 x22_2).f2.f1))) (fun _ hk => hk.2) (.int .i64 ((rd_T28 l1 x22_2).f2.f2))) (fun _ hk => hk.2) (.int .i64 ((rd_T28 l1 x22_2).f2.f3))) (fun _ hk => hk.2) (.int .i64 ((rd_T28 l1 x22_2).f2.f4))) (fun _ hk => hk.2) (.int .i64 ((rd_T28 l1 x22_2).f3.f0))) (fun _ hk => hk.2) (.int .i64 ((rd_T28 l1 x22_2).f3.f1))) (fun _ hk => hk.2) (.int .i64 ((rd_T28 l1 x22_2).f3.f2))) (fun _ hk => hk.2) (.int .i64 ((rd_T28 l1 x22_2).f3.f3))) (fun _ hk => hk.2) (.int .i64 ((rd_T28 l1 x22_2).f3.f4))) (fun _ h_ => h_.1))) hb); replace BK301 := uQ BK301 hb #[.int .i64 ((rd_T28 l1 x22_2).f0), .int .i64 ((rd_T28 l1 x22_2).f1), .int .i64 ((rd_T28 l1 x22_2).f2.f0), .int .i64 ((rd_T28 l1 x22_2).f2.f1), .int .i64 ((rd_T28 l1 x22_2).f2.f2), .int .i64 ((rd_T28 l1 x22_2).f2.f3), .int .i64 ((rd_T28 l1 x22_2).f2.f4), .int .i64 ((rd_T28 l1 x22_2).f3.f0), .int .i64 ((rd_T28 l1 x22_2).f3.f1), .int .i64 ((rd_T28 l1 x22_2).f3.f2), .int .i64 ((rd_T28 l1 x22_2).f3.f3), .int .i64 ((rd_T28 l1 x22_2).f3.f4)]; replace HB := uB HB hb; (try clear hb); (try clear hk); have ⟨hcz27_0, hcz27_1, hcz27_2, hcz27_3, hcz27_4, hcz27_5, hcz27_6, hcz27_7, hcz27_8, hcz27_9, hcz27_10, hcz27_11, hfz27_0⟩ := cz12 BK301) | (go_at_call 76; (with_reducible refine (impl_touches.calls ((rd_T28 l1 x22_2).f3.f0) ((rd_T28 l1 x22_2).f3.f1) ((rd_T28 l1 x22_2).f3.f2) ((rd_T28 l1 x22_2).f3.f3) ((rd_T28 l1 x22_2).f3.f4) a2 true _ A21.out).mono ?_); rintro e w28 ⟨rfl, hb⟩; replace HO_8 := uR HO_8 hb; replace BK301 := uK BK301 hb; replace HB := uB HB hb; (try clear hb); (try clear hk)) | ((with_reducible refine gate_builtin (b := .append) (xs := #[.tmp 37, .tmp 39]) rfl ?_); at_builtin; refine Kd.R_append (Kd.int .i64) (w0 := w) w.heap.size rfl (.tmp 37) (.tmp 39) 56 3 (.int .i64 0) 8 rfl Try.underlying56 info3 rfl (by decide) (by omega) u8 x8_2 x22_2 [.int .i64 x22_2] (fun _ => True) (fun _ => False) rfl rfl ?aP (fun _ hk => hk.elim) ?aF ?aO ?aB ?aS ?aL ?_; (case aP => exact rfl); (case aB => exact (bW HB)); (case aF => exact (fun _ _ => trivial)); (case aO => exact (upR HO_8.out)); (case aS => exact (below_size (bW HB))); (case aL => have := LMc23.out; omega); intro v308 w29 ho hb hg hat; rw [← Ny307.out] at ho; have HO309 := Aside0.mk (ho); replace BK301 := Aside0.mk (blk_grown (g := gb301) (o := .cells #[.int .i64 ((rd_T28 l1 x22_2).f0), .int .i64 ((rd_T28 l1 x22_2).f1), .int .i64 ((rd_T28 l1 x22_2).f2.f0), .int .i64 ((rd_T28 l1 x22_2).f2.f1), .int .i64 ((rd_T28 l1 x22_2).f2.f2), .int .i64 ((rd_T28 l1 x22_2).f2.f3), .int .i64 ((rd_T28 l1 x22_2).f2.f4), .int .i64 ((rd_T28 l1 x22_2).f3.f0), .int .i64 ((rd_T28 l1 x22_2).f3.f1), .int .i64 ((rd_T28 l1 x22_2).f3.f2), .int .i64 ((rd_T28 l1 x22_2).f3.f3), .int .i64 ((rd_T28 l1 x22_2).f3.f4)] 28 (0, 0)) (upK BK301.out) hg (Kd.R_ne HO_8.out BK301.out (by decide))); replace HB := Aside0.mk (hb); clear HO_8; clear ho hb hg hat))
            go_roundg k2
            case measure => have := HJ3.out; have := HK2.out; omega
            case rel => exact ⟨(y307), (wrap64 (x22_2 + 1)), rB, H', ⟨by have := HJ3.out; have := HK2.out; omega⟩, ⟨upR HO309.out⟩, (aB HB)⟩
           ·rw [if_neg c23] at H
            exact absurd H (by simp)
          ·replace H := iF (by decide) H
           have H' := Aside0.mk H
           clear H
           have p300 : 0 ≤ (x22_2 : Int) := of_decide_eq_true asmB
           have q300 : x22_2 < (l1.length : Int) := of_decide_eq_true asmB
           obtain ⟨ad300, e300, hx300_0, hx300_1, hx300_2, hx300_3, hx300_4, hx300_5, hx300_6, hx300_7, hx300_8, hx300_9, hx300_10, hx300_11⟩ := at_T28 HR1.out x22_2 p300 q300
           cases e300
           replace hx300_0 := bx HB.out hx300_0
           replace hx300_1 := bx HB.out hx300_1
           replace hx300_2 := bx HB.out hx300_2
           replace hx300_3 := bx HB.out hx300_3
           replace hx300_4 := bx HB.out hx300_4
           replace hx300_5 := bx HB.out hx300_5
           replace hx300_6 := bx HB.out hx300_6
           replace hx300_7 := bx HB.out hx300_7
           replace hx300_8 := bx HB.out hx300_8
           replace hx300_9 := bx HB.out hx300_9
           replace hx300_10 := bx HB.out hx300_10
           replace hx300_11 := bx HB.out hx300_11
           replace p300 := eq_true p300
           replace q300 := eq_true q300
           go_wp2_with (first | ((with_reducible refine gD 10 ?_); refine bxE 10 28 #[.int .i64 0, .int .i64 0, .int .i64 0, .int .i64 0, .int .i64 0, .int .i64 0, .int .i64 0, .int .i64 0, .int .i64 0, .int .i64 0, .int .i64 0, .int .i64 0] fun gb301 w30 hg hbox hb => ?_; have BK301 := Aside0.mk hbox; have GE301 := gB HB hg; replace HO_8 := uR HO_8 hb; replace HB := uB HB hb; clear hb hbox hg; have ⟨hcz31_0, hcz31_1, hcz31_2, hcz31_3, hcz31_4, hcz31_5, hcz31_6, hcz31_7, hcz31_8, hcz31_9, hcz31_10, hcz31_11, hfz31_0⟩ := cz12 BK301) | ((with_reducible refine gC 76 ?_); refine lA (some 30) Try.func76 (impl_touches.calls ((rd_T28 l1 x22_2).f2.f0) ((rd_T28 l1 x22_2).f2.f1) ((rd_T28 l1 x22_2).f2.f2) ((rd_T28 l1 x22_2).f2.f3) ((rd_T28 l1 x22_2).f2.f4) a2 false _ A14.out) ?_; intro w32 hb; replace HO_8 := Aside0.mk (Kd.R_below (by (with_reducible repeat (first | apply Kd.R_alloc | apply Kd.R_drewN | apply Kd.R_drew)); exact (Kd.R_mono (Kd.R_far (p := ⟨gb301, 11, none⟩) (Kd.R_far (p := ⟨gb301, 10, none⟩) (Kd.R_far (p := ⟨gb301, 9, none⟩) (Kd.R_far (p := ⟨gb301, 8, none⟩) (Kd.R_far (p := ⟨gb301, 7, none⟩) (Kd.R_far (p := ⟨gb301, 6, none⟩) (Kd.R_far (p := ⟨gb301, 5, none⟩) (Kd.R_far (p := ⟨gb301, 4, none⟩) (Kd.R_far (p := ⟨gb301, 3, none⟩) (Kd.R_far (p := ⟨gb301, 2, none⟩) (Kd.R_far (p := ⟨gb301, 1, none⟩) (Kd.R_far (p := ⟨gb301, 0, none⟩) (Kd.R_types HO_8.out BK301.out (by decide)) (fun _ hk => hk.2) (.int .i64 ((rd_T28 l1 x22_2).f0))) (fun _ hk => hk.2) (.int .i64 ((rd_T28 l1 x22_2).f1))) (fun _ hk => hk.2) (.int .i64 ((rd_T28 l1 x22_2).f2.f0))) (fun _ hk => hk.2) (.int .i64 ((rd_T28 l1 x22_2).f2.f1))) (fun _ hk => hk.2) (.int .i64 ((rd_T28 l1 x22_2).f2.f2))) (fun _ hk => hk.2) (.int .i64 ((rd_T28 l1 x22_2).f2.f3))) (fun _ hk => hk.2) (.int .i64 ((rd_T28 l1 x22_2).f2.f4))) (fun _ hk => hk.2) (.int .i64 ((rd_T28 l1 x22_2).f3.f0))) (fun _ hk => hk.2) (.int .i64 ((rd_T28 l1 x22_2).f3.f1))) (fun _ hk => hk.2) (.int .i64 ((rd_T28 l1 x22_2).f3.f2))) (fun _ hk => hk.2) (.int .i64 ((rd_T28 l1 x22_2).f3.f3))) (fun _ hk => hk.2) (.int .i64 ((rd_T28 l1 x22_2).f3.f4))) (fun _ h_ => h_.1))) hb); replace BK301 := uQ BK301 hb #[.int .i64 ((rd_T28 l1 x22_2).f0), .int .i64 ((rd_T28 l1 x22_2).f1), .int .i64 ((rd_T28 l1 x22_2).f2.f0), .int .i64 ((rd_T28 l1 x22_2).f2.f1), .int .i64 ((rd_T28 l1 x22_2).f2.f2), .int .i64 ((rd_T28 l1 x22_2).f2.f3), .int .i64 ((rd_T28 l1 x22_2).f2.f4), .int .i64 ((rd_T28 l1 x22_2).f3.f0), .int .i64 ((rd_T28 l1 x22_2).f3.f1), .int .i64 ((rd_T28 l1 x22_2).f3.f2), .int .i64 ((rd_T28 l1 x22_2).f3.f3), .int .i64 ((rd_T28 l1 x22_2).f3.f4)]; replace HB := uB HB hb; (try clear hb); (try clear hk); have ⟨hcz33_0, hcz33_1, hcz33_2, hcz33_3, hcz33_4, hcz33_5, hcz33_6, hcz33_7, hcz33_8, hcz33_9, hcz33_10, hcz33_11, hfz33_0⟩ := cz12 BK301) | (go_at_call 76; (with_reducible refine (impl_touches.calls ((rd_T28 l1 x22_2).f3.f0) ((rd_T28 l1 x22_2).f3.f1) ((rd_T28 l1 x22_2).f3.f2) ((rd_T28 l1 x22_2).f3.f3) ((rd_T28 l1 x22_2).f3.f4) a2 false _ A21.out).mono ?_); rintro e w34 ⟨rfl, hb⟩; replace HO_8 := uR HO_8 hb; replace BK301 := uK BK301 hb; replace HB := uB HB hb; (try clear hb); (try clear hk)))
           go_roundg k2
           case measure => have := HJ3.out; have := HK2.out; omega
           case rel => exact ⟨(x8_2), (wrap64 (x22_2 + 1)), rB, H', ⟨by have := HJ3.out; have := HK2.out; omega⟩, ⟨upR HO_8.out⟩, (aB HB)⟩
        ·rw [if_neg c13] at H
         exact absurd H (by simp)
       ·rw [if_neg c12] at H
        exact absurd H (by simp)
      ·simp only [Option.some.injEq, Prod.mk.injEq] at H
       obtain ⟨rfl, rfl⟩ := H
       go_wp2
       go_ret2
       exact ⟨_, eB, upR HO_8.out, (bW HB)⟩

/-! ### spec_l19Same: function 77 -/
def spec_l19Same.l0 : Nat → List (S26) → List (S26) → Int → Option (Bool)
 | 0, _, _, _ => none
 | k + 1, x0, x1, x5 => if x5 < (x0.length : Int) then (if 0 ≤ x5 then (if x5 < (x1.length : Int) then (if (!(((rd_T26 x0 x5).f0) == ((rd_T26 x1 x5).f0)) || (!(((rd_T26 x0 x5).f1) == ((rd_T26 x1 x5).f1)) || (!(((rd_T26 x0 x5).f2) == ((rd_T26 x1 x5).f2)) || (!(((rd_T26 x0 x5).f3) == ((rd_T26 x1 x5).f3)) || (!(((rd_T26 x0 x5).f4) == ((rd_T26 x1 x5).f4))))))) = true then (some false) else (spec_l19Same.l0 k x0 x1 (wrap64 (x5 + 1)))) else (none)) else (none)) else (some true)
def spec_l19Same.f (k : Nat) (l0 : List (S26)) (l1 : List (S26)) : Option (Bool) := if (l0.length : Int) = (l1.length : Int) then (spec_l19Same.l0 k l0 l1 0) else (some false)
theorem spec_l19Same.mono_l : ∀ k, (∀ y0 y1 y2, LeO (spec_l19Same.l0 k y0 y1 y2) (spec_l19Same.l0 (k + 1) y0 y1 y2))
 | 0 => fun _ _ _ r h => by simp [spec_l19Same.l0] at h
 | k + 1 => by
  have ih0 := spec_l19Same.mono_l k
  ·intro y0 y1 y2
   unfold spec_l19Same.l0
   repeat' with_reducible first | apply ih0 | exact LeO.refl _ | exact LeO.none _ | refine LeO.ite ?_ ?_ | refine LeO.bind ?_ (fun _ => ?_)
theorem spec_l19Same.mono : ∀ a0 a1 k, LeO (spec_l19Same.f k a0 a1) (spec_l19Same.f (k + 1) a0 a1) := by
 intro a0 a1 k
 have ih0 := spec_l19Same.mono_l k
 unfold spec_l19Same.f
 repeat' with_reducible first | apply ih0 | exact LeO.refl _ | exact LeO.none _ | refine LeO.ite ?_ ?_ | refine LeO.bind ?_ (fun _ => ?_)
set_option maxHeartbeats 8000000 in
set_option maxRecDepth 100000 in
theorem spec_l19Same.calls (k : Nat) (A0 : Option Addr) (c0 : Nat) (l0 : List (S26)) (A1 : Option Addr) (c1 : Nat) (l1 : List (S26)) (r : Bool) (w : World) (hr0 : Kd.C k26 w A0 l0.length l0) (hc0 : l0.length ≤ c0) (hr1 : Kd.C k26 w A1 l1.length l1) (hc1 : l1.length ≤ c1) (h : spec_l19Same.f k l0 l1 = some r) :
  Calls Try.prog 77 #[.slice A0 l0.length c0, .slice A1 l1.length c1] w fun e w' => e = .returned (.bool r) ∧ Drawn0 w w' := by
 have hu26 := Try.underlying26
 have HR0 := Aside0.mk hr0
 have HC0 := Aside0.mk hc0
 clear hr0 hc0
 have HR1 := Aside0.mk hr1
 have HC1 := Aside0.mk hc1
 clear hr1 hc1
 have H := h
 clear h
 unfold spec_l19Same.f at H
 replace H := ifI H
 rcases H with ⟨H, c3, c3b0, c3b1⟩ | ⟨H, c3, c3b0, c3b1⟩
 ·have c3b2 : (l0.length == l1.length) = true := by first | simpa using c3 | (simp at c3 ⊢; omega)
  clear c3
  have H' := Aside0.mk H
  clear H
  go_enter Try.func77, Try.ntmps77
  go_wp2
  repeat (go_quiet (fail); try go_wp2)
  go_loopg [5] k (fun kq v5 w' => ∃ (x5_1 : Int), v5 = .int .i64 x5_1 ∧ Aside0 (spec_l19Same.l0 kq l0 l1 x5_1 = some r) ∧ Aside0 (kq ≤ k) ∧ Drawn0 w w')
  case atStart => exact ⟨(0), rB, H', ⟨Nat.le_refl _⟩, by repeat (first | exact Drawn0.refl _ | apply Drawn0.step)⟩
  case round =>
   clear H'
   try clear c1
   try clear c3
   try clear c3b0
   try clear c3b1
   try clear c3b2
   obtain ⟨x5_1, rfl, HA, HK1, ⟨m1, rfl⟩⟩ := hrel
   cases gk with
   | zero => exact absurd HA.out (by simp [spec_l19Same.l0])
   | succ k1 =>
    have H := HA.out
    clear HA
    simp only [spec_l19Same.l0] at H
    replace H := ifD H
    rcases H with ⟨H, -, c4b0⟩ | ⟨H, -, c4b0⟩
    ·by_cases c5 : 0 ≤ x5_1
     ·rw [if_pos c5] at H
      have c5b0 : decide (0 ≤ x5_1) = true := decide_eq_true c5
      clear c5
      by_cases c6 : x5_1 < (l1.length : Int)
      ·rw [if_pos c6] at H
       have c6b0 : decide (x5_1 < (l1.length : Int)) = true := decide_eq_true c6
       clear c6
       by_cases c7 : (!(((rd_T26 l0 x5_1).f0) == ((rd_T26 l1 x5_1).f0)) || (!(((rd_T26 l0 x5_1).f1) == ((rd_T26 l1 x5_1).f1)) || (!(((rd_T26 l0 x5_1).f2) == ((rd_T26 l1 x5_1).f2)) || (!(((rd_T26 l0 x5_1).f3) == ((rd_T26 l1 x5_1).f3)) || (!(((rd_T26 l0 x5_1).f4) == ((rd_T26 l1 x5_1).f4))))))) = true
       ·rw [if_pos c7] at H
        have c7b0 : (!(((rd_T26 l0 x5_1).f0) == ((rd_T26 l1 x5_1).f0)) || (!(((rd_T26 l0 x5_1).f1) == ((rd_T26 l1 x5_1).f1)) || (!(((rd_T26 l0 x5_1).f2) == ((rd_T26 l1 x5_1).f2)) || (!(((rd_T26 l0 x5_1).f3) == ((rd_T26 l1 x5_1).f3)) || (!(((rd_T26 l0 x5_1).f4) == ((rd_T26 l1 x5_1).f4))))))) = true := c7
        clear c7
        obtain rfl := Option.some.inj H
        have p310 : 0 ≤ (x5_1 : Int) := of_decide_eq_true asmB
        have q310 : x5_1 < (l0.length : Int) := of_decide_eq_true asmB
        obtain ⟨ad310, e310, hx310_0, hx310_1, hx310_2, hx310_3, hx310_4⟩ := at_T26 HR0.out x5_1 p310 q310
        cases e310
        replace p310 := eq_true p310
        replace q310 := eq_true q310
        have p311 : 0 ≤ (x5_1 : Int) := of_decide_eq_true asmB
        have q311 : x5_1 < (l1.length : Int) := of_decide_eq_true asmB
        obtain ⟨ad311, e311, hx311_0, hx311_1, hx311_2, hx311_3, hx311_4⟩ := at_T26 HR1.out x5_1 p311 q311
        cases e311
        replace p311 := eq_true p311
        replace q311 := eq_true q311
        go_wp2
        repeat (go_quiet (fail); try go_wp2)
        go_ret
        exact ⟨rB, by repeat (first | exact Drawn0.refl _ | apply Drawn0.step)⟩
       ·rw [if_neg c7] at H
        have c7b0 : (!(((rd_T26 l0 x5_1).f0) == ((rd_T26 l1 x5_1).f0)) || (!(((rd_T26 l0 x5_1).f1) == ((rd_T26 l1 x5_1).f1)) || (!(((rd_T26 l0 x5_1).f2) == ((rd_T26 l1 x5_1).f2)) || (!(((rd_T26 l0 x5_1).f3) == ((rd_T26 l1 x5_1).f3)) || (!(((rd_T26 l0 x5_1).f4) == ((rd_T26 l1 x5_1).f4))))))) = false := by simpa using c7
        clear c7
        have H' := Aside0.mk H
        clear H
        have p310 : 0 ≤ (x5_1 : Int) := of_decide_eq_true asmB
        have q310 : x5_1 < (l0.length : Int) := of_decide_eq_true asmB
        obtain ⟨ad310, e310, hx310_0, hx310_1, hx310_2, hx310_3, hx310_4⟩ := at_T26 HR0.out x5_1 p310 q310
        cases e310
        replace p310 := eq_true p310
        replace q310 := eq_true q310
        have p311 : 0 ≤ (x5_1 : Int) := of_decide_eq_true asmB
        have q311 : x5_1 < (l1.length : Int) := of_decide_eq_true asmB
        obtain ⟨ad311, e311, hx311_0, hx311_1, hx311_2, hx311_3, hx311_4⟩ := at_T26 HR1.out x5_1 p311 q311
        cases e311
        replace p311 := eq_true p311
        replace q311 := eq_true q311
        go_wp2
        repeat (go_quiet (fail); try go_wp2)
        go_roundg k1
        case measure => have := HK1.out; omega
        case rel => exact ⟨(wrap64 (x5_1 + 1)), rB, H', ⟨by have := HK1.out; omega⟩, by repeat (first | exact Drawn0.refl _ | apply Drawn0.step)⟩
      ·rw [if_neg c6] at H
       exact absurd H (by simp)
     ·rw [if_neg c5] at H
      exact absurd H (by simp)
    ·obtain rfl := Option.some.inj H
     go_wp2
     repeat (go_quiet (fail); try go_wp2)
     go_ret
     exact ⟨rB, by repeat (first | exact Drawn0.refl _ | apply Drawn0.step)⟩
 ·have c3b2 : (l0.length == l1.length) = false := by first | simpa using c3 | (simp at c3 ⊢; omega)
  obtain rfl := Option.some.inj H
  go_enter Try.func77, Try.ntmps77
  go_wp2
  repeat (go_quiet (fail); try go_wp2)
  go_ret
  exact ⟨rB, by repeat (first | exact Drawn0.refl _ | apply Drawn0.step)⟩

/-! ### spec_SameVersions: function 40 -/
mutual
def spec_SameVersions.l0 : Nat → List (S26) → List (S28) → List (S77) → Int → Option ((List (S77)) × Bool)
 | 0, _, _, _, _ => none
 | k + 1, x0, x1, x6, x7 => if x7 ≤ (x1.length : Int) then ((spec_l19Run.f k x0 x1 x7).bind fun bt316 => (spec_SameVersions.l1 k x0 x1 x6 x7 bt316.1 (wrap64 (x7 + 1)))) else (some (x6, true))
def spec_SameVersions.l1 : Nat → List (S26) → List (S28) → List (S77) → Int → List (S26) → Int → Option ((List (S77)) × Bool)
 | 0, _, _, _, _, _, _ => none
 | k + 1, x0, x1, x6, x7, x8, x10 => if x10 ≤ (x1.length : Int) then ((spec_l19Run.f k x0 x1 x10).bind fun bt320 => ((spec_l19Same.f k x8 bt320.1).bind fun t324 => (if t324 = true then (if x6.length < 8796093022208 then (spec_SameVersions.l1 k x0 x1 (x6 ++ [(⟨x7, x10⟩ : S77)]) x7 x8 (wrap64 (x10 + 1))) else (none)) else (spec_SameVersions.l1 k x0 x1 x6 x7 x8 (wrap64 (x10 + 1)))))) else (spec_SameVersions.l0 k x0 x1 x6 (wrap64 (x7 + 1)))
end
def spec_SameVersions.f (k : Nat) (l0 : List (S26)) (l1 : List (S28)) : Option ((List (S77)) × Bool) := (some (([] : List (S77)) : List (S77))).bind fun y312 => ((spec_l19Good.f k l0 l1).bind fun t315 => (if t315 = true then (spec_SameVersions.l0 k l0 l1 y312 0) else (some (y312, false))))
theorem spec_SameVersions.mono_l : ∀ k, (∀ y0 y1 y2 y3, LeO (spec_SameVersions.l0 k y0 y1 y2 y3) (spec_SameVersions.l0 (k + 1) y0 y1 y2 y3)) ∧ (∀ y0 y1 y2 y3 y4 y5, LeO (spec_SameVersions.l1 k y0 y1 y2 y3 y4 y5) (spec_SameVersions.l1 (k + 1) y0 y1 y2 y3 y4 y5))
 | 0 => ⟨fun _ _ _ _ r h => by simp [spec_SameVersions.l0] at h, fun _ _ _ _ _ _ r h => by simp [spec_SameVersions.l1] at h⟩
 | k + 1 => by
  obtain ⟨ih0, ih1⟩ := spec_SameVersions.mono_l k
  refine ⟨?_, ?_⟩
  ·intro y0 y1 y2 y3
   unfold spec_SameVersions.l0
   repeat' with_reducible first | apply ih0 | apply ih1 | apply spec_l19Good.mono | apply spec_l19Run.mono | apply spec_l19Same.mono | exact LeO.refl _ | exact LeO.none _ | refine LeO.ite ?_ ?_ | refine LeO.bind ?_ (fun _ => ?_)
  ·intro y0 y1 y2 y3 y4 y5
   unfold spec_SameVersions.l1
   repeat' with_reducible first | apply ih0 | apply ih1 | apply spec_l19Good.mono | apply spec_l19Run.mono | apply spec_l19Same.mono | exact LeO.refl _ | exact LeO.none _ | refine LeO.ite ?_ ?_ | refine LeO.bind ?_ (fun _ => ?_)
theorem spec_SameVersions.mono : ∀ a0 a1 k, LeO (spec_SameVersions.f k a0 a1) (spec_SameVersions.f (k + 1) a0 a1) := by
 intro a0 a1 k
 obtain ⟨ih0, ih1⟩ := spec_SameVersions.mono_l k
 unfold spec_SameVersions.f
 repeat' with_reducible first | apply ih0 | apply ih1 | apply spec_l19Good.mono | apply spec_l19Run.mono | apply spec_l19Same.mono | exact LeO.refl _ | exact LeO.none _ | refine LeO.ite ?_ ?_ | refine LeO.bind ?_ (fun _ => ?_)
set_option maxHeartbeats 8000000 in
set_option maxRecDepth 100000 in
theorem spec_SameVersions.calls (k : Nat) (A0 : Option Addr) (c0 : Nat) (l0 : List (S26)) (A1 : Option Addr) (c1 : Nat) (l1 : List (S28)) (r1 : List (S77)) (r2 : Bool) (w : World) (hr0 : Kd.C k26 w A0 l0.length l0) (hc0 : l0.length ≤ c0) (hr1 : Kd.C k28 w A1 l1.length l1) (hc1 : l1.length ≤ c1) (h : spec_SameVersions.f k l0 l1 = some (r1, r2)) :
  Calls Try.prog 40 #[.slice A0 l0.length c0, .slice A1 l1.length c1] w fun e w' => ∃ v0_ : Value, e = .returned (.tuple #[v0_, .bool r2]) ∧ Kd.R k77 77 w' w.heap.size (fun _ => True) v0_ r1 ∧ Below w.heap.size w w' := by
 have hu77 := Try.underlying77
 have HR0 := Aside0.mk hr0
 have HC0 := Aside0.mk hc0
 clear hr0 hc0
 have HR1 := Aside0.mk hr1
 have HC1 := Aside0.mk hc1
 clear hr1 hc1
 have HB := Aside0.mk (Below.refl w.heap.size w)
 have H := h
 clear h
 unfold spec_SameVersions.f at H
 obtain ⟨y312, hy312⟩ : ∃ y_ : List (S77), y_ = (([] : List (S77))) := ⟨_, rfl⟩
 replace H : ((spec_l19Good.f k l0 l1).bind fun t315 => (if t315 = true then (spec_SameVersions.l0 k l0 l1 y312 0) else (some (y312, false)))) = some (r1, r2) := by first | (rw [hy312]; with_reducible exact H) | (have H2_ := (Option.bind_some _ _).symm.trans H; rw [hy312]; with_reducible exact H2_) | (have H2_ := (Option.bind_some _ _).symm.trans H; with_reducible exact H2_) | with_reducible exact H | (rw [hy312]; exact H) | exact H
 have Ny312 := Aside0.mk hy312
 clear hy312
 replace H := bA H
 obtain ⟨t315, A3, H⟩ := H
 rcases Bool.eq_false_or_eq_true t315 with rfl | rfl
 ·replace H := iT rfl H
  have H' := Aside0.mk H
  clear H
  go_enter Try.func40, Try.ntmps40
  go_wp2_with (first | ((with_reducible refine gate_dst (N := 13) rfl ?_); refine Kd.R_lit k77 _ 77 ?hg (N := 13) ?hd (xs := ([] : List (S77))) (inner := []) (ok := fun _ => True) (okp := fun _ => True) ?hr ?hp (fun _ hk => hk) trivial (Below.refl _ _) (Nat.le_refl _) (by simp) ?_; (case hd => rfl); (case hg => rfl); (case hr => first | (go_simp; done) | (go_simp; rfl)); (case hp => exact (Reps.none _ _)); intro v313 w5 ho6 hb hg_ hnew_; clear hg_ hnew_; (first | rw [← Ny312.out] at ho6 | (simp only [Int.reduceToNat] at ho6; rw [← Ny312.out] at ho6)); have HO314 := Aside0.mk (Kd.R_lower ho6 (below_size (bW HB))); replace HB := uB HB hb; clear hb ho6) | ((with_reducible refine gC 68 ?_); refine lA (some 16) Try.func68 (spec_l19Good.calls k _ _ l0 _ _ l1 true _ ?side1 ?side2 ?side3 ?side4 A3.out) ?_; (case side1 => repeat (first | exact (Kd.C_below HR0.out HB.out) | (with_reducible refine Kd.C_alloc ?_ _) | (with_reducible refine Kd.C_drewN ?_ _) | (with_reducible refine Kd.C_drew ?_))); (case side2 => exact HC0.out); (case side3 => repeat (first | exact (Kd.C_below HR1.out HB.out) | (with_reducible refine Kd.C_alloc ?_ _) | (with_reducible refine Kd.C_drewN ?_ _) | (with_reducible refine Kd.C_drew ?_))); (case side4 => exact HC1.out); intro w7 hb; replace HO314 := uR HO314 hb; replace HB := uB HB hb; (try clear hb); (try clear hk)))
  (try simp only [Act.put, List.setIfInBounds_toArray, List.set_cons_zero, List.set_cons_succ])
  go_loopg [6, 7] k (fun kq v6 v7 w' => ∃ (x6_1 : List (S77)) (x7_1 : Int), v7 = .int .i64 x7_1 ∧ Aside0 (spec_SameVersions.l0 kq l0 l1 x6_1 x7_1 = some (r1, r2)) ∧ Aside0 (kq ≤ k) ∧ Aside0 (Kd.R k77 77 w' w.heap.size (fun _ => True) v6 x6_1) ∧ Aside0 (Below w.heap.size w w'))
  case atStart => exact ⟨(y312), (0), rB, H', ⟨Nat.le_refl _⟩, ⟨upR HO314.out⟩, (aB HB)⟩
  case round =>
   clear H'
   try clear c1
   obtain ⟨x6_1, x7_1, rfl, HA, HK1, HO_6, HB⟩ := hrel
   cases gk with
   | zero => exact absurd HA.out (by simp [spec_SameVersions.l0])
   | succ k1 =>
    have H := HA.out
    clear HA
    simp only [spec_SameVersions.l0] at H
    replace H := ifD H
    rcases H with ⟨H, -, c8b0⟩ | ⟨H, -, c8b0⟩
    ·replace H := Option.bind_eq_some_iff.mp H
     obtain ⟨⟨t316, t317⟩, A90, H⟩ := H
     replace H : (spec_SameVersions.l1 k1 l0 l1 x6_1 x7_1 t316 (wrap64 (x7_1 + 1))) = some (r1, r2) := H
     have A9 := Aside0.mk A90
     clear A90
     have H' := Aside0.mk H
     clear H
     go_wp2_with (first | ((with_reducible refine gate_callee (f := 71) rfl ?_); refine goesL_ (some 29) rfl rfl Try.func71 (by kernel_rfl) rfl #[.slice A0 l0.length c0, .slice A1 l1.length c1, .int .i64 x7_1] rfl argsB ?_; (with_reducible refine (spec_l19Run.calls k1 _ _ l0 _ _ l1 x7_1 t316 t317 _ ?side1 ?side2 ?side3 ?side4 A9.out).mono ?_); (case side1 => repeat (first | exact (Kd.C_below HR0.out HB.out) | (with_reducible refine Kd.C_alloc ?_ _) | (with_reducible refine Kd.C_drewN ?_ _) | (with_reducible refine Kd.C_drew ?_))); (case side2 => exact HC0.out); (case side3 => repeat (first | exact (Kd.C_below HR1.out HB.out) | (with_reducible refine Kd.C_alloc ?_ _) | (with_reducible refine Kd.C_drewN ?_ _) | (with_reducible refine Kd.C_drew ?_))); (case side4 => exact HC1.out); rintro e w10 ⟨v318, rfl, ho0, hb⟩; refine ⟨_, rfl, ?_⟩; have HO319 := Aside0.mk (Kd.R_lower ho0 (below_size (bW HB))); replace HO_6 := uR HO_6 hb; replace HB := uB HB hb; (try clear hb); (try clear hk); (try clear ho0)))
     (try simp only [Act.put, List.setIfInBounds_toArray, List.set_cons_zero, List.set_cons_succ])
     go_loopg [6, 10] k1 (fun kq v6 v10 w' => ∃ (x6_2 : List (S77)) (x10_2 : Int), v10 = .int .i64 x10_2 ∧ Aside0 (spec_SameVersions.l1 kq l0 l1 x6_2 x7_1 t316 x10_2 = some (r1, r2)) ∧ Aside0 (kq ≤ k1) ∧ Aside0 (Kd.R k77 77 w' w.heap.size (fun _ => True) v6 x6_2) ∧ Aside0 (Kd.R k26 26 w' w.heap.size (fun _ => True) v318 t316) ∧ Aside0 (Below w.heap.size w w'))
     case atStart => exact ⟨(x6_1), (wrap64 (x7_1 + 1)), rB, H', ⟨Nat.le_refl _⟩, ⟨upR HO_6.out⟩, ⟨upR HO319.out⟩, (aB HB)⟩
     case round =>
      clear H'
      try clear c1
      try clear c8b0
      obtain ⟨x6_2, x10_2, rfl, HA, HK2, HO_6, HO_8, HB⟩ := hrel
      cases gk with
      | zero => exact absurd HA.out (by simp [spec_SameVersions.l1])
      | succ k2 =>
       have H := HA.out
       clear HA
       simp only [spec_SameVersions.l1] at H
       replace H := ifD H
       rcases H with ⟨H, -, c11b0⟩ | ⟨H, -, c11b0⟩
       ·replace H := Option.bind_eq_some_iff.mp H
        obtain ⟨⟨t320, t321⟩, A120, H⟩ := H
        replace H : ((spec_l19Same.f k2 t316 t320).bind fun t324 => (if t324 = true then (if x6_2.length < 8796093022208 then (spec_SameVersions.l1 k2 l0 l1 (x6_2 ++ [(⟨x7_1, x10_2⟩ : S77)]) x7_1 t316 (wrap64 (x10_2 + 1))) else (none)) else (spec_SameVersions.l1 k2 l0 l1 x6_2 x7_1 t316 (wrap64 (x10_2 + 1))))) = some (r1, r2) := H
        have A12 := Aside0.mk A120
        clear A120
        replace H := bA H
        obtain ⟨t324, A13, H⟩ := H
        rcases Bool.eq_false_or_eq_true t324 with rfl | rfl
        ·replace H := iT rfl H
         by_cases c15 : x6_2.length < 8796093022208
         ·rw [if_pos c15] at H
          have LMc15 := Aside0.mk c15
          clear c15
          obtain ⟨y325, hy325⟩ : ∃ y_ : List (S77), y_ = (x6_2 ++ [(⟨x7_1, x10_2⟩ : S77)]) := ⟨_, rfl⟩
          replace H : (spec_SameVersions.l1 k2 l0 l1 y325 x7_1 t316 (wrap64 (x10_2 + 1))) = some (r1, r2) := by first | (rw [hy325]; with_reducible exact H) | (have H2_ := (Option.bind_some _ _).symm.trans H; rw [hy325]; with_reducible exact H2_) | (have H2_ := (Option.bind_some _ _).symm.trans H; with_reducible exact H2_) | with_reducible exact H | (rw [hy325]; exact H) | exact H
          have Ny325 := Aside0.mk hy325
          clear hy325
          have H' := Aside0.mk H
          clear H
          go_wp2_with (first | ((with_reducible refine gate_callee (f := 71) rfl ?_); refine goesL_ (some 44) rfl rfl Try.func71 (by kernel_rfl) rfl #[.slice A0 l0.length c0, .slice A1 l1.length c1, .int .i64 x10_2] rfl argsB ?_; (with_reducible refine (spec_l19Run.calls k2 _ _ l0 _ _ l1 x10_2 t320 t321 _ ?side1 ?side2 ?side3 ?side4 A12.out).mono ?_); (case side1 => repeat (first | exact (Kd.C_below HR0.out HB.out) | (with_reducible refine Kd.C_alloc ?_ _) | (with_reducible refine Kd.C_drewN ?_ _) | (with_reducible refine Kd.C_drew ?_))); (case side2 => exact HC0.out); (case side3 => repeat (first | exact (Kd.C_below HR1.out HB.out) | (with_reducible refine Kd.C_alloc ?_ _) | (with_reducible refine Kd.C_drewN ?_ _) | (with_reducible refine Kd.C_drew ?_))); (case side4 => exact HC1.out); rintro e w16 ⟨v322, rfl, ho0, hb⟩; refine ⟨_, rfl, ?_⟩; have HO323 := Aside0.mk (Kd.R_lower (Kd.R_new' ho0 (Kd.R_lt (upR HO_8.out))) (below_size (bW HB))); replace HO_6 := uR HO_6 hb; replace HO_8 := Aside0.mk (Kd.R_elder' (upR HO_8.out) (Kd.R_base ho0) hb); replace HB := uB HB hb; (try clear hb); (try clear hk); (try clear ho0); obtain ⟨Ao17, co17, eo17⟩ := Kd.R_slice HO_8.out; subst eo17; obtain ⟨Ao18, co18, eo18⟩ := Kd.R_slice HO323.out; subst eo18) | ((with_reducible refine gC 77 ?_); refine lA (some 49) Try.func77 (spec_l19Same.calls k2 _ _ t316 _ _ t320 true _ ?side1 ?side2 ?side3 ?side4 A13.out) ?_; (case side1 => repeat (first | exact (Kd.R_reads' HO_8.out).2.2 | (with_reducible refine Kd.C_alloc ?_ _) | (with_reducible refine Kd.C_drewN ?_ _) | (with_reducible refine Kd.C_drew ?_))); (case side2 => exact (Kd.R_reads' HO_8.out).2.1); (case side3 => repeat (first | exact (Kd.R_reads' HO323.out).2.2 | (with_reducible refine Kd.C_alloc ?_ _) | (with_reducible refine Kd.C_drewN ?_ _) | (with_reducible refine Kd.C_drew ?_))); (case side4 => exact (Kd.R_reads' HO323.out).2.1); rintro _ ⟨nd, rfl⟩) | ((with_reducible refine gate_builtin (b := .append) (xs := #[.tmp 50, .tmp 54]) rfl ?_); at_builtin; refine Kd.R_append k77 (w0 := w) w.heap.size rfl (.tmp 50) (.tmp 54) 61 77 (.agg #[(.int .i64 0), (.int .i64 0)]) 16 rfl Try.underlying61 info77 rfl (by decide) (by omega) u6 x6_2 (⟨x7_1, x10_2⟩ : S77) [.int .i64 x7_1, .int .i64 x10_2] (fun _ => True) (fun _ => False) rfl rfl ?aP (fun _ hk => hk.elim) ?aF ?aO ?aB ?aS ?aL ?_; (case aP => exact k77_mkM _ _ _ (⟨x7_1, x10_2⟩ : S77)); (case aB => exact (bW HB)); (case aF => exact (fun _ _ => trivial)); (case aO => exact (upR HO_6.out)); (case aS => exact (below_size (bW HB))); (case aL => have := LMc15.out; omega); intro v326 w19 ho hb hg hat; rw [← Ny325.out] at ho; have HO327 := Aside0.mk (ho); replace HO_8 := Aside0.mk (Kd.R_over' (upR HO_8.out) (Kd.R_typed (upR HO_6.out)) (by decide) hg); replace HO323 := Aside0.mk (Kd.R_over' (upR HO323.out) (Kd.R_typed (upR HO_6.out)) (by decide) hg); replace HB := Aside0.mk (hb); clear HO_6; clear ho hb hg hat))
          go_roundg k2
          case measure => have := HK1.out; have := HK2.out; omega
          case rel => exact ⟨(y325), (wrap64 (x10_2 + 1)), rB, H', ⟨by have := HK1.out; have := HK2.out; omega⟩, ⟨upR HO327.out⟩, ⟨by (with_reducible repeat (first | apply Kd.R_alloc | apply Kd.R_drewN | apply Kd.R_drew)); exact Kd.R_mono HO_8.out (fun _ hk => trivial)⟩, (aB HB)⟩
         ·rw [if_neg c15] at H
          exact absurd H (by simp)
        ·replace H := iF (by decide) H
         have H' := Aside0.mk H
         clear H
         go_wp2_with (first | ((with_reducible refine gate_callee (f := 71) rfl ?_); refine goesL_ (some 44) rfl rfl Try.func71 (by kernel_rfl) rfl #[.slice A0 l0.length c0, .slice A1 l1.length c1, .int .i64 x10_2] rfl argsB ?_; (with_reducible refine (spec_l19Run.calls k2 _ _ l0 _ _ l1 x10_2 t320 t321 _ ?side1 ?side2 ?side3 ?side4 A12.out).mono ?_); (case side1 => repeat (first | exact (Kd.C_below HR0.out HB.out) | (with_reducible refine Kd.C_alloc ?_ _) | (with_reducible refine Kd.C_drewN ?_ _) | (with_reducible refine Kd.C_drew ?_))); (case side2 => exact HC0.out); (case side3 => repeat (first | exact (Kd.C_below HR1.out HB.out) | (with_reducible refine Kd.C_alloc ?_ _) | (with_reducible refine Kd.C_drewN ?_ _) | (with_reducible refine Kd.C_drew ?_))); (case side4 => exact HC1.out); rintro e w20 ⟨v322, rfl, ho0, hb⟩; refine ⟨_, rfl, ?_⟩; have HO323 := Aside0.mk (Kd.R_lower (Kd.R_new' ho0 (Kd.R_lt (upR HO_8.out))) (below_size (bW HB))); replace HO_6 := uR HO_6 hb; replace HO_8 := Aside0.mk (Kd.R_elder' (upR HO_8.out) (Kd.R_base ho0) hb); replace HB := uB HB hb; (try clear hb); (try clear hk); (try clear ho0); obtain ⟨Ao21, co21, eo21⟩ := Kd.R_slice HO_8.out; subst eo21; obtain ⟨Ao22, co22, eo22⟩ := Kd.R_slice HO323.out; subst eo22) | ((with_reducible refine gC 77 ?_); refine lA (some 49) Try.func77 (spec_l19Same.calls k2 _ _ t316 _ _ t320 false _ ?side1 ?side2 ?side3 ?side4 A13.out) ?_; (case side1 => repeat (first | exact (Kd.R_reads' HO_8.out).2.2 | (with_reducible refine Kd.C_alloc ?_ _) | (with_reducible refine Kd.C_drewN ?_ _) | (with_reducible refine Kd.C_drew ?_))); (case side2 => exact (Kd.R_reads' HO_8.out).2.1); (case side3 => repeat (first | exact (Kd.R_reads' HO323.out).2.2 | (with_reducible refine Kd.C_alloc ?_ _) | (with_reducible refine Kd.C_drewN ?_ _) | (with_reducible refine Kd.C_drew ?_))); (case side4 => exact (Kd.R_reads' HO323.out).2.1); rintro _ ⟨nd, rfl⟩))
         go_roundg k2
         case measure => have := HK1.out; have := HK2.out; omega
         case rel => exact ⟨(x6_2), (wrap64 (x10_2 + 1)), rB, H', ⟨by have := HK1.out; have := HK2.out; omega⟩, ⟨upR HO_6.out⟩, ⟨by (with_reducible repeat (first | apply Kd.R_alloc | apply Kd.R_drewN | apply Kd.R_drew)); exact Kd.R_mono HO_8.out (fun _ hk => trivial)⟩, (aB HB)⟩
       ·have H' := Aside0.mk H
        clear H
        go_wp2
        go_roundg k2
        case measure => have := HK1.out; have := HK2.out; omega
        case rel => exact ⟨(x6_2), (wrap64 (x7_1 + 1)), rB, H', ⟨by have := HK1.out; have := HK2.out; omega⟩, ⟨upR HO_6.out⟩, (aB HB)⟩
    ·simp only [Option.some.injEq, Prod.mk.injEq] at H
     obtain ⟨rfl, rfl⟩ := H
     go_wp2
     go_ret2
     exact ⟨_, eB, upR HO_6.out, (bW HB)⟩
 ·replace H := iF (by decide) H
  simp only [Option.some.injEq, Prod.mk.injEq] at H
  obtain ⟨rfl, rfl⟩ := H
  go_enter Try.func40, Try.ntmps40
  go_wp2_with (first | ((with_reducible refine gate_dst (N := 13) rfl ?_); refine Kd.R_lit k77 _ 77 ?hg (N := 13) ?hd (xs := ([] : List (S77))) (inner := []) (ok := fun _ => True) (okp := fun _ => True) ?hr ?hp (fun _ hk => hk) trivial (Below.refl _ _) (Nat.le_refl _) (by simp) ?_; (case hd => rfl); (case hg => rfl); (case hr => first | (go_simp; done) | (go_simp; rfl)); (case hp => exact (Reps.none _ _)); intro v313 w23 ho24 hb hg_ hnew_; clear hg_ hnew_; (first | rw [← Ny312.out] at ho24 | (simp only [Int.reduceToNat] at ho24; rw [← Ny312.out] at ho24)); have HO314 := Aside0.mk (Kd.R_lower ho24 (below_size (bW HB))); replace HB := uB HB hb; clear hb ho24) | ((with_reducible refine gC 68 ?_); refine lA (some 16) Try.func68 (spec_l19Good.calls k _ _ l0 _ _ l1 false _ ?side1 ?side2 ?side3 ?side4 A3.out) ?_; (case side1 => repeat (first | exact (Kd.C_below HR0.out HB.out) | (with_reducible refine Kd.C_alloc ?_ _) | (with_reducible refine Kd.C_drewN ?_ _) | (with_reducible refine Kd.C_drew ?_))); (case side2 => exact HC0.out); (case side3 => repeat (first | exact (Kd.C_below HR1.out HB.out) | (with_reducible refine Kd.C_alloc ?_ _) | (with_reducible refine Kd.C_drewN ?_ _) | (with_reducible refine Kd.C_drew ?_))); (case side4 => exact HC1.out); intro w25 hb; replace HO314 := uR HO314 hb; replace HB := uB HB hb; (try clear hb); (try clear hk)))
  go_ret2
  exact ⟨_, eB, upR HO314.out, (bW HB)⟩

/-! ### impl_Leg_78: function 78 -/
def impl_Leg_78.l0 : Nat → List (S26) → List (S26) → Int → Int → Option (Bool)
 | 0, _, _, _, _ => none
 | k + 1, x0, x1, x12, x13 => if x13 < x12 then (if 0 ≤ x13 then (if x13 < (x0.length : Int) then (if x13 < (x1.length : Int) then (if (!(((rd_T26 x0 x13).f0) == ((rd_T26 x1 x13).f0)) || (!(((rd_T26 x0 x13).f1) == ((rd_T26 x1 x13).f1)) || (!(((rd_T26 x0 x13).f2) == ((rd_T26 x1 x13).f2)) || (!(((rd_T26 x0 x13).f3) == ((rd_T26 x1 x13).f3)) || (!(((rd_T26 x0 x13).f4) == ((rd_T26 x1 x13).f4))))))) = true then (some false) else (impl_Leg_78.l0 k x0 x1 x12 (wrap64 (x13 + 1)))) else (none)) else (none)) else (none)) else (some true)
def impl_Leg_78.f (k : Nat) (l0 : List (S26)) (l1 : List (S26)) : Option (Bool) := if (l0.length : Int) = (l1.length : Int) then (impl_Leg_78.l0 k l0 l1 (l0.length : Int) 0) else (some false)
theorem impl_Leg_78.mono_l : ∀ k, (∀ y0 y1 y2 y3, LeO (impl_Leg_78.l0 k y0 y1 y2 y3) (impl_Leg_78.l0 (k + 1) y0 y1 y2 y3))
 | 0 => fun _ _ _ _ r h => by simp [impl_Leg_78.l0] at h
 | k + 1 => by
  have ih0 := impl_Leg_78.mono_l k
  ·intro y0 y1 y2 y3
   unfold impl_Leg_78.l0
   repeat' with_reducible first | apply ih0 | exact LeO.refl _ | exact LeO.none _ | refine LeO.ite ?_ ?_ | refine LeO.bind ?_ (fun _ => ?_)
theorem impl_Leg_78.mono : ∀ a0 a1 k, LeO (impl_Leg_78.f k a0 a1) (impl_Leg_78.f (k + 1) a0 a1) := by
 intro a0 a1 k
 have ih0 := impl_Leg_78.mono_l k
 unfold impl_Leg_78.f
 repeat' with_reducible first | apply ih0 | exact LeO.refl _ | exact LeO.none _ | refine LeO.ite ?_ ?_ | refine LeO.bind ?_ (fun _ => ?_)
set_option maxHeartbeats 8000000 in
set_option maxRecDepth 100000 in
theorem impl_Leg_78.calls (k : Nat) (A0 : Option Addr) (c0 : Nat) (l0 : List (S26)) (A1 : Option Addr) (c1 : Nat) (l1 : List (S26)) (r : Bool) (w : World) (hr0 : Kd.C k26 w A0 l0.length l0) (hc0 : l0.length ≤ c0) (hr1 : Kd.C k26 w A1 l1.length l1) (hc1 : l1.length ≤ c1) (h : impl_Leg_78.f k l0 l1 = some r) :
  Calls Try.prog 78 #[.slice A0 l0.length c0, .slice A1 l1.length c1] w fun e w' => e = .returned (.bool r) ∧ Drawn0 w w' := by
 have hu26 := Try.underlying26
 have HR0 := Aside0.mk hr0
 have HC0 := Aside0.mk hc0
 clear hr0 hc0
 have HR1 := Aside0.mk hr1
 have HC1 := Aside0.mk hc1
 clear hr1 hc1
 have H := h
 clear h
 unfold impl_Leg_78.f at H
 replace H := ifI H
 rcases H with ⟨H, c3, c3b0, c3b1⟩ | ⟨H, c3, c3b0, c3b1⟩
 ·have c3b2 : (l0.length == l1.length) = true := by first | simpa using c3 | (simp at c3 ⊢; omega)
  clear c3
  have H' := Aside0.mk H
  clear H
  go_enter Try.func78, Try.ntmps78
  go_wp2
  repeat (go_quiet (fail); try go_wp2)
  go_loopg [13] k (fun kq v13 w' => ∃ (x13_1 : Int), v13 = .int .i64 x13_1 ∧ Aside0 (impl_Leg_78.l0 kq l0 l1 (l0.length : Int) x13_1 = some r) ∧ Aside0 (kq ≤ k) ∧ Drawn0 w w')
  case atStart => exact ⟨(0), rB, H', ⟨Nat.le_refl _⟩, by repeat (first | exact Drawn0.refl _ | apply Drawn0.step)⟩
  case round =>
   clear H'
   try clear c1
   try clear c3
   try clear c3b0
   try clear c3b1
   try clear c3b2
   obtain ⟨x13_1, rfl, HA, HK1, ⟨m1, rfl⟩⟩ := hrel
   cases gk with
   | zero => exact absurd HA.out (by simp [impl_Leg_78.l0])
   | succ k1 =>
    have H := HA.out
    clear HA
    simp only [impl_Leg_78.l0] at H
    replace H := ifD H
    rcases H with ⟨H, -, c4b0⟩ | ⟨H, -, c4b0⟩
    ·by_cases c5 : 0 ≤ x13_1
     ·rw [if_pos c5] at H
      have c5b0 : decide (0 ≤ x13_1) = true := decide_eq_true c5
      clear c5
      by_cases c6 : x13_1 < (l0.length : Int)
      ·rw [if_pos c6] at H
       have c6b0 : decide (x13_1 < (l0.length : Int)) = true := decide_eq_true c6
       clear c6
       by_cases c7 : x13_1 < (l1.length : Int)
       ·rw [if_pos c7] at H
        have c7b0 : decide (x13_1 < (l1.length : Int)) = true := decide_eq_true c7
        clear c7
        by_cases c8 : (!(((rd_T26 l0 x13_1).f0) == ((rd_T26 l1 x13_1).f0)) || (!(((rd_T26 l0 x13_1).f1) == ((rd_T26 l1 x13_1).f1)) || (!(((rd_T26 l0 x13_1).f2) == ((rd_T26 l1 x13_1).f2)) || (!(((rd_T26 l0 x13_1).f3) == ((rd_T26 l1 x13_1).f3)) || (!(((rd_T26 l0 x13_1).f4) == ((rd_T26 l1 x13_1).f4))))))) = true
        ·rw [if_pos c8] at H
         have c8b0 : (!(((rd_T26 l0 x13_1).f0) == ((rd_T26 l1 x13_1).f0)) || (!(((rd_T26 l0 x13_1).f1) == ((rd_T26 l1 x13_1).f1)) || (!(((rd_T26 l0 x13_1).f2) == ((rd_T26 l1 x13_1).f2)) || (!(((rd_T26 l0 x13_1).f3) == ((rd_T26 l1 x13_1).f3)) || (!(((rd_T26 l0 x13_1).f4) == ((rd_T26 l1 x13_1).f4))))))) = true := c8
         clear c8
         obtain rfl := Option.some.inj H
         have p328 : 0 ≤ (x13_1 : Int) := of_decide_eq_true asmB
         have q328 : x13_1 < (l0.length : Int) := of_decide_eq_true asmB
         obtain ⟨ad328, e328, hx328_0, hx328_1, hx328_2, hx328_3, hx328_4⟩ := at_T26 HR0.out x13_1 p328 q328
         cases e328
         replace p328 := eq_true p328
         replace q328 := eq_true q328
         have p329 : 0 ≤ (x13_1 : Int) := of_decide_eq_true asmB
         have q329 : x13_1 < (l1.length : Int) := of_decide_eq_true asmB
         obtain ⟨ad329, e329, hx329_0, hx329_1, hx329_2, hx329_3, hx329_4⟩ := at_T26 HR1.out x13_1 p329 q329
         cases e329
         replace p329 := eq_true p329
         replace q329 := eq_true q329
         go_wp2
         repeat (go_quiet (fail); try go_wp2)
         go_ret
         exact ⟨rB, by repeat (first | exact Drawn0.refl _ | apply Drawn0.step)⟩
        ·rw [if_neg c8] at H
         have c8b0 : (!(((rd_T26 l0 x13_1).f0) == ((rd_T26 l1 x13_1).f0)) || (!(((rd_T26 l0 x13_1).f1) == ((rd_T26 l1 x13_1).f1)) || (!(((rd_T26 l0 x13_1).f2) == ((rd_T26 l1 x13_1).f2)) || (!(((rd_T26 l0 x13_1).f3) == ((rd_T26 l1 x13_1).f3)) || (!(((rd_T26 l0 x13_1).f4) == ((rd_T26 l1 x13_1).f4))))))) = false := by simpa using c8
         clear c8
         have H' := Aside0.mk H
         clear H
         have p328 : 0 ≤ (x13_1 : Int) := of_decide_eq_true asmB
         have q328 : x13_1 < (l0.length : Int) := of_decide_eq_true asmB
         obtain ⟨ad328, e328, hx328_0, hx328_1, hx328_2, hx328_3, hx328_4⟩ := at_T26 HR0.out x13_1 p328 q328
         cases e328
         replace p328 := eq_true p328
         replace q328 := eq_true q328
         have p329 : 0 ≤ (x13_1 : Int) := of_decide_eq_true asmB
         have q329 : x13_1 < (l1.length : Int) := of_decide_eq_true asmB
         obtain ⟨ad329, e329, hx329_0, hx329_1, hx329_2, hx329_3, hx329_4⟩ := at_T26 HR1.out x13_1 p329 q329
         cases e329
         replace p329 := eq_true p329
         replace q329 := eq_true q329
         go_wp2
         repeat (go_quiet (fail); try go_wp2)
         go_roundg k1
         case measure => have := HK1.out; omega
         case rel => exact ⟨(wrap64 (x13_1 + 1)), rB, H', ⟨by have := HK1.out; omega⟩, by repeat (first | exact Drawn0.refl _ | apply Drawn0.step)⟩
       ·rw [if_neg c7] at H
        exact absurd H (by simp)
      ·rw [if_neg c6] at H
       exact absurd H (by simp)
     ·rw [if_neg c5] at H
      exact absurd H (by simp)
    ·obtain rfl := Option.some.inj H
     go_wp2
     repeat (go_quiet (fail); try go_wp2)
     go_ret
     exact ⟨rB, by repeat (first | exact Drawn0.refl _ | apply Drawn0.step)⟩
 ·have c3b2 : (l0.length == l1.length) = false := by first | simpa using c3 | (simp at c3 ⊢; omega)
  obtain rfl := Option.some.inj H
  go_enter Try.func78, Try.ntmps78
  go_wp2
  repeat (go_quiet (fail); try go_wp2)
  go_ret
  exact ⟨rB, by repeat (first | exact Drawn0.refl _ | apply Drawn0.step)⟩

end Go.Proofs.Ytinelmmnajelaaa.QFnDiffs
