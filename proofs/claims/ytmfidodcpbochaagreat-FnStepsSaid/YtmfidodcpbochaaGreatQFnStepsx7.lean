/- Contracts of Go functions that FnSteps reaches: the call computes what the plain function says. No condition. -/
import Derived.Test.YtmfidodcpbochaaGreatQFnStepsx0
import Derived.Test.YtmfidodcpbochaaGreatQFnStepsx1
import Derived.Test.YtmfidodcpbochaaGreatQFnStepsx6
namespace Go.Proofs.YtmfidodcpbochaaGreat.QFnSteps
open Go.RowKit Go.Proofs.YtmfidodcpbochaaGreatW.PrintWords Go.Proofs.YtmfidodcpbochaaGreatW.PrintLast Go.Proofs.YtmfidodcpbochaaGreatW.PrintMore
attribute [local go_sem] max2_int min2_int max_two min_two max_three min_three max_four min_four   -- for this text's walks alone
set_option linter.unusedVariables false
set_option linter.unusedSimpArgs false

/-! ### impl_legsAt: function 41 -/
def impl_legsAt.l0 : Nat → Int → List Int → List (S32) → Int → Int → Option (List Int)
 | 0, _, _, _, _, _ => none
 | k + 1, x1, x5, x8, x9, x10 => if x10 < x9 then (if 0 ≤ x10 then (if x10 < (x8.length : Int) then (if ((rd_T32 x8 x10).f0) = x1 then (if x5.length < 17592186044416 then (impl_legsAt.l0 k x1 (x5 ++ [x10]) x8 x9 (wrap64 (x10 + 1))) else (none)) else (if ((rd_T32 x8 x10).f1) = x1 then (if x5.length < 17592186044416 then (impl_legsAt.l0 k x1 (x5 ++ [x10]) x8 x9 (wrap64 (x10 + 1))) else (none)) else (impl_legsAt.l0 k x1 x5 x8 x9 (wrap64 (x10 + 1))))) else (none)) else (none)) else (some x5)
def impl_legsAt.f (k : Nat) (l0 : List (S32)) (a1 : Int) : Option (List Int) := impl_legsAt.l0 k a1 ([] : List Int) l0 (l0.length : Int) 0
theorem impl_legsAt.mono_l : ∀ k, (∀ y0 y1 y2 y3 y4, LeO (impl_legsAt.l0 k y0 y1 y2 y3 y4) (impl_legsAt.l0 (k + 1) y0 y1 y2 y3 y4))
 | 0 => fun _ _ _ _ _ r h => by simp [impl_legsAt.l0] at h
 | k + 1 => by
  have ih0 := impl_legsAt.mono_l k
  ·intro y0 y1 y2 y3 y4
   unfold impl_legsAt.l0
   repeat' with_reducible first | apply ih0 | exact LeO.refl _ | exact LeO.none _ | refine LeO.ite ?_ ?_ | refine LeO.bind ?_ (fun _ => ?_)
theorem impl_legsAt.mono : ∀ a0 a1 k, LeO (impl_legsAt.f k a0 a1) (impl_legsAt.f (k + 1) a0 a1) := by
 intro a0 a1 k
 have ih0 := impl_legsAt.mono_l k
 unfold impl_legsAt.f
 repeat' with_reducible first | apply ih0 | exact LeO.refl _ | exact LeO.none _ | refine LeO.ite ?_ ?_ | refine LeO.bind ?_ (fun _ => ?_)
set_option maxHeartbeats 8000000 in
set_option maxRecDepth 100000 in
theorem impl_legsAt.calls (k : Nat) (A0 : Option Addr) (c0 : Nat) (l0 : List (S32)) (a1 : Int) (r : List Int) (w : World) (hr0 : Kd.C k32 w A0 l0.length l0) (hc0 : l0.length ≤ c0) (h : impl_legsAt.f k l0 a1 = some r) :
 Calls Tryz.prog 41 #[.slice A0 l0.length c0, .int .i64 a1] w fun e w' => ∃ v0_ : Value, e = .returned (v0_) ∧ Kd.R (Kd.int .i64) 3 w' w.heap.size (fun _ => True) v0_ r ∧ Below w.heap.size w w' := by
 have hu32 := Tryz.underlying32
 have HR0 := Aside0.mk hr0
 have HC0 := Aside0.mk hc0
 clear hr0 hc0
 have HB := Aside0.mk (Below.refl w.heap.size w)
 have H := h
 clear h
 unfold impl_legsAt.f at H
 have H' := Aside0.mk H
 clear H
 go_enter Tryz.func41, Tryz.ntmps41
 go_wp2
 go_loopg [5, 10] k (fun kq v5 v10 w' => ∃ (x5_1 : List Int) (x10_1 : Int), v10 = .int .i64 x10_1 ∧ Aside0 (impl_legsAt.l0 kq a1 x5_1 l0 (l0.length : Int) x10_1 = some r) ∧ Aside0 (kq ≤ k) ∧ Aside0 (Kd.R (Kd.int .i64) 3 w' w.heap.size (fun _ => True) v5 x5_1) ∧ Aside0 (Below w.heap.size w w'))
 case atStart => exact ⟨(([] : List Int)), (0), rB, H', ⟨Nat.le_refl _⟩, ⟨by first | exact Kd.R_nil _ _ _ _ _ | exact Kd.N_nil _ _ _ _ _ | exact Kd.V_nil _ _ _ _ _ | exact Kd.Q_nil _ _ _ _ _ | exact Kd.S_nil _ _ _ _ _⟩, (aB HB)⟩
 case round =>
  clear H'
  obtain ⟨x5_1, x10_1, rfl, HA, HK1, HO_5, HB⟩ := hrel
  cases gk with
  | zero => exact absurd HA.out (by simp [impl_legsAt.l0])
  | succ k1 =>
   have H := HA.out
   clear HA
   simp only [impl_legsAt.l0] at H
   replace H := ifD H
   rcases H with ⟨H, -, c3b0⟩ | ⟨H, -, c3b0⟩
   ·replace H := zN H
    obtain ⟨c4b0, H⟩ := H
    replace H := zN H
    obtain ⟨c5b0, H⟩ := H
    replace H := ifI H
    rcases H with ⟨H, -, c6b0, c6b1⟩ | ⟨H, c6, c6b0, c6b1⟩
    ·replace H := zM H
     obtain ⟨c7, H⟩ := H
     have LMc7 := Aside0.mk c7
     clear c7
     obtain ⟨y422, hy422⟩ : ∃ y_ : List Int, y_ = (x5_1 ++ [x10_1]) := ⟨_, rfl⟩
     rw [← hy422] at H
     have Ny422 := Aside0.mk hy422
     clear hy422
     have H' := Aside0.mk H
     clear H
     obtain ⟨ad420, e420, hx420_0, hx420_1, hx420_2, hx420_3, hx420_4, p420, q420⟩ := zT HR0 HB x10_1
     cases e420
     go_wp2_with (first | ((with_reducible refine gD 7 ?_); refine bxE 7 32 #[.int .i64 0, .int .i64 0, .int .i64 0, .int .i64 0, .int .i64 0] fun gb421 w8 hg hbox hb => ?_; have BK421 := Aside0.mk hbox; have GE421 := gB HB hg; replace HO_5 := uR HO_5 hb; replace HB := uB HB hb; clear hb hbox hg; have ⟨hcz9_0, hcz9_1, hcz9_2, hcz9_3, hcz9_4, hfz9_0⟩ := cz5 BK421) | ((with_reducible refine gate_builtin (b := .append) (xs := #[.tmp 25, .tmp 27]) rfl ?_); at_builtin; refine Kd.R_append (Kd.int .i64) (w0 := w) w.heap.size rfl (.tmp 25) (.tmp 27) 25 3 (.int .i64 0) 8 rfl Tryz.underlying25 info3 rfl (by decide) (by omega) u5 x5_1 x10_1 [.int .i64 x10_1] (fun _ => True) (fun _ => False) rfl (by first | (go_simp; done) | (go_simp; rfl)) ?aP (fun _ hk => hk.elim) ?aF ?aO ?aB ?aS ?aL ?_; (case aP => exact rfl); (case aB => exact (bW HB)); (case aF => exact (fun _ _ => trivial)); (case aO => exact (Kd.R_mono (zF (Kd.R_types HO_5.out BK421.out (by decide))) (fun _ hk => trivial))); (case aS => exact (below_size (bW HB))); (case aL => have := LMc7.out; omega); intro v423 w10 ho hb hg hat; rw [← Ny422.out] at ho; have HO424 := Aside0.mk (ho); replace BK421 := Aside0.mk (blk_grown (g := gb421) (o := .cells #[.int .i64 ((rd_T32 l0 x10_1).f0), .int .i64 ((rd_T32 l0 x10_1).f1), .int .i64 ((rd_T32 l0 x10_1).f2), .int .i64 ((rd_T32 l0 x10_1).f3), .int .i64 ((rd_T32 l0 x10_1).f4)] 32 (0, 0)) (by exact pW BK421) hg (Kd.R_ne HO_5.out BK421.out (by decide))); replace HB := Aside0.mk (hb); clear HO_5; clear ho hb hg hat))
     go_roundg k1
     case measure => have := HK1.out; omega
     case rel => exact ⟨(y422), (wrap64 (x10_1 + 1)), rB, H', ⟨by have := HK1.out; omega⟩, ⟨upR HO424.out⟩, (aB HB)⟩
    ·replace H := ifI H
     rcases H with ⟨H, -, c11b0, c11b1⟩ | ⟨H, c11, c11b0, c11b1⟩
     ·replace H := zM H
      obtain ⟨c12, H⟩ := H
      have LMc12 := Aside0.mk c12
      clear c12
      obtain ⟨y425, hy425⟩ : ∃ y_ : List Int, y_ = (x5_1 ++ [x10_1]) := ⟨_, rfl⟩
      rw [← hy425] at H
      have Ny425 := Aside0.mk hy425
      clear hy425
      have H' := Aside0.mk H
      clear H
      obtain ⟨ad420, e420, hx420_0, hx420_1, hx420_2, hx420_3, hx420_4, p420, q420⟩ := zT HR0 HB x10_1
      cases e420
      go_wp2_with (first | ((with_reducible refine gD 7 ?_); refine bxE 7 32 #[.int .i64 0, .int .i64 0, .int .i64 0, .int .i64 0, .int .i64 0] fun gb421 w13 hg hbox hb => ?_; have BK421 := Aside0.mk hbox; have GE421 := gB HB hg; replace HO_5 := uR HO_5 hb; replace HB := uB HB hb; clear hb hbox hg; have ⟨hcz14_0, hcz14_1, hcz14_2, hcz14_3, hcz14_4, hfz14_0⟩ := cz5 BK421) | ((with_reducible refine gate_builtin (b := .append) (xs := #[.tmp 25, .tmp 27]) rfl ?_); at_builtin; refine Kd.R_append (Kd.int .i64) (w0 := w) w.heap.size rfl (.tmp 25) (.tmp 27) 25 3 (.int .i64 0) 8 rfl Tryz.underlying25 info3 rfl (by decide) (by omega) u5 x5_1 x10_1 [.int .i64 x10_1] (fun _ => True) (fun _ => False) rfl (by first | (go_simp; done) | (go_simp; rfl)) ?aP (fun _ hk => hk.elim) ?aF ?aO ?aB ?aS ?aL ?_; (case aP => exact rfl); (case aB => exact (bW HB)); (case aF => exact (fun _ _ => trivial)); (case aO => exact (Kd.R_mono (zF (Kd.R_types HO_5.out BK421.out (by decide))) (fun _ hk => trivial))); (case aS => exact (below_size (bW HB))); (case aL => have := LMc12.out; omega); intro v426 w15 ho hb hg hat; rw [← Ny425.out] at ho; have HO427 := Aside0.mk (ho); replace BK421 := Aside0.mk (blk_grown (g := gb421) (o := .cells #[.int .i64 ((rd_T32 l0 x10_1).f0), .int .i64 ((rd_T32 l0 x10_1).f1), .int .i64 ((rd_T32 l0 x10_1).f2), .int .i64 ((rd_T32 l0 x10_1).f3), .int .i64 ((rd_T32 l0 x10_1).f4)] 32 (0, 0)) (by exact pW BK421) hg (Kd.R_ne HO_5.out BK421.out (by decide))); replace HB := Aside0.mk (hb); clear HO_5; clear ho hb hg hat))
      go_roundg k1
      case measure => have := HK1.out; omega
      case rel => exact ⟨(y425), (wrap64 (x10_1 + 1)), rB, H', ⟨by have := HK1.out; omega⟩, ⟨upR HO427.out⟩, (aB HB)⟩
     ·have H' := Aside0.mk H
      clear H
      obtain ⟨ad420, e420, hx420_0, hx420_1, hx420_2, hx420_3, hx420_4, p420, q420⟩ := zT HR0 HB x10_1
      cases e420
      go_wp2_with (first | ((with_reducible refine gD 7 ?_); refine bxE 7 32 #[.int .i64 0, .int .i64 0, .int .i64 0, .int .i64 0, .int .i64 0] fun gb421 w16 hg hbox hb => ?_; have BK421 := Aside0.mk hbox; have GE421 := gB HB hg; replace HO_5 := uR HO_5 hb; replace HB := uB HB hb; clear hb hbox hg; have ⟨hcz17_0, hcz17_1, hcz17_2, hcz17_3, hcz17_4, hfz17_0⟩ := cz5 BK421))
      go_roundg k1
      case measure => have := HK1.out; omega
      case rel => exact ⟨(x5_1), (wrap64 (x10_1 + 1)), rB, H', ⟨by have := HK1.out; omega⟩, ⟨Kd.R_mono (zF (Kd.R_types HO_5.out BK421.out (by decide))) (fun _ hk => trivial)⟩, (aB HB)⟩
   ·obtain rfl := Option.some.inj H
    go_wp2
    go_ret
    exact ⟨_, eB, upR HO_5.out, (bW HB)⟩

/-! ### impl_stepsFrom: function 23 -/
mutual
def impl_stepsFrom.l0 : Nat → List (S32) → List Int → List Int → List Int → Int → Int → Option (List Int)
 | 0, _, _, _, _, _, _ => none
 | k + 1, x0, x5, x6, x17, x18, x19 => if x19 < x18 then (if 0 ≤ x19 then (if x19 < (x17.length : Int) then (if 0 ≤ (rd x17 x19) then (if (rd x17 x19) < (x5.length : Int) then (impl_stepsFrom.l0 k x0 (x5.set ((rd x17 x19) : Int).toNat 0) x6 x17 x18 (wrap64 (x19 + 1))) else (none)) else (none)) else (none)) else (none)) else (impl_stepsFrom.l1 k x0 x5 x6 0)
def impl_stepsFrom.l1 : Nat → List (S32) → List Int → List Int → Int → Option (List Int)
 | 0, _, _, _, _ => none
 | k + 1, x0, x5, x6, x9 => if x9 < (x6.length : Int) then (if 0 ≤ x9 then ((impl_legsAt.f k x0 (rd x6 x9)).bind fun t440 => (impl_stepsFrom.l2 k x0 x5 x6 x9 t440 (t440.length : Int) 0)) else (none)) else (some x5)
def impl_stepsFrom.l2 : Nat → List (S32) → List Int → List Int → Int → List Int → Int → Int → Option (List Int)
 | 0, _, _, _, _, _, _, _ => none
 | k + 1, x0, x5, x6, x9, x38, x39, x40 => if x40 < x39 then (if 0 ≤ x40 then (if x40 < (x38.length : Int) then (if 0 ≤ (rd x38 x40) then (if (rd x38 x40) < (x0.length : Int) then (if 0 ≤ x9 then (if x9 < (x6.length : Int) then (if 0 ≤ (wrap64 ((wrap64 (((rd_T32 x0 (rd x38 x40)).f0) + ((rd_T32 x0 (rd x38 x40)).f1))) - (rd x6 x9))) then (if (wrap64 ((wrap64 (((rd_T32 x0 (rd x38 x40)).f0) + ((rd_T32 x0 (rd x38 x40)).f1))) - (rd x6 x9))) < (x5.length : Int) then (if (rd x5 (wrap64 ((wrap64 (((rd_T32 x0 (rd x38 x40)).f0) + ((rd_T32 x0 (rd x38 x40)).f1))) - (rd x6 x9)))) < 0 then (if 0 ≤ (rd x6 x9) then (if (rd x6 x9) < (x5.length : Int) then (if x6.length < 17592186044416 then (impl_stepsFrom.l2 k x0 (x5.set ((wrap64 ((wrap64 (((rd_T32 x0 (rd x38 x40)).f0) + ((rd_T32 x0 (rd x38 x40)).f1))) - (rd x6 x9))) : Int).toNat (wrap64 ((rd x5 (rd x6 x9)) + 1))) (x6 ++ [wrap64 ((wrap64 (((rd_T32 x0 (rd x38 x40)).f0) + ((rd_T32 x0 (rd x38 x40)).f1))) - (rd x6 x9))]) x9 x38 x39 (wrap64 (x40 + 1))) else (none)) else (none)) else (none)) else (impl_stepsFrom.l2 k x0 x5 x6 x9 x38 x39 (wrap64 (x40 + 1)))) else (none)) else (none)) else (none)) else (none)) else (none)) else (none)) else (none)) else (none)) else (impl_stepsFrom.l1 k x0 x5 x6 (wrap64 (x9 + 1)))
end
def impl_stepsFrom.f (k : Nat) (l0 : List (S32)) (l1 : List Int) : Option (List Int) := (slices_Repeat_int_int.f (([(-1)] : List Int)) 8).bind fun t431 => ((slices_Clone_int_int.f l1).bind fun t434 => (impl_stepsFrom.l0 k l0 t431 t434 l1 (l1.length : Int) 0))
theorem impl_stepsFrom.mono_l : ∀ k, (∀ y0 y1 y2 y3 y4 y5, LeO (impl_stepsFrom.l0 k y0 y1 y2 y3 y4 y5) (impl_stepsFrom.l0 (k + 1) y0 y1 y2 y3 y4 y5)) ∧ (∀ y0 y1 y2 y3, LeO (impl_stepsFrom.l1 k y0 y1 y2 y3) (impl_stepsFrom.l1 (k + 1) y0 y1 y2 y3)) ∧ (∀ y0 y1 y2 y3 y4 y5 y6, LeO (impl_stepsFrom.l2 k y0 y1 y2 y3 y4 y5 y6) (impl_stepsFrom.l2 (k + 1) y0 y1 y2 y3 y4 y5 y6))
 | 0 => ⟨fun _ _ _ _ _ _ r h => by simp [impl_stepsFrom.l0] at h, fun _ _ _ _ r h => by simp [impl_stepsFrom.l1] at h, fun _ _ _ _ _ _ _ r h => by simp [impl_stepsFrom.l2] at h⟩
 | k + 1 => by
  obtain ⟨ih0, ih1, ih2⟩ := impl_stepsFrom.mono_l k
  refine ⟨?_, ?_, ?_⟩
  ·intro y0 y1 y2 y3 y4 y5
   unfold impl_stepsFrom.l0
   repeat' with_reducible first | apply ih0 | apply ih1 | apply ih2 | apply impl_legsAt.mono | exact LeO.refl _ | exact LeO.none _ | refine LeO.ite ?_ ?_ | refine LeO.bind ?_ (fun _ => ?_)
  ·intro y0 y1 y2 y3
   unfold impl_stepsFrom.l1
   repeat' with_reducible first | apply ih0 | apply ih1 | apply ih2 | apply impl_legsAt.mono | exact LeO.refl _ | exact LeO.none _ | refine LeO.ite ?_ ?_ | refine LeO.bind ?_ (fun _ => ?_)
  ·intro y0 y1 y2 y3 y4 y5 y6
   unfold impl_stepsFrom.l2
   repeat' with_reducible first | apply ih0 | apply ih1 | apply ih2 | apply impl_legsAt.mono | exact LeO.refl _ | exact LeO.none _ | refine LeO.ite ?_ ?_ | refine LeO.bind ?_ (fun _ => ?_)
theorem impl_stepsFrom.mono : ∀ a0 a1 k, LeO (impl_stepsFrom.f k a0 a1) (impl_stepsFrom.f (k + 1) a0 a1) := by
 intro a0 a1 k
 obtain ⟨ih0, ih1, ih2⟩ := impl_stepsFrom.mono_l k
 unfold impl_stepsFrom.f
 repeat' with_reducible first | apply ih0 | apply ih1 | apply ih2 | apply impl_legsAt.mono | exact LeO.refl _ | exact LeO.none _ | refine LeO.ite ?_ ?_ | refine LeO.bind ?_ (fun _ => ?_)
set_option maxHeartbeats 8000000 in
set_option maxRecDepth 100000 in
theorem impl_stepsFrom.calls (k : Nat) (A0 : Option Addr) (c0 : Nat) (l0 : List (S32)) (A1 : Option Addr) (c1 : Nat) (l1 : List Int) (r : List Int) (w : World) (hr0 : Kd.C k32 w A0 l0.length l0) (hc0 : l0.length ≤ c0) (hr1 : Kd.C (Kd.int .i64) w A1 l1.length l1) (hc1 : l1.length ≤ c1) (h : impl_stepsFrom.f k l0 l1 = some r) :
 Calls Tryz.prog 23 #[.slice A0 l0.length c0, .slice A1 l1.length c1] w fun e w' => ∃ v0_ : Value, e = .returned (v0_) ∧ Kd.R (Kd.int .i64) 3 w' w.heap.size (fun _ => True) v0_ r ∧ Below w.heap.size w w' := by
 have HR0 := Aside0.mk hr0
 have HC0 := Aside0.mk hc0
 clear hr0 hc0
 have HR1 := Aside0.mk hr1
 have HC1 := Aside0.mk hc1
 clear hr1 hc1
 have HB := Aside0.mk (Below.refl w.heap.size w)
 have H := h
 clear h
 unfold impl_stepsFrom.f at H
 obtain ⟨y428, hy428⟩ : ∃ y_ : List Int, y_ = (([(-1)] : List Int)) := ⟨_, rfl⟩
 rw [← hy428] at H
 have Ny428 := Aside0.mk hy428
 clear hy428
 replace H := bA H
 obtain ⟨t431, A3, H⟩ := H
 replace H := bA H
 obtain ⟨t434, A4, H⟩ := H
 have H' := Aside0.mk H
 clear H
 go_enter Tryz.func23, Tryz.ntmps23
 go_wp2_with (first | ((with_reducible refine gate_dst (N := 13) rfl ?_); refine Kd.R_lit (Kd.int .i64) _ 3 ?hg (N := 13) ?hd (xs := ([(-1)] : List Int)) (inner := [.int .i64 (-1)]) (ok := fun _ => True) (okp := fun _ => True) ?hr ?hp (fun _ hk => hk) trivial (Below.refl _ _) (Nat.le_refl _) (by simp) ?_; (case hd => rfl); (case hg => rfl); (case hr => first | (go_simp; done) | (go_simp; rfl)); (case hp => exact zInts _); intro v429 w5 ho6 hb hg_ hnew_; clear hg_ hnew_; (first | rw [← Ny428.out] at ho6 | (simp only [Int.reduceToNat] at ho6; rw [← Ny428.out] at ho6)); have HO430 := Aside0.mk (Kd.R_lower ho6 (below_size (bW HB))); replace HB := uB HB hb; clear hb ho6; obtain ⟨Ao7, co7, eo7⟩ := Kd.R_slice HO430.out; subst eo7) | (go_at_call 39; (with_reducible refine (slices_Repeat_int_int.calls _ _ y428 8 t431 _ ?side1 ?side2 A3.out).mono ?_); (case side1 => exact zCR HO430); (case side2 => exact (Kd.R_reads' HO430.out).2.1); rintro e w8 ⟨v432, rfl, ho0, hb⟩; have HO433 := Aside0.mk (Kd.R_lower (Kd.R_new' ho0 (Kd.R_lt (upR HO430.out))) (below_size (bW HB))); replace HO430 := Aside0.mk (Kd.R_elder' (upR HO430.out) (Kd.R_base ho0) hb); replace HB := uB HB hb; (try clear hb); (try clear hk); (try clear ho0)) | (go_at_call 40; (with_reducible refine (slices_Clone_int_int.calls _ _ l1 t434 _ ?side1 ?side2 A4.out).mono ?_); (case side1 => exact zCB HR1 HB); (case side2 => exact HC1.out); rintro e w9 ⟨v435, rfl, ho0, hb⟩; have HO436 := Aside0.mk (Kd.R_lower (Kd.R_new' (Kd.R_new' ho0 (Kd.R_lt (upR HO430.out))) (Kd.R_lt (upR HO433.out))) (below_size (bW HB))); replace HO430 := Aside0.mk (Kd.R_elder' (upR HO430.out) (Kd.R_base ho0) hb); replace HO433 := Aside0.mk (Kd.R_elder' (upR HO433.out) (Kd.R_base ho0) hb); replace HB := uB HB hb; (try clear hb); (try clear hk); (try clear ho0)))
 go_loopg [19] k (fun kq v19 w' => ∃ (x5_1 : List Int) (x19_1 : Int), v19 = .int .i64 x19_1 ∧ Aside0 (impl_stepsFrom.l0 kq l0 x5_1 t434 l1 (l1.length : Int) x19_1 = some r) ∧ Aside0 (kq ≤ k) ∧ Aside0 (Kd.R (Kd.int .i64) 3 w' w.heap.size (fun k_ => some k_ ≠ (v435 : Value).ownBlock) v432 x5_1) ∧ Aside0 (Kd.R (Kd.int .i64) 3 w' w.heap.size (fun k_ => some k_ ≠ (v432 : Value).ownBlock) v435 t434) ∧ Aside0 (Below w.heap.size w w'))
 case atStart => exact ⟨(t431), (0), rB, H', ⟨Nat.le_refl _⟩, ⟨Kd.R_mono (upR HO433.out) (fun _ hk => hk.2)⟩, ⟨Kd.R_mono (upR HO436.out) (fun _ hk => hk.2)⟩, (aB HB)⟩
 case round =>
  clear H'
  try clear c1
  obtain ⟨x5_1, x19_1, rfl, HA, HK1, HO_5, HO_6, HB⟩ := hrel
  cases gk with
  | zero => exact absurd HA.out (by simp [impl_stepsFrom.l0])
  | succ k1 =>
   have H := HA.out
   clear HA
   simp only [impl_stepsFrom.l0] at H
   replace H := ifD H
   rcases H with ⟨H, -, c10b0⟩ | ⟨H, -, c10b0⟩
   ·replace H := zN H
    obtain ⟨c11b0, H⟩ := H
    replace H := zN H
    obtain ⟨c12b0, H⟩ := H
    replace H := zN H
    obtain ⟨c13b0, H⟩ := H
    replace H := zN H
    obtain ⟨c14b0, H⟩ := H
    obtain ⟨y438, hy438⟩ : ∃ y_ : List Int, y_ = (x5_1.set ((rd l1 x19_1) : Int).toNat 0) := ⟨_, rfl⟩
    rw [← hy438] at H
    have Ny438 := Aside0.mk hy438
    clear hy438
    have H' := Aside0.mk H
    clear H
    obtain ⟨ad437, e437, hx437_0, p437, q437⟩ := zi HR1 HB x19_1
    cases e437
    have p15 : 0 ≤ ((rd l1 x19_1) : Int) := of_decide_eq_true asmB
    have q15 : ((rd l1 x19_1) : Int) < ((x5_1.length : Int) : Int) := of_decide_eq_true asmB
    obtain ⟨go15, co15, eo15, gb15, gl15, cl15, HG15⟩ := Kd.R_form HO_5.out (by omega)
    (first | cases eo15 | (injection eo15 with ea_ en_ ec_; (first | subst ea_ | (injection ea_ with ea_; subst ea_)); subst ec_; clear en_))
    have GB15 := Aside0.mk gb15
    have GG15 := Aside0.mk HG15
    clear gb15 gl15 HG15
    obtain ⟨hx15_0, hf15_0⟩ := Kd.R_celln 0 HO_5.out ((rd l1 x19_1) : Int) p15 q15
    replace p15 := eq_true p15
    replace q15 := eq_true q15
    have HP16 := Kd.R_putg HO_5.out ((rd l1 x19_1) : Int) 0
    go_wp2_with (first | ((with_reducible refine gate_store (t := 3) (p := 25) rfl ?_); (try (rw [drewN_self wr]; generalize hq_ : World.drewN wr _ = wr; replace HO_5 := Aside0.mk (Kd.R_at hq_ HO_5.out); replace HO_6 := Aside0.mk (Kd.R_at hq_ HO_6.out); replace HB := Aside0.mk (below_at hq_ HB.out); clear hq_; (try (obtain ⟨hyq_, hzq_⟩ := Kd.R_celln 0 HO_5.out ((rd l1 x19_1) : Int) (of_decide_eq_true asmB) (of_decide_eq_true asmB))); (try (have HP16 := Kd.R_putg HO_5.out ((rd l1 x19_1) : Int) 0)))); refine store_event (t := 3) (p := 25) (v := ?vo_w17) (w1 := (wr.setCell ⟨go15, ((rd l1 x19_1) : Int).toNat, none⟩ (.int .i64 0))) ?hg ?ho ?hn ?hr ?_; (case ho => rfl); (case hg => rfl); (case hn => rfl); (case hr => first | (go_simp; done) | (go_simp; rfl)); intro w17 hw; have hg : wr.grownBy w17 (some go15) := (by rw [hw]; exact HP16.2); have hp_ : Kd.R (Kd.int .i64) 3 w17 w.heap.size (fun k_ => some k_ ≠ (v435 : Value).ownBlock) (.slice (some ⟨go15, 0, none⟩) x5_1.length co15) y438 := (by rw [hw, Ny438.out]; exact HP16.1); clear HP16; replace HO_5 := Aside0.mk (hp_); replace HO_6 := Aside0.mk (Kd.R_after (v := (.slice (some ⟨go15, 0, none⟩) x5_1.length co15)) (v1 := (.slice (some ⟨go15, 0, none⟩) x5_1.length co15)) (ok := (fun _ => True)) (Kd.R_mono (upR HO_6.out) (fun _ hk => ⟨trivial, hk⟩)) hg (.inl rfl)); replace HB := Aside0.mk ((by rw [hw]; exact below_set (HB.out) GB15.out : Below w.heap.size w w17)); clear hg hw hp_))
    go_roundg k1
    case measure => have := HK1.out; omega
    case rel => exact ⟨(y438), (wrap64 (x19_1 + 1)), rB, H', ⟨by have := HK1.out; omega⟩, ⟨upR HO_5.out⟩, ⟨Kd.R_mono (upR HO_6.out) (fun _ hk => hk.2)⟩, (aB HB)⟩
   ·have H' := Aside0.mk H
    clear H
    go_wp2
    go_loopg [6, 9] k1 (fun kq v6 v9 w' => ∃ (x5_2 : List Int) (x6_2 : List Int) (x9_2 : Int), v9 = .int .i64 x9_2 ∧ Aside0 (impl_stepsFrom.l1 kq l0 x5_2 x6_2 x9_2 = some r) ∧ Aside0 (kq ≤ k1) ∧ Aside0 (Kd.R (Kd.int .i64) 3 w' w.heap.size (fun k_ => some k_ ≠ (v6 : Value).ownBlock) v432 x5_2) ∧ Aside0 (Kd.R (Kd.int .i64) 3 w' w.heap.size (fun k_ => some k_ ≠ (v432 : Value).ownBlock) v6 x6_2) ∧ Aside0 (Below w.heap.size w w'))
    case atStart => exact ⟨(x5_1), (t434), (0), rB, H', ⟨Nat.le_refl _⟩, ⟨upR HO_5.out⟩, ⟨upR HO_6.out⟩, (aB HB)⟩
    case round =>
     clear H'
     try clear c1
     try clear c10b0
     obtain ⟨x5_2, x6_2, x9_2, rfl, HA, HK2, HO_5, HO_6, HB⟩ := hrel
     cases gk with
     | zero => exact absurd HA.out (by simp [impl_stepsFrom.l1])
     | succ k2 =>
      have H := HA.out
      clear HA
      simp only [impl_stepsFrom.l1] at H
      replace H := ifD H
      rcases H with ⟨H, -, c18b0⟩ | ⟨H, -, c18b0⟩
      ·replace H := zN H
       obtain ⟨c19b0, H⟩ := H
       replace H := bA H
       obtain ⟨t440, A20, H⟩ := H
       have H' := Aside0.mk H
       clear H
       obtain ⟨Ao21, co21, eo21⟩ := Kd.R_slice HO_6.out
       subst eo21
       obtain ⟨ad439, e439, hx439_0, p439, q439⟩ := zr HO_6 x9_2
       cases e439
       go_wp2_with (first | (go_at_call 41; (with_reducible refine (impl_legsAt.calls k2 _ _ l0 (rd x6_2 x9_2) t440 _ ?side1 ?side2 A20.out).mono ?_); (case side1 => exact zCB HR0 HB); (case side2 => exact HC0.out); rintro e w22 ⟨v441, rfl, ho0, hb⟩; have HO442 := Aside0.mk (Kd.R_lower (Kd.R_new' (Kd.R_new' ho0 (Kd.R_lt (upR HO_5.out))) (Kd.R_lt (upR HO_6.out))) (below_size (bW HB))); replace HO_5 := Aside0.mk (Kd.R_elder' (upR HO_5.out) (Kd.R_base ho0) hb); replace HO_6 := Aside0.mk (Kd.R_elder' (upR HO_6.out) (Kd.R_base ho0) hb); replace HB := uB HB hb; (try clear hb); (try clear hk); (try clear ho0); obtain ⟨Ao23, co23, eo23⟩ := Kd.R_slice HO442.out; subst eo23))
       go_loopg [6, 40] k2 (fun kq v6 v40 w' => ∃ (x5_3 : List Int) (x6_3 : List Int) (x40_3 : Int), v40 = .int .i64 x40_3 ∧ Aside0 (impl_stepsFrom.l2 kq l0 x5_3 x6_3 x9_2 t440 (t440.length : Int) x40_3 = some r) ∧ Aside0 (kq ≤ k2) ∧ Aside0 (Kd.R (Kd.int .i64) 3 w' w.heap.size (fun k_ => some k_ ≠ (v6 : Value).ownBlock ∧ some k_ ≠ ((.slice Ao23 t440.length co23) : Value).ownBlock) v432 x5_3) ∧ Aside0 (Kd.R (Kd.int .i64) 3 w' w.heap.size (fun k_ => some k_ ≠ (v432 : Value).ownBlock ∧ some k_ ≠ ((.slice Ao23 t440.length co23) : Value).ownBlock) v6 x6_3) ∧ Aside0 (Kd.R (Kd.int .i64) 3 w' w.heap.size (fun k_ => some k_ ≠ (v432 : Value).ownBlock ∧ some k_ ≠ (v6 : Value).ownBlock) (.slice Ao23 t440.length co23) t440) ∧ Aside0 (Below w.heap.size w w'))
       case atStart => exact ⟨(x5_2), (x6_2), (0), rB, H', ⟨Nat.le_refl _⟩, ⟨upR HO_5.out⟩, ⟨upR HO_6.out⟩, ⟨Kd.R_mono (upR HO442.out) (fun _ hk => ⟨hk.1.2, hk.2⟩)⟩, (aB HB)⟩
       case round =>
        clear H'
        try clear c1
        try clear c10b0
        try clear c18b0
        try clear c19
        try clear c19b0
        try clear hx439_0
        try clear p439
        try clear q439
        obtain ⟨x5_3, x6_3, x40_3, rfl, HA, HK3, HO_5, HO_6, HO_38, HB⟩ := hrel
        cases gk with
        | zero => exact absurd HA.out (by simp [impl_stepsFrom.l2])
        | succ k3 =>
         have H := HA.out
         clear HA
         simp only [impl_stepsFrom.l2] at H
         replace H := ifD H
         rcases H with ⟨H, -, c24b0⟩ | ⟨H, -, c24b0⟩
         ·replace H := zN H
          obtain ⟨c25b0, H⟩ := H
          replace H := zN H
          obtain ⟨c26b0, H⟩ := H
          replace H := zN H
          obtain ⟨c27b0, H⟩ := H
          replace H := zN H
          obtain ⟨c28b0, H⟩ := H
          replace H := zN H
          obtain ⟨c29b0, H⟩ := H
          replace H := zN H
          obtain ⟨c30b0, H⟩ := H
          obtain ⟨ji31, hji31⟩ : ∃ j_ : Int, (wrap64 ((wrap64 (((rd_T32 l0 (rd t440 x40_3)).f0) + ((rd_T32 l0 (rd t440 x40_3)).f1))) - (rd x6_3 x9_2))) = j_ := ⟨_, rfl⟩
          replace H : (if 0 ≤ (ji31) then (if (ji31) < (x5_3.length : Int) then (if (rd x5_3 (ji31)) < 0 then (if 0 ≤ (rd x6_3 x9_2) then (if (rd x6_3 x9_2) < (x5_3.length : Int) then (if x6_3.length < 17592186044416 then (impl_stepsFrom.l2 k3 l0 (x5_3.set ((ji31) : Int).toNat (wrap64 ((rd x5_3 (rd x6_3 x9_2)) + 1))) (x6_3 ++ [ji31]) x9_2 t440 (t440.length : Int) (wrap64 (x40_3 + 1))) else (none)) else (none)) else (none)) else (impl_stepsFrom.l2 k3 l0 x5_3 x6_3 x9_2 t440 (t440.length : Int) (wrap64 (x40_3 + 1)))) else (none)) else (none)) = some r := by first | (rw [hji31] at H; exact H) | (simp only [hji31] at H ⊢; exact H)
          have hji31w : (IntKind.i64.wrap ((wrap64 (((rd_T32 l0 (rd t440 x40_3)).f0) + ((rd_T32 l0 (rd t440 x40_3)).f1))) - (rd x6_3 x9_2))) = ji31 := (i64_w _).trans hji31
          replace H := zN H
          obtain ⟨c32b0, H⟩ := H
          replace H := zN H
          obtain ⟨c33b0, H⟩ := H
          replace H := ifD H
          rcases H with ⟨H, -, c34b0⟩ | ⟨H, -, c34b0⟩
          ·replace H := zN H
           obtain ⟨c35b0, H⟩ := H
           replace H := zN H
           obtain ⟨c36b0, H⟩ := H
           obtain ⟨y450, hy450⟩ : ∃ y_ : List Int, y_ = (x5_3.set ((ji31) : Int).toNat (wrap64 ((rd x5_3 (rd x6_3 x9_2)) + 1))) := ⟨_, rfl⟩
           rw [← hy450] at H
           have Ny450 := Aside0.mk hy450
           clear hy450
           replace H := zM H
           obtain ⟨c38, H⟩ := H
           have LMc38 := Aside0.mk c38
           clear c38
           obtain ⟨y451, hy451⟩ : ∃ y_ : List Int, y_ = (x6_3 ++ [ji31]) := ⟨_, rfl⟩
           rw [← hy451] at H
           have Ny451 := Aside0.mk hy451
           clear hy451
           have H' := Aside0.mk H
           clear H
           obtain ⟨ad443, e443, hx443_0, p443, q443⟩ := zr HO_38 x40_3
           cases e443
           obtain ⟨ad444, e444, hx444_0, hx444_1, hx444_2, hx444_3, hx444_4, p444, q444⟩ := zT HR0 HB (rd t440 x40_3)
           cases e444
           obtain ⟨ad445, e445, hx445_0, hx445_1, hx445_2, hx445_3, hx445_4, p445, q445⟩ := zT HR0 HB (rd t440 x40_3)
           obtain rfl : ad444 = ad445 := (by injection e445)
           obtain ⟨Ao39, co39, eo39⟩ := Kd.R_slice HO_6.out
           subst eo39
           obtain ⟨ad446, e446, hx446_0, p446, q446⟩ := zr HO_6 x9_2
           cases e446
           obtain ⟨Ao40, co40, eo40⟩ := Kd.R_slice HO_5.out
           subst eo40
           obtain ⟨ad447, e447, hx447_0, p447, q447⟩ := zr HO_5 (ji31)
           cases e447
           obtain ⟨ad448, e448, hx448_0, p448, q448⟩ := zr HO_6 x9_2
           obtain rfl : ad446 = ad448 := (by injection e448)
           obtain ⟨ad449, e449, hx449_0, p449, q449⟩ := zr HO_5 (rd x6_3 x9_2)
           obtain rfl : ad447 = ad449 := (by injection e449)
           have p37 : 0 ≤ ((ji31) : Int) := of_decide_eq_true asmB
           have q37 : ((ji31) : Int) < ((x5_3.length : Int) : Int) := of_decide_eq_true asmB
           obtain ⟨go37, co37, eo37, gb37, gl37, cl37, HG37⟩ := Kd.R_form HO_5.out (by omega)
           (first | cases eo37 | (injection eo37 with ea_ en_ ec_; (first | subst ea_ | (injection ea_ with ea_; subst ea_)); subst ec_; clear en_))
           have GB37 := Aside0.mk gb37
           have GG37 := Aside0.mk HG37
           clear gb37 gl37 HG37
           (first | simp only [add_plain] at hx447_0 | skip)
           (first | simp only [add_plain] at hx449_0 | skip)
           obtain ⟨hx37_0, hf37_0⟩ := Kd.R_celln 0 HO_5.out ((ji31) : Int) p37 q37
           replace p37 := eq_true p37
           replace q37 := eq_true q37
           have HP41 := Kd.R_putg HO_5.out ((ji31) : Int) (wrap64 ((rd x5_3 (rd x6_3 x9_2)) + 1))
           go_wp2_with (first | ((with_reducible refine gate_store (t := 3) (p := 75) rfl ?_); (try (rw [drewN_self wr]; generalize hq_ : World.drewN wr _ = wr; replace HO_5 := Aside0.mk (Kd.R_at hq_ HO_5.out); replace HO_6 := Aside0.mk (Kd.R_at hq_ HO_6.out); replace HO_38 := Aside0.mk (Kd.R_at hq_ HO_38.out); replace HB := Aside0.mk (below_at hq_ HB.out); clear hq_; (try (obtain ⟨hyq_, hzq_⟩ := Kd.R_celln 0 HO_5.out ((ji31) : Int) (of_decide_eq_true asmB) (of_decide_eq_true asmB))); (try (have HP41 := Kd.R_putg HO_5.out ((ji31) : Int) (wrap64 ((rd x5_3 (rd x6_3 x9_2)) + 1)))))); refine store_event (t := 3) (p := 75) (v := ?vo_w42) (w1 := (wr.setCell ⟨go37, ((ji31) : Int).toNat, none⟩ (.int .i64 (wrap64 ((rd x5_3 (rd x6_3 x9_2)) + 1))))) ?hg ?ho ?hn ?hr ?_; (case ho => rfl); (case hg => rfl); (case hn => rfl); (case hr => first | (go_simp; done) | (go_simp; rfl)); intro w42 hw; have hg : wr.grownBy w42 (some go37) := (by rw [hw]; exact HP41.2); have hp_ : Kd.R (Kd.int .i64) 3 w42 w.heap.size (fun k_ => some k_ ≠ (.slice (some ad446) x6_3.length co39 : Value).ownBlock ∧ some k_ ≠ (.slice (some ad443) t440.length co23 : Value).ownBlock) (.slice (some ⟨go37, 0, none⟩) x5_3.length co40) y450 := (by rw [hw, Ny450.out]; exact HP41.1); clear HP41; replace HO_5 := Aside0.mk (hp_); replace HO_6 := Aside0.mk (Kd.R_after (v := (.slice (some ⟨go37, 0, none⟩) x5_3.length co40)) (v1 := (.slice (some ⟨go37, 0, none⟩) x5_3.length co40)) (ok := (fun k_ => some k_ ≠ (.slice (some ad443) t440.length co23 : Value).ownBlock)) (Kd.R_mono (upR HO_6.out) (fun _ hk => ⟨hk.2, hk.1⟩)) hg (.inl rfl)); replace HO_38 := Aside0.mk (Kd.R_after (v := (.slice (some ⟨go37, 0, none⟩) x5_3.length co40)) (v1 := (.slice (some ⟨go37, 0, none⟩) x5_3.length co40)) (ok := (fun k_ => some k_ ≠ (.slice (some ad446) x6_3.length co39 : Value).ownBlock)) (Kd.R_mono (upR HO_38.out) (fun _ hk => ⟨hk.2, hk.1⟩)) hg (.inl rfl)); replace HB := Aside0.mk ((by rw [hw]; exact below_set (HB.out) GB37.out : Below w.heap.size w w42)); clear hg hw hp_) | ((with_reducible refine gate_builtin (b := .append) (xs := #[.tmp 76, .tmp 78]) rfl ?_); at_builtin; refine Kd.R_append (Kd.int .i64) (w0 := w) w.heap.size rfl (.tmp 76) (.tmp 78) 25 3 (.int .i64 0) 8 rfl Tryz.underlying25 info3 rfl (by decide) (by omega) (.slice (some ad446) x6_3.length co39) x6_3 ji31 [.int .i64 ji31] (fun k_ => some k_ ≠ (.slice (some ⟨go37, 0, none⟩) x5_3.length co40 : Value).ownBlock ∧ some k_ ≠ (.slice (some ad443) t440.length co23 : Value).ownBlock) (fun _ => False) rfl rfl ?aP (fun _ hk => hk.elim) ?aF ?aO ?aB ?aS ?aL ?_; (case aP => exact rfl); (case aB => exact (bW HB)); (case aF => exact (fun k_ hk => ⟨Kd.fresh' (Kd.R_lt (upR HO_5.out)) k_ hk, Kd.fresh' (Kd.R_lt (upR HO_38.out)) k_ hk⟩)); (case aO => exact (Kd.R_mono (upR HO_6.out) (fun _ hk => ⟨hk.2, hk.1⟩))); (case aS => exact (below_size (bW HB))); (case aL => have := LMc38.out; omega); intro v452 w43 ho hb hg hat; rw [← Ny451.out] at ho; have HO453 := Aside0.mk (ho); replace HO_5 := Aside0.mk (Kd.R_after (ok := (fun k_ => some k_ ≠ (.slice (some ad443) t440.length co23 : Value).ownBlock)) (Kd.R_mono (upR HO_5.out) (fun _ hk => ⟨hk.2, hk.1⟩)) hg hat); replace HO_38 := Aside0.mk (Kd.R_after (ok := (fun k_ => some k_ ≠ (.slice (some ⟨go37, 0, none⟩) x5_3.length co40 : Value).ownBlock)) (Kd.R_mono (upR HO_38.out) (fun _ hk => ⟨hk.2, hk.1⟩)) hg hat); replace HB := Aside0.mk (hb); clear HO_6; clear ho hb hg hat))
           repeat (go_quiet (first | ((with_reducible refine gate_store (t := 3) (p := 75) rfl ?_); (try (rw [drewN_self wr]; generalize hq_ : World.drewN wr _ = wr; replace HO_5 := Aside0.mk (Kd.R_at hq_ HO_5.out); replace HO_6 := Aside0.mk (Kd.R_at hq_ HO_6.out); replace HO_38 := Aside0.mk (Kd.R_at hq_ HO_38.out); replace HB := Aside0.mk (below_at hq_ HB.out); clear hq_; (try (obtain ⟨hyq_, hzq_⟩ := Kd.R_celln 0 HO_5.out ((ji31) : Int) (of_decide_eq_true asmB) (of_decide_eq_true asmB))); (try (have HP41 := Kd.R_putg HO_5.out ((ji31) : Int) (wrap64 ((rd x5_3 (rd x6_3 x9_2)) + 1)))))); refine store_event (t := 3) (p := 75) (v := ?vo_w42) (w1 := (wr.setCell ⟨go37, ((ji31) : Int).toNat, none⟩ (.int .i64 (wrap64 ((rd x5_3 (rd x6_3 x9_2)) + 1))))) ?hg ?ho ?hn ?hr ?_; (case ho => rfl); (case hg => rfl); (case hn => rfl); (case hr => first | (go_simp; done) | (go_simp; rfl)); intro w42 hw; have hg : wr.grownBy w42 (some go37) := (by rw [hw]; exact HP41.2); have hp_ : Kd.R (Kd.int .i64) 3 w42 w.heap.size (fun k_ => some k_ ≠ (.slice (some ad446) x6_3.length co39 : Value).ownBlock ∧ some k_ ≠ (.slice (some ad443) t440.length co23 : Value).ownBlock) (.slice (some ⟨go37, 0, none⟩) x5_3.length co40) y450 := (by rw [hw, Ny450.out]; exact HP41.1); clear HP41; replace HO_5 := Aside0.mk (hp_); replace HO_6 := Aside0.mk (Kd.R_after (v := (.slice (some ⟨go37, 0, none⟩) x5_3.length co40)) (v1 := (.slice (some ⟨go37, 0, none⟩) x5_3.length co40)) (ok := (fun k_ => some k_ ≠ (.slice (some ad443) t440.length co23 : Value).ownBlock)) (Kd.R_mono (upR HO_6.out) (fun _ hk => ⟨hk.2, hk.1⟩)) hg (.inl rfl)); replace HO_38 := Aside0.mk (Kd.R_after (v := (.slice (some ⟨go37, 0, none⟩) x5_3.length co40)) (v1 := (.slice (some ⟨go37, 0, none⟩) x5_3.length co40)) (ok := (fun k_ => some k_ ≠ (.slice (some ad446) x6_3.length co39 : Value).ownBlock)) (Kd.R_mono (upR HO_38.out) (fun _ hk => ⟨hk.2, hk.1⟩)) hg (.inl rfl)); replace HB := Aside0.mk ((by rw [hw]; exact below_set (HB.out) GB37.out : Below w.heap.size w w42)); clear hg hw hp_) | ((with_reducible refine gate_builtin (b := .append) (xs := #[.tmp 76, .tmp 78]) rfl ?_); at_builtin; refine Kd.R_append (Kd.int .i64) (w0 := w) w.heap.size rfl (.tmp 76) (.tmp 78) 25 3 (.int .i64 0) 8 rfl Tryz.underlying25 info3 rfl (by decide) (by omega) (.slice (some ad446) x6_3.length co39) x6_3 ji31 [.int .i64 ji31] (fun k_ => some k_ ≠ (.slice (some ⟨go37, 0, none⟩) x5_3.length co40 : Value).ownBlock ∧ some k_ ≠ (.slice (some ad443) t440.length co23 : Value).ownBlock) (fun _ => False) rfl rfl ?aP (fun _ hk => hk.elim) ?aF ?aO ?aB ?aS ?aL ?_; (case aP => exact rfl); (case aB => exact (bW HB)); (case aF => exact (fun k_ hk => ⟨Kd.fresh' (Kd.R_lt (upR HO_5.out)) k_ hk, Kd.fresh' (Kd.R_lt (upR HO_38.out)) k_ hk⟩)); (case aO => exact (Kd.R_mono (upR HO_6.out) (fun _ hk => ⟨hk.2, hk.1⟩))); (case aS => exact (below_size (bW HB))); (case aL => have := LMc38.out; omega); intro v452 w43 ho hb hg hat; rw [← Ny451.out] at ho; have HO453 := Aside0.mk (ho); replace HO_5 := Aside0.mk (Kd.R_after (ok := (fun k_ => some k_ ≠ (.slice (some ad443) t440.length co23 : Value).ownBlock)) (Kd.R_mono (upR HO_5.out) (fun _ hk => ⟨hk.2, hk.1⟩)) hg hat); replace HO_38 := Aside0.mk (Kd.R_after (ok := (fun k_ => some k_ ≠ (.slice (some ⟨go37, 0, none⟩) x5_3.length co40 : Value).ownBlock)) (Kd.R_mono (upR HO_38.out) (fun _ hk => ⟨hk.2, hk.1⟩)) hg hat); replace HB := Aside0.mk (hb); clear HO_6; clear ho hb hg hat)); try go_wp2_with (first | ((with_reducible refine gate_store (t := 3) (p := 75) rfl ?_); (try (rw [drewN_self wr]; generalize hq_ : World.drewN wr _ = wr; replace HO_5 := Aside0.mk (Kd.R_at hq_ HO_5.out); replace HO_6 := Aside0.mk (Kd.R_at hq_ HO_6.out); replace HO_38 := Aside0.mk (Kd.R_at hq_ HO_38.out); replace HB := Aside0.mk (below_at hq_ HB.out); clear hq_; (try (obtain ⟨hyq_, hzq_⟩ := Kd.R_celln 0 HO_5.out ((ji31) : Int) (of_decide_eq_true asmB) (of_decide_eq_true asmB))); (try (have HP41 := Kd.R_putg HO_5.out ((ji31) : Int) (wrap64 ((rd x5_3 (rd x6_3 x9_2)) + 1)))))); refine store_event (t := 3) (p := 75) (v := ?vo_w42) (w1 := (wr.setCell ⟨go37, ((ji31) : Int).toNat, none⟩ (.int .i64 (wrap64 ((rd x5_3 (rd x6_3 x9_2)) + 1))))) ?hg ?ho ?hn ?hr ?_; (case ho => rfl); (case hg => rfl); (case hn => rfl); (case hr => first | (go_simp; done) | (go_simp; rfl)); intro w42 hw; have hg : wr.grownBy w42 (some go37) := (by rw [hw]; exact HP41.2); have hp_ : Kd.R (Kd.int .i64) 3 w42 w.heap.size (fun k_ => some k_ ≠ (.slice (some ad446) x6_3.length co39 : Value).ownBlock ∧ some k_ ≠ (.slice (some ad443) t440.length co23 : Value).ownBlock) (.slice (some ⟨go37, 0, none⟩) x5_3.length co40) y450 := (by rw [hw, Ny450.out]; exact HP41.1); clear HP41; replace HO_5 := Aside0.mk (hp_); replace HO_6 := Aside0.mk (Kd.R_after (v := (.slice (some ⟨go37, 0, none⟩) x5_3.length co40)) (v1 := (.slice (some ⟨go37, 0, none⟩) x5_3.length co40)) (ok := (fun k_ => some k_ ≠ (.slice (some ad443) t440.length co23 : Value).ownBlock)) (Kd.R_mono (upR HO_6.out) (fun _ hk => ⟨hk.2, hk.1⟩)) hg (.inl rfl)); replace HO_38 := Aside0.mk (Kd.R_after (v := (.slice (some ⟨go37, 0, none⟩) x5_3.length co40)) (v1 := (.slice (some ⟨go37, 0, none⟩) x5_3.length co40)) (ok := (fun k_ => some k_ ≠ (.slice (some ad446) x6_3.length co39 : Value).ownBlock)) (Kd.R_mono (upR HO_38.out) (fun _ hk => ⟨hk.2, hk.1⟩)) hg (.inl rfl)); replace HB := Aside0.mk ((by rw [hw]; exact below_set (HB.out) GB37.out : Below w.heap.size w w42)); clear hg hw hp_) | ((with_reducible refine gate_builtin (b := .append) (xs := #[.tmp 76, .tmp 78]) rfl ?_); at_builtin; refine Kd.R_append (Kd.int .i64) (w0 := w) w.heap.size rfl (.tmp 76) (.tmp 78) 25 3 (.int .i64 0) 8 rfl Tryz.underlying25 info3 rfl (by decide) (by omega) (.slice (some ad446) x6_3.length co39) x6_3 ji31 [.int .i64 ji31] (fun k_ => some k_ ≠ (.slice (some ⟨go37, 0, none⟩) x5_3.length co40 : Value).ownBlock ∧ some k_ ≠ (.slice (some ad443) t440.length co23 : Value).ownBlock) (fun _ => False) rfl rfl ?aP (fun _ hk => hk.elim) ?aF ?aO ?aB ?aS ?aL ?_; (case aP => exact rfl); (case aB => exact (bW HB)); (case aF => exact (fun k_ hk => ⟨Kd.fresh' (Kd.R_lt (upR HO_5.out)) k_ hk, Kd.fresh' (Kd.R_lt (upR HO_38.out)) k_ hk⟩)); (case aO => exact (Kd.R_mono (upR HO_6.out) (fun _ hk => ⟨hk.2, hk.1⟩))); (case aS => exact (below_size (bW HB))); (case aL => have := LMc38.out; omega); intro v452 w43 ho hb hg hat; rw [← Ny451.out] at ho; have HO453 := Aside0.mk (ho); replace HO_5 := Aside0.mk (Kd.R_after (ok := (fun k_ => some k_ ≠ (.slice (some ad443) t440.length co23 : Value).ownBlock)) (Kd.R_mono (upR HO_5.out) (fun _ hk => ⟨hk.2, hk.1⟩)) hg hat); replace HO_38 := Aside0.mk (Kd.R_after (ok := (fun k_ => some k_ ≠ (.slice (some ⟨go37, 0, none⟩) x5_3.length co40 : Value).ownBlock)) (Kd.R_mono (upR HO_38.out) (fun _ hk => ⟨hk.2, hk.1⟩)) hg hat); replace HB := Aside0.mk (hb); clear HO_6; clear ho hb hg hat)))
           go_roundg k3
           case measure => have := HK1.out; have := HK2.out; have := HK3.out; omega
           case rel => exact ⟨(y450), (y451), (wrap64 (x40_3 + 1)), rB, H', ⟨by have := HK1.out; have := HK2.out; have := HK3.out; omega⟩, ⟨Kd.R_mono (upR HO_5.out) (fun _ hk => ⟨hk.2, hk.1⟩)⟩, ⟨upR HO453.out⟩, ⟨upR HO_38.out⟩, (aB HB)⟩
          ·have H' := Aside0.mk H
           clear H
           obtain ⟨ad443, e443, hx443_0, p443, q443⟩ := zr HO_38 x40_3
           cases e443
           obtain ⟨ad444, e444, hx444_0, hx444_1, hx444_2, hx444_3, hx444_4, p444, q444⟩ := zT HR0 HB (rd t440 x40_3)
           cases e444
           obtain ⟨ad445, e445, hx445_0, hx445_1, hx445_2, hx445_3, hx445_4, p445, q445⟩ := zT HR0 HB (rd t440 x40_3)
           obtain rfl : ad444 = ad445 := (by injection e445)
           obtain ⟨Ao44, co44, eo44⟩ := Kd.R_slice HO_6.out
           subst eo44
           obtain ⟨ad446, e446, hx446_0, p446, q446⟩ := zr HO_6 x9_2
           cases e446
           obtain ⟨Ao45, co45, eo45⟩ := Kd.R_slice HO_5.out
           subst eo45
           obtain ⟨ad447, e447, hx447_0, p447, q447⟩ := zr HO_5 (ji31)
           cases e447
           go_wp2
           repeat (go_quiet (fail); try go_wp2)
           go_roundg k3
           case measure => have := HK1.out; have := HK2.out; have := HK3.out; omega
           case rel => exact ⟨(x5_3), (x6_3), (wrap64 (x40_3 + 1)), rB, H', ⟨by have := HK1.out; have := HK2.out; have := HK3.out; omega⟩, ⟨upR HO_5.out⟩, ⟨upR HO_6.out⟩, ⟨upR HO_38.out⟩, (aB HB)⟩
         ·have H' := Aside0.mk H
          clear H
          go_wp2
          go_roundg k3
          case measure => have := HK1.out; have := HK2.out; have := HK3.out; omega
          case rel => exact ⟨(x5_3), (x6_3), (wrap64 (x9_2 + 1)), rB, H', ⟨by have := HK1.out; have := HK2.out; have := HK3.out; omega⟩, ⟨Kd.R_mono (upR HO_5.out) (fun _ hk => hk.1)⟩, ⟨Kd.R_mono (upR HO_6.out) (fun _ hk => hk.1)⟩, (aB HB)⟩
      ·obtain rfl := Option.some.inj H
       obtain ⟨Ao46, co46, eo46⟩ := Kd.R_slice HO_6.out
       subst eo46
       go_wp2
       go_ret
       exact ⟨_, eB, Kd.R_mono (upR HO_5.out) (fun _ hk => trivial), (bW HB)⟩

/-! ### impl_StepsFrom: function 6 -/
def impl_StepsFrom.f (k : Nat) (l0 : List (S32)) (l1 : List Int) : Option (List Int × Bool) := (impl_areEntrances.f k l0 l1).bind fun t454 => (if t454 = true then ((impl_stepsFrom.f k l0 l1).bind fun t455 => (some (t455, true))) else (some (([] : List Int), false)))
theorem impl_StepsFrom.mono : ∀ a0 a1 k, LeO (impl_StepsFrom.f k a0 a1) (impl_StepsFrom.f (k + 1) a0 a1) := by
 intro a0 a1 k
 unfold impl_StepsFrom.f
 repeat' with_reducible first | apply impl_areEntrances.mono | apply impl_stepsFrom.mono | exact LeO.refl _ | exact LeO.none _ | refine LeO.ite ?_ ?_ | refine LeO.bind ?_ (fun _ => ?_)
set_option maxHeartbeats 8000000 in
set_option maxRecDepth 100000 in
theorem impl_StepsFrom.calls (k : Nat) (A0 : Option Addr) (c0 : Nat) (l0 : List (S32)) (A1 : Option Addr) (c1 : Nat) (l1 : List Int) (r1 : List Int) (r2 : Bool) (w : World) (hr0 : Kd.C k32 w A0 l0.length l0) (hc0 : l0.length ≤ c0) (hr1 : Kd.C (Kd.int .i64) w A1 l1.length l1) (hc1 : l1.length ≤ c1) (h : impl_StepsFrom.f k l0 l1 = some (r1, r2)) :
 Calls Tryz.prog 6 #[.slice A0 l0.length c0, .slice A1 l1.length c1] w fun e w' => ∃ v0_ : Value, e = .returned (.tuple #[v0_, .bool r2]) ∧ Kd.R (Kd.int .i64) 3 w' w.heap.size (fun _ => True) v0_ r1 ∧ Below w.heap.size w w' := by
 have HR0 := Aside0.mk hr0
 have HC0 := Aside0.mk hc0
 clear hr0 hc0
 have HR1 := Aside0.mk hr1
 have HC1 := Aside0.mk hc1
 clear hr1 hc1
 have HB := Aside0.mk (Below.refl w.heap.size w)
 have H := h
 clear h
 unfold impl_StepsFrom.f at H
 replace H := bA H
 obtain ⟨t454, A3, H⟩ := H
 rcases Bool.eq_false_or_eq_true t454 with rfl | rfl
 ·replace H := iT rfl H
  replace H := bA H
  obtain ⟨t455, A5, H⟩ := H
  simp only [Option.some.injEq, Prod.mk.injEq] at H
  obtain ⟨rfl, rfl⟩ := H
  go_enter Tryz.func6, Tryz.ntmps6
  go_wp2_with (first | ((with_reducible refine gC 22 ?_); refine lA (some 8) Tryz.func22 (impl_areEntrances.calls k _ _ l0 _ _ l1 true _ ?side1 ?side2 ?side3 ?side4 A3.out) ?_; (case side1 => exact zC HR0); (case side2 => exact HC0.out); (case side3 => exact zC HR1); (case side4 => exact HC1.out); intro w6 hb; replace HB := uB HB hb; (try clear hb)) | ((with_reducible refine gC 23 ?_); refine zG (some 12) Tryz.func23 (impl_stepsFrom.calls k _ _ l0 _ _ l1 t455 _ (zCB HR0 HB) (HC0.out) (zCB HR1 HB) (HC1.out) A5.out) ?_; rintro e w7 ⟨v456, rfl, ho0, hb⟩; refine ⟨_, rfl, ?_⟩; have HO457 := Aside0.mk (Kd.R_lower ho0 (below_size (bW HB))); replace HB := uB HB hb; (try clear hb); (try clear ho0)))
  go_ret2
  exact ⟨_, eB, upR HO457.out, (bW HB)⟩
 ·replace H := iF (by decide) H
  simp only [Option.some.injEq, Prod.mk.injEq] at H
  obtain ⟨rfl, rfl⟩ := H
  go_enter Tryz.func6, Tryz.ntmps6
  go_wp2_with (first | ((with_reducible refine gC 22 ?_); refine lA (some 8) Tryz.func22 (impl_areEntrances.calls k _ _ l0 _ _ l1 false _ ?side1 ?side2 ?side3 ?side4 A3.out) ?_; (case side1 => exact zC HR0); (case side2 => exact HC0.out); (case side3 => exact zC HR1); (case side4 => exact HC1.out); intro w8 hb; replace HB := uB HB hb; (try clear hb)))
  go_ret2
  exact ⟨_, eB, by first | exact Kd.R_nil _ _ _ _ _ | exact Kd.N_nil _ _ _ _ _ | exact Kd.V_nil _ _ _ _ _ | exact Kd.Q_nil _ _ _ _ _ | exact Kd.S_nil _ _ _ _ _, (bW HB)⟩

/-! ### spec_l4Station: function 81 -/
def spec_l4Station.f (a0 : Int) : Option (Bool) := (spec_l1In.f a0 0 7).bind fun t458 => (some t458)
set_option maxHeartbeats 8000000 in
set_option maxRecDepth 100000 in
theorem spec_l4Station.calls (a0 : Int) (r : Bool) (w : World) (h : spec_l4Station.f a0 = some r) :
 Calls Tryz.prog 81 #[.int .i64 a0] w fun e w' => e = .returned (.bool r) ∧ Drawn0 w w' := by
 have H := h
 clear h
 unfold spec_l4Station.f at H
 replace H := bA H
 obtain ⟨t458, A2, H⟩ := H
 obtain rfl := Option.some.inj H
 go_enter Tryz.func81, Tryz.ntmps81
 go_wp2_with (first | ((with_reducible refine gC 64 ?_); refine lA (some 4) Tryz.func64 (spec_l1In.calls a0 0 7 t458 _ A2.out) ?_; rintro _ ⟨nd, rfl⟩))
 go_ret
 exact ⟨rB, by repeat (first | exact Drawn0.refl _ | apply Drawn0.step)⟩

/-! ### spec_l2Bearing: function 82 -/
def spec_l2Bearing.f (a0 : Int) : Option (Bool) := (spec_l1In.f a0 0 359).bind fun t459 => (some t459)
set_option maxHeartbeats 8000000 in
set_option maxRecDepth 100000 in
theorem spec_l2Bearing.calls (a0 : Int) (r : Bool) (w : World) (h : spec_l2Bearing.f a0 = some r) :
 Calls Tryz.prog 82 #[.int .i64 a0] w fun e w' => e = .returned (.bool r) ∧ Drawn0 w w' := by
 have H := h
 clear h
 unfold spec_l2Bearing.f at H
 replace H := bA H
 obtain ⟨t459, A2, H⟩ := H
 obtain rfl := Option.some.inj H
 go_enter Tryz.func82, Tryz.ntmps82
 go_wp2_with (first | ((with_reducible refine gC 64 ?_); refine lA (some 4) Tryz.func64 (spec_l1In.calls a0 0 359 t459 _ A2.out) ?_; rintro _ ⟨nd, rfl⟩))
 go_ret
 exact ⟨rB, by repeat (first | exact Drawn0.refl _ | apply Drawn0.step)⟩

end Go.Proofs.YtmfidodcpbochaaGreat.QFnSteps
