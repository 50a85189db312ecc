/- Contracts of Go functions that FnSteps reaches: the call computes what the plain function says. No condition. -/
import Derived.Test.YtmfidodcpbochaaGreatQFnStepsx0
import Derived.Test.YtmfidodcpbochaaGreatQFnStepsx6
import Derived.Test.YtmfidodcpbochaaGreatQFnStepsx8
import Derived.Test.YtmfidodcpbochaaGreatQFnStepsx10
import Derived.Test.YtmfidodcpbochaaGreatQFnStepsx11
import Derived.Test.YtmfidodcpbochaaGreatQFnStepsx12
import Derived.Test.YtmfidodcpbochaaGreatQFnStepsx14
namespace Go.Proofs.YtmfidodcpbochaaGreat.QFnSteps
open Go.RowKit Go.Proofs.YtmfidodcpbochaaGreatW.PrintWords Go.Proofs.YtmfidodcpbochaaGreatW.PrintLast Go.Proofs.YtmfidodcpbochaaGreatW.PrintMore
attribute [local go_sem] max2_int min2_int max_two min_two max_three min_three max_four min_four   -- for this text's walks alone
set_option linter.unusedVariables false
set_option linter.unusedSimpArgs false

/-! ### spec_l17Cave: function 32 -/
mutual
def spec_l17Cave.l0 : Nat → List (S32) → Int → List Int → Bool → Option (List Int)
 | 0, _, _, _, _ => none
 | k + 1, x0, x2, x7, x8 => if x8 = true then (spec_l17Cave.l1 k x0 x2 x7 false 0) else (some x7)
def spec_l17Cave.l1 : Nat → List (S32) → Int → List Int → Bool → Int → Option (List Int)
 | 0, _, _, _, _, _ => none
 | k + 1, x0, x2, x7, x8, x9 => if x9 < (x0.length : Int) then (if 0 ≤ x9 then (if ((rd_T32 x0 x9).f0) = x2 then (spec_l17Cave.j2 k x0 x2 x7 x8 x9 ((rd_T32 x0 x9).f0) ((rd_T32 x0 x9).f1) true) else (if ((rd_T32 x0 x9).f1) = x2 then (spec_l17Cave.j2 k x0 x2 x7 x8 x9 ((rd_T32 x0 x9).f0) ((rd_T32 x0 x9).f1) true) else ((spec_l1Has.f k x7 ((rd_T32 x0 x9).f0)).bind fun t627 => ((spec_l1Has.f k x7 ((rd_T32 x0 x9).f1)).bind fun t628 => (spec_l17Cave.j2 k x0 x2 x7 x8 x9 ((rd_T32 x0 x9).f0) ((rd_T32 x0 x9).f1) (t627 == t628)))))) else (none)) else (spec_l17Cave.l0 k x0 x2 x7 x8)
def spec_l17Cave.j2 : Nat → List (S32) → Int → List Int → Bool → Int → Int → Int → Bool → Option (List Int)
 | 0, _, _, _, _, _, _, _, _ => none
 | k + 1, x0, x2, x7, x8, x9, x10, x11, x47 => if x47 = true then (spec_l17Cave.l1 k x0 x2 x7 x8 (wrap64 (x9 + 1))) else ((spec_l1Put.f k x7 x10).bind fun t629 => ((spec_l1Put.f k t629 x11).bind fun t632 => (spec_l17Cave.l1 k x0 x2 t632 true (wrap64 (x9 + 1)))))
end
def spec_l17Cave.f (k : Nat) (l0 : List (S32)) (a1 a2 : Int) : Option (List Int) := spec_l17Cave.l0 k l0 a2 (([a1] : List Int)) true
theorem spec_l17Cave.mono_l : ∀ k, (∀ y0 y1 y2 y3, LeO (spec_l17Cave.l0 k y0 y1 y2 y3) (spec_l17Cave.l0 (k + 1) y0 y1 y2 y3)) ∧ (∀ y0 y1 y2 y3 y4, LeO (spec_l17Cave.l1 k y0 y1 y2 y3 y4) (spec_l17Cave.l1 (k + 1) y0 y1 y2 y3 y4)) ∧ (∀ y0 y1 y2 y3 y4 y5 y6 y7, LeO (spec_l17Cave.j2 k y0 y1 y2 y3 y4 y5 y6 y7) (spec_l17Cave.j2 (k + 1) y0 y1 y2 y3 y4 y5 y6 y7))
 | 0 => ⟨fun _ _ _ _ r h => by simp [spec_l17Cave.l0] at h, fun _ _ _ _ _ r h => by simp [spec_l17Cave.l1] at h, fun _ _ _ _ _ _ _ _ r h => by simp [spec_l17Cave.j2] at h⟩
 | k + 1 => by
  obtain ⟨ih0, ih1, ih2⟩ := spec_l17Cave.mono_l k
  refine ⟨?_, ?_, ?_⟩
  ·intro y0 y1 y2 y3
   unfold spec_l17Cave.l0
   repeat' with_reducible first | apply ih0 | apply ih1 | apply ih2 | apply spec_l1Has.mono | apply spec_l1Put.mono | exact LeO.refl _ | exact LeO.none _ | refine LeO.ite ?_ ?_ | refine LeO.bind ?_ (fun _ => ?_)
  ·intro y0 y1 y2 y3 y4
   unfold spec_l17Cave.l1
   repeat' with_reducible first | apply ih0 | apply ih1 | apply ih2 | apply spec_l1Has.mono | apply spec_l1Put.mono | exact LeO.refl _ | exact LeO.none _ | refine LeO.ite ?_ ?_ | refine LeO.bind ?_ (fun _ => ?_)
  ·intro y0 y1 y2 y3 y4 y5 y6 y7
   unfold spec_l17Cave.j2
   repeat' with_reducible first | apply ih0 | apply ih1 | apply ih2 | apply spec_l1Has.mono | apply spec_l1Put.mono | exact LeO.refl _ | exact LeO.none _ | refine LeO.ite ?_ ?_ | refine LeO.bind ?_ (fun _ => ?_)
theorem spec_l17Cave.mono : ∀ a0 a1 a2 k, LeO (spec_l17Cave.f k a0 a1 a2) (spec_l17Cave.f (k + 1) a0 a1 a2) := by
 intro a0 a1 a2 k
 obtain ⟨ih0, ih1, ih2⟩ := spec_l17Cave.mono_l k
 unfold spec_l17Cave.f
 repeat' with_reducible first | apply ih0 | apply ih1 | apply ih2 | apply spec_l1Has.mono | apply spec_l1Put.mono | exact LeO.refl _ | exact LeO.none _ | refine LeO.ite ?_ ?_ | refine LeO.bind ?_ (fun _ => ?_)
set_option maxHeartbeats 8000000 in
set_option maxRecDepth 100000 in
theorem spec_l17Cave.calls (k : Nat) (A0 : Option Addr) (c0 : Nat) (l0 : List (S32)) (a1 a2 : Int) (r : List Int) (w : World) (hr0 : Kd.C k32 w A0 l0.length l0) (hc0 : l0.length ≤ c0) (h : spec_l17Cave.f k l0 a1 a2 = some r) :
 Calls Tryz.prog 32 #[.slice A0 l0.length c0, .int .i64 a1, .int .i64 a2] w fun e w' => ∃ v0_ : Value, e = .returned (v0_) ∧ Kd.R (Kd.int .i64) 3 w' w.heap.size (fun _ => True) v0_ r ∧ Below w.heap.size w w' := by
 have HR0 := Aside0.mk hr0
 have HC0 := Aside0.mk hc0
 clear hr0 hc0
 have HB := Aside0.mk (Below.refl w.heap.size w)
 have H : (spec_l17Cave.l0 k l0 a2 (([a1] : List Int)) true) = some r := h
 clear h
 obtain ⟨y622, hy622⟩ : ∃ y_ : List Int, y_ = (([a1] : List Int)) := ⟨_, rfl⟩
 rw [← hy622] at H
 have Ny622 := Aside0.mk hy622
 clear hy622
 have H' := Aside0.mk H
 clear H
 go_enter Tryz.func32, Tryz.ntmps32
 go_wp2_with (first | ((with_reducible refine gate_dst (N := 13) rfl ?_); refine Kd.R_lit (Kd.int .i64) _ 3 ?hg (N := 13) ?hd (xs := ([a1] : List Int)) (inner := [.int .i64 a1]) (ok := fun _ => True) (okp := fun _ => True) ?hr ?hp (fun _ hk => hk) trivial (Below.refl _ _) (Nat.le_refl _) (by simp) ?_; (case hd => rfl); (case hg => rfl); (case hr => first | (go_simp; done) | (go_simp; rfl)); (case hp => exact zInts _); intro v623 w4 ho5 hb hg_ hnew_; clear hg_ hnew_; (first | rw [← Ny622.out] at ho5 | (simp only [Int.reduceToNat] at ho5; rw [← Ny622.out] at ho5)); have HO624 := Aside0.mk (Kd.R_lower ho5 (below_size (bW HB))); replace HB := uB HB hb; clear hb ho5))
 repeat (go_quiet (first | ((with_reducible refine gate_dst (N := 13) rfl ?_); refine Kd.R_lit (Kd.int .i64) _ 3 ?hg (N := 13) ?hd (xs := ([a1] : List Int)) (inner := [.int .i64 a1]) (ok := fun _ => True) (okp := fun _ => True) ?hr ?hp (fun _ hk => hk) trivial (Below.refl _ _) (Nat.le_refl _) (by simp) ?_; (case hd => rfl); (case hg => rfl); (case hr => first | (go_simp; done) | (go_simp; rfl)); (case hp => exact zInts _); intro v623 w4 ho5 hb hg_ hnew_; clear hg_ hnew_; (first | rw [← Ny622.out] at ho5 | (simp only [Int.reduceToNat] at ho5; rw [← Ny622.out] at ho5)); have HO624 := Aside0.mk (Kd.R_lower ho5 (below_size (bW HB))); replace HB := uB HB hb; clear hb ho5)); try go_wp2_with (first | ((with_reducible refine gate_dst (N := 13) rfl ?_); refine Kd.R_lit (Kd.int .i64) _ 3 ?hg (N := 13) ?hd (xs := ([a1] : List Int)) (inner := [.int .i64 a1]) (ok := fun _ => True) (okp := fun _ => True) ?hr ?hp (fun _ hk => hk) trivial (Below.refl _ _) (Nat.le_refl _) (by simp) ?_; (case hd => rfl); (case hg => rfl); (case hr => first | (go_simp; done) | (go_simp; rfl)); (case hp => exact zInts _); intro v623 w4 ho5 hb hg_ hnew_; clear hg_ hnew_; (first | rw [← Ny622.out] at ho5 | (simp only [Int.reduceToNat] at ho5; rw [← Ny622.out] at ho5)); have HO624 := Aside0.mk (Kd.R_lower ho5 (below_size (bW HB))); replace HB := uB HB hb; clear hb ho5)))
 go_loopg [7, 8] k (fun kq v7 v8 w' => ∃ (x7_1 : List Int) (x8_1 : Bool), v8 = .bool x8_1 ∧ Aside0 (spec_l17Cave.l0 kq l0 a2 x7_1 x8_1 = some r) ∧ Aside0 (kq ≤ k) ∧ Aside0 (Kd.R (Kd.int .i64) 3 w' w.heap.size (fun _ => True) v7 x7_1) ∧ Aside0 (Below w.heap.size w w'))
 case atStart => exact ⟨(y622), (true), rB, H', ⟨Nat.le_refl _⟩, ⟨upR HO624.out⟩, (aB HB)⟩
 case round =>
  clear H'
  obtain ⟨x7_1, x8_1, rfl, HA, HK1, HO_7, HB⟩ := hrel
  cases gk with
  | zero => exact absurd HA.out (by simp [spec_l17Cave.l0])
  | succ k1 =>
   have H := HA.out
   clear HA
   simp only [spec_l17Cave.l0] at H
   rcases Bool.eq_false_or_eq_true x8_1 with rfl | rfl
   ·replace H := iT rfl H
    have H' := Aside0.mk H
    clear H
    go_wp2
    repeat (go_quiet (fail); try go_wp2)
    go_loopg [7, 8, 9] k1 (fun kq v7 v8 v9 w' => ∃ (x7_2 : List Int) (x8_2 : Bool) (x9_2 : Int), v8 = .bool x8_2 ∧ v9 = .int .i64 x9_2 ∧ Aside0 (spec_l17Cave.l1 kq l0 a2 x7_2 x8_2 x9_2 = some r) ∧ Aside0 (kq ≤ k1) ∧ Aside0 (Kd.R (Kd.int .i64) 3 w' w.heap.size (fun _ => True) v7 x7_2) ∧ Aside0 (Below w.heap.size w w'))
    case atStart => exact ⟨(x7_1), (false), (0), rB, rB, H', ⟨Nat.le_refl _⟩, ⟨upR HO_7.out⟩, (aB HB)⟩
    case round =>
     clear H'
     obtain ⟨x7_2, x8_2, x9_2, rfl, rfl, HA, HK2, HO_7, HB⟩ := hrel
     cases gk with
     | zero => exact absurd HA.out (by simp [spec_l17Cave.l1])
     | succ k2 =>
      have H := HA.out
      clear HA
      simp only [spec_l17Cave.l1] at H
      replace H := ifD H
      rcases H with ⟨H, -, c7b0⟩ | ⟨H, -, c7b0⟩
      ·replace H := zN H
       obtain ⟨c8b0, H⟩ := H
       have HC9 := Aside0.mk H
       clear H
       obtain ⟨ad625, e625, hx625_0, hx625_1, hx625_2, hx625_3, hx625_4, p625, q625⟩ := zT HR0 HB x9_2
       cases e625
       obtain ⟨ad626, e626, hx626_0, hx626_1, hx626_2, hx626_3, hx626_4, p626, q626⟩ := zT HR0 HB x9_2
       obtain rfl : ad625 = ad626 := (by injection e626)
       go_upto_region 9 with (fail)
       repeat (go_quiet (fail); go_upto_region 9 with (fail))
       go_cut [47] (fun v47 wc => ∃ (kq : Nat) (x47_8 : Bool), v47 = .bool x47_8 ∧ Aside0 (spec_l17Cave.j2 kq l0 a2 x7_2 x8_2 x9_2 ((rd_T32 l0 x9_2).f0) ((rd_T32 l0 x9_2).f1) x47_8 = some r) ∧ Aside0 (kq ≤ k2) ∧ Aside0 (Kd.R (Kd.int .i64) 3 wc w.heap.size (fun _ => True) u7 x7_2) ∧ Aside0 (Below w.heap.size w wc))
       case first =>
        have H := HC9.out
        clear HC9
        replace H := ifI H
        rcases H with ⟨H, -, c10b0, c10b1⟩ | ⟨H, c10, c10b0, c10b1⟩
        ·(first | rw [c10b0] | (simp only [i64_w, i32_w]; rw [c10b0]) | skip)
         have H' := Aside0.mk H
         clear H
         go_wp2
         repeat (go_quiet (fail); try go_wp2)
         go_meet
         case rel => exact ⟨_, (true), rB, H', ⟨by have := HK1.out; have := HK2.out; first | omega | exact Nat.le_refl _⟩, ⟨upR HO_7.out⟩, (aB HB)⟩
        ·(first | rw [c10b0] | (simp only [i64_w, i32_w]; rw [c10b0]) | skip)
         replace H := ifI H
         rcases H with ⟨H, -, c11b0, c11b1⟩ | ⟨H, c11, c11b0, c11b1⟩
         ·have H' := Aside0.mk H
          clear H
          go_wp2
          repeat (go_quiet (fail); try go_wp2)
          go_meet
          case rel => exact ⟨_, (true), rB, H', ⟨by have := HK1.out; have := HK2.out; first | omega | exact Nat.le_refl _⟩, ⟨upR HO_7.out⟩, (aB HB)⟩
         ·replace H := bA H
          obtain ⟨t627, A12, H⟩ := H
          replace H := bA H
          obtain ⟨t628, A13, H⟩ := H
          have H' := Aside0.mk H
          clear H
          obtain ⟨Ao14, co14, eo14⟩ := Kd.R_slice HO_7.out
          subst eo14
          go_wp2_with (first | (go_at_call 43; (with_reducible refine (spec_l1Has.calls k2 _ _ x7_2 ((rd_T32 l0 x9_2).f0) t627 _ ?side1 ?side2 A12.out).mono ?_); (case side1 => exact zCR HO_7); (case side2 => exact (Kd.R_reads' HO_7.out).2.1); rintro e w' ⟨rfl, ⟨nd, rfl⟩⟩; (try first | exact zQ | exact zQ2)) | (go_at_call 43; (with_reducible refine (spec_l1Has.calls k2 _ _ x7_2 ((rd_T32 l0 x9_2).f1) t628 _ ?side1 ?side2 A13.out).mono ?_); (case side1 => exact zCR HO_7); (case side2 => exact (Kd.R_reads' HO_7.out).2.1); rintro e w' ⟨rfl, ⟨nd, rfl⟩⟩; (try first | exact zQ | exact zQ2)))
          repeat (go_quiet (first | (go_at_call 43; (with_reducible refine (spec_l1Has.calls k2 _ _ x7_2 ((rd_T32 l0 x9_2).f0) t627 _ ?side1 ?side2 A12.out).mono ?_); (case side1 => exact zCR HO_7); (case side2 => exact (Kd.R_reads' HO_7.out).2.1); rintro e w' ⟨rfl, ⟨nd, rfl⟩⟩; (try first | exact zQ | exact zQ2)) | (go_at_call 43; (with_reducible refine (spec_l1Has.calls k2 _ _ x7_2 ((rd_T32 l0 x9_2).f1) t628 _ ?side1 ?side2 A13.out).mono ?_); (case side1 => exact zCR HO_7); (case side2 => exact (Kd.R_reads' HO_7.out).2.1); rintro e w' ⟨rfl, ⟨nd, rfl⟩⟩; (try first | exact zQ | exact zQ2))); try go_wp2_with (first | (go_at_call 43; (with_reducible refine (spec_l1Has.calls k2 _ _ x7_2 ((rd_T32 l0 x9_2).f0) t627 _ ?side1 ?side2 A12.out).mono ?_); (case side1 => exact zCR HO_7); (case side2 => exact (Kd.R_reads' HO_7.out).2.1); rintro e w' ⟨rfl, ⟨nd, rfl⟩⟩; (try first | exact zQ | exact zQ2)) | (go_at_call 43; (with_reducible refine (spec_l1Has.calls k2 _ _ x7_2 ((rd_T32 l0 x9_2).f1) t628 _ ?side1 ?side2 A13.out).mono ?_); (case side1 => exact zCR HO_7); (case side2 => exact (Kd.R_reads' HO_7.out).2.1); rintro e w' ⟨rfl, ⟨nd, rfl⟩⟩; (try first | exact zQ | exact zQ2))))
          go_meet
          case rel => exact ⟨_, ((t627 == t628)), rB, H', ⟨by have := HK1.out; have := HK2.out; first | omega | exact Nat.le_refl _⟩, ⟨upR HO_7.out⟩, (aB HB)⟩
       case rest =>
        clear HC9
        try clear c7b0
        try clear c8
        try clear c8b0
        try clear hx625_0
        try clear hx625_1
        try clear hx625_2
        try clear hx625_3
        try clear hx625_4
        try clear hx626_0
        try clear hx626_1
        try clear hx626_2
        try clear hx626_3
        try clear hx626_4
        try clear p625
        try clear p626
        try clear q625
        try clear q626
        obtain ⟨kq, x47_8, rfl, HA, HJ8, HO_7, HB⟩ := hcut
        cases kq with
        | zero => exact absurd HA.out (by simp [spec_l17Cave.j2])
        | succ kj8 =>
         have H := HA.out
         clear HA
         simp only [spec_l17Cave.j2] at H
         rcases Bool.eq_false_or_eq_true x47_8 with rfl | rfl
         ·replace H := iT rfl H
          have H' := Aside0.mk H
          clear H
          go_wp2
          repeat (go_quiet (fail); try go_wp2)
          go_roundg kj8
          case measure => have := HK1.out; have := HK2.out; have := HJ8.out; omega
          case rel => exact ⟨(x7_2), (x8_2), (wrap64 (x9_2 + 1)), rB, rB, H', ⟨by have := HK1.out; have := HK2.out; have := HJ8.out; omega⟩, ⟨upR HO_7.out⟩, (aB HB)⟩
         ·replace H := iF (by decide) H
          replace H := bA H
          obtain ⟨t629, A16, H⟩ := H
          replace H := bA H
          obtain ⟨t632, A17, H⟩ := H
          have H' := Aside0.mk H
          clear H
          obtain ⟨Ao18, co18, eo18⟩ := Kd.R_slice HO_7.out
          subst eo18
          go_wp2_with (first | (go_at_call 56; (with_reducible refine (spec_l1Put.calls kj8 (fun k_ => some k_ = (.slice Ao18 x7_2.length co18 : Value).ownBlock) (.slice Ao18 x7_2.length co18) x7_2 ((rd_T32 l0 x9_2).f0) t629 w _ ?side1 ?side2 A16.out).mono ?_); (case side1 => repeat (first | (with_reducible first | exact HB.out | apply below_alloc | apply pw_below_drewN | apply below_drew1) | exact HB.out)); (case side2 => exact Kd.R_tight rfl HO_7.out); rintro e w19 ⟨v630, rfl, ho0, hb, hkp⟩; have HO631 := Aside0.mk (Kd.R_mono (ok' := fun k_ => True) ho0 (fun k_ hk_ => trivial)); replace HB := Aside0.mk (hb); clear HO_7; (try clear hb); (try clear hkp); (try clear ho0); obtain ⟨Ao20, co20, eo20⟩ := Kd.R_slice HO631.out; subst eo20) | (go_at_call 56; (with_reducible refine (spec_l1Put.calls kj8 (fun k_ => some k_ = (.slice Ao20 t629.length co20 : Value).ownBlock) (.slice Ao20 t629.length co20) t629 ((rd_T32 l0 x9_2).f1) t632 w _ ?side1 ?side2 A17.out).mono ?_); (case side1 => repeat (first | (with_reducible first | exact HB.out | apply below_alloc | apply pw_below_drewN | apply below_drew1) | exact HB.out)); (case side2 => exact Kd.R_tight rfl HO631.out); rintro e w21 ⟨v633, rfl, ho0, hb, hkp⟩; have HO634 := Aside0.mk (Kd.R_mono (ok' := fun k_ => True) ho0 (fun k_ hk_ => trivial)); replace HB := Aside0.mk (hb); clear HO631; (try clear hb); (try clear hkp); (try clear ho0)))
          repeat (go_quiet (first | (go_at_call 56; (with_reducible refine (spec_l1Put.calls kj8 (fun k_ => some k_ = (.slice Ao18 x7_2.length co18 : Value).ownBlock) (.slice Ao18 x7_2.length co18) x7_2 ((rd_T32 l0 x9_2).f0) t629 w _ ?side1 ?side2 A16.out).mono ?_); (case side1 => repeat (first | (with_reducible first | exact HB.out | apply below_alloc | apply pw_below_drewN | apply below_drew1) | exact HB.out)); (case side2 => exact Kd.R_tight rfl HO_7.out); rintro e w19 ⟨v630, rfl, ho0, hb, hkp⟩; have HO631 := Aside0.mk (Kd.R_mono (ok' := fun k_ => True) ho0 (fun k_ hk_ => trivial)); replace HB := Aside0.mk (hb); clear HO_7; (try clear hb); (try clear hkp); (try clear ho0); obtain ⟨Ao20, co20, eo20⟩ := Kd.R_slice HO631.out; subst eo20) | (go_at_call 56; (with_reducible refine (spec_l1Put.calls kj8 (fun k_ => some k_ = (.slice Ao20 t629.length co20 : Value).ownBlock) (.slice Ao20 t629.length co20) t629 ((rd_T32 l0 x9_2).f1) t632 w _ ?side1 ?side2 A17.out).mono ?_); (case side1 => repeat (first | (with_reducible first | exact HB.out | apply below_alloc | apply pw_below_drewN | apply below_drew1) | exact HB.out)); (case side2 => exact Kd.R_tight rfl HO631.out); rintro e w21 ⟨v633, rfl, ho0, hb, hkp⟩; have HO634 := Aside0.mk (Kd.R_mono (ok' := fun k_ => True) ho0 (fun k_ hk_ => trivial)); replace HB := Aside0.mk (hb); clear HO631; (try clear hb); (try clear hkp); (try clear ho0))); try go_wp2_with (first | (go_at_call 56; (with_reducible refine (spec_l1Put.calls kj8 (fun k_ => some k_ = (.slice Ao18 x7_2.length co18 : Value).ownBlock) (.slice Ao18 x7_2.length co18) x7_2 ((rd_T32 l0 x9_2).f0) t629 w _ ?side1 ?side2 A16.out).mono ?_); (case side1 => repeat (first | (with_reducible first | exact HB.out | apply below_alloc | apply pw_below_drewN | apply below_drew1) | exact HB.out)); (case side2 => exact Kd.R_tight rfl HO_7.out); rintro e w19 ⟨v630, rfl, ho0, hb, hkp⟩; have HO631 := Aside0.mk (Kd.R_mono (ok' := fun k_ => True) ho0 (fun k_ hk_ => trivial)); replace HB := Aside0.mk (hb); clear HO_7; (try clear hb); (try clear hkp); (try clear ho0); obtain ⟨Ao20, co20, eo20⟩ := Kd.R_slice HO631.out; subst eo20) | (go_at_call 56; (with_reducible refine (spec_l1Put.calls kj8 (fun k_ => some k_ = (.slice Ao20 t629.length co20 : Value).ownBlock) (.slice Ao20 t629.length co20) t629 ((rd_T32 l0 x9_2).f1) t632 w _ ?side1 ?side2 A17.out).mono ?_); (case side1 => repeat (first | (with_reducible first | exact HB.out | apply below_alloc | apply pw_below_drewN | apply below_drew1) | exact HB.out)); (case side2 => exact Kd.R_tight rfl HO631.out); rintro e w21 ⟨v633, rfl, ho0, hb, hkp⟩; have HO634 := Aside0.mk (Kd.R_mono (ok' := fun k_ => True) ho0 (fun k_ hk_ => trivial)); replace HB := Aside0.mk (hb); clear HO631; (try clear hb); (try clear hkp); (try clear ho0))))
          go_roundg kj8
          case measure => have := HK1.out; have := HK2.out; have := HJ8.out; omega
          case rel => exact ⟨(t632), (true), (wrap64 (x9_2 + 1)), rB, rB, H', ⟨by have := HK1.out; have := HK2.out; have := HJ8.out; omega⟩, ⟨upR HO634.out⟩, (aB HB)⟩
      ·have H' := Aside0.mk H
       clear H
       go_wp2
       repeat (go_quiet (fail); try go_wp2)
       go_roundg k2
       case measure => have := HK1.out; have := HK2.out; omega
       case rel => exact ⟨(x7_2), (x8_2), rB, H', ⟨by have := HK1.out; have := HK2.out; omega⟩, ⟨upR HO_7.out⟩, (aB HB)⟩
   ·replace H := iF (by decide) H
    obtain rfl := Option.some.inj H
    go_wp2
    repeat (go_quiet (fail); try go_wp2)
    go_ret
    exact ⟨_, eB, upR HO_7.out, (bW HB)⟩

/-! ### spec_CutStations: function 16 -/
def spec_CutStations.l0 : Nat → List (S32) → List Int → Int → Option (List Int × Bool)
 | 0, _, _, _ => none
 | k + 1, x0, x4, x5 => if x5 < 8 then ((spec_l17Cave.f k x0 x5 (-1)).bind fun t639 => (if (t639.length : Int) < 3 then (spec_CutStations.l0 k x0 x4 (wrap64 (x5 + 1))) else (if 0 < (t639.length : Int) then (if (rd t639 0) = x5 then (if 1 < (t639.length : Int) then ((spec_l17Cave.f k x0 (rd t639 1) x5).bind fun t644 => (if (t644.length : Int) < (wrap64 ((t639.length : Int) - 1)) then (if x4.length < 17592186044416 then (spec_CutStations.l0 k x0 (x4 ++ [x5]) (wrap64 (x5 + 1))) else (none)) else (spec_CutStations.l0 k x0 x4 (wrap64 (x5 + 1))))) else (none)) else ((spec_l17Cave.f k x0 (rd t639 0) x5).bind fun t650 => (if (t650.length : Int) < (wrap64 ((t639.length : Int) - 1)) then (if x4.length < 17592186044416 then (spec_CutStations.l0 k x0 (x4 ++ [x5]) (wrap64 (x5 + 1))) else (none)) else (spec_CutStations.l0 k x0 x4 (wrap64 (x5 + 1)))))) else (none)))) else (some (x4, true))
def spec_CutStations.f (k : Nat) (l0 : List (S32)) : Option (List Int × Bool) := (some (([] : List Int) : List Int)).bind fun y635 => ((spec_l4Legs.f k l0).bind fun t638 => (if t638 = true then (spec_CutStations.l0 k l0 y635 0) else (some (y635, false))))
theorem spec_CutStations.mono_l : ∀ k, (∀ y0 y1 y2, LeO (spec_CutStations.l0 k y0 y1 y2) (spec_CutStations.l0 (k + 1) y0 y1 y2))
 | 0 => fun _ _ _ r h => by simp [spec_CutStations.l0] at h
 | k + 1 => by
  have ih0 := spec_CutStations.mono_l k
  ·intro y0 y1 y2
   unfold spec_CutStations.l0
   repeat' with_reducible first | apply ih0 | apply spec_l17Cave.mono | apply spec_l4Legs.mono | exact LeO.refl _ | exact LeO.none _ | refine LeO.ite ?_ ?_ | refine LeO.bind ?_ (fun _ => ?_)
theorem spec_CutStations.mono : ∀ a0 k, LeO (spec_CutStations.f k a0) (spec_CutStations.f (k + 1) a0) := by
 intro a0 k
 have ih0 := spec_CutStations.mono_l k
 unfold spec_CutStations.f
 repeat' with_reducible first | apply ih0 | apply spec_l17Cave.mono | apply spec_l4Legs.mono | exact LeO.refl _ | exact LeO.none _ | refine LeO.ite ?_ ?_ | refine LeO.bind ?_ (fun _ => ?_)
set_option maxHeartbeats 8000000 in
set_option maxRecDepth 100000 in
theorem spec_CutStations.calls (k : Nat) (A0 : Option Addr) (c0 : Nat) (l0 : List (S32)) (r1 : List Int) (r2 : Bool) (w : World) (hr0 : Kd.C k32 w A0 l0.length l0) (hc0 : l0.length ≤ c0) (h : spec_CutStations.f k l0 = some (r1, r2)) :
 Calls Tryz.prog 16 #[.slice A0 l0.length c0] w fun e w' => ∃ v0_ : Value, e = .returned (.tuple #[v0_, .bool r2]) ∧ Kd.R (Kd.int .i64) 3 w' w.heap.size (fun _ => True) v0_ r1 ∧ Below w.heap.size w w' := by
 have HR0 := Aside0.mk hr0
 have HC0 := Aside0.mk hc0
 clear hr0 hc0
 have HB := Aside0.mk (Below.refl w.heap.size w)
 have H := h
 clear h
 unfold spec_CutStations.f at H
 replace H := zS H
 obtain ⟨y635, Ny635, H⟩ := H
 replace H := bA H
 obtain ⟨t638, A2, H⟩ := H
 rcases Bool.eq_false_or_eq_true t638 with rfl | rfl
 ·replace H := iT rfl H
  have H' := Aside0.mk H
  clear H
  go_enter Tryz.func16, Tryz.ntmps16
  go_wp2_with (first | ((with_reducible refine gate_dst (N := 8) rfl ?_); refine Kd.R_lit (Kd.int .i64) _ 3 ?hg (N := 8) ?hd (xs := ([] : List Int)) (inner := []) (ok := fun _ => True) (okp := fun _ => True) ?hr ?hp (fun _ hk => hk) trivial (Below.refl _ _) (Nat.le_refl _) (by simp) ?_; (case hd => rfl); (case hg => rfl); (case hr => first | (go_simp; done) | (go_simp; rfl)); (case hp => exact (Reps.none _ _)); intro v636 w4 ho5 hb hg_ hnew_; clear hg_ hnew_; (first | rw [← Ny635.out] at ho5 | (simp only [Int.reduceToNat] at ho5; rw [← Ny635.out] at ho5)); have HO637 := Aside0.mk (Kd.R_lower ho5 (below_size (bW HB))); replace HB := uB HB hb; clear hb ho5) | ((with_reducible refine gC 31 ?_); refine lA (some 10) Tryz.func31 (spec_l4Legs.calls k _ _ l0 true _ ?side1 ?side2 A2.out) ?_; (case side1 => exact zCB HR0 HB); (case side2 => exact HC0.out); intro w6 hb; replace HO637 := uR HO637 hb; replace HB := uB HB hb; (try clear hb); (try clear hk)))
  (try simp only [Act.put, List.setIfInBounds_toArray, List.set_cons_zero, List.set_cons_succ])
  go_loopg [4, 5] k (fun kq v4 v5 w' => ∃ (x4_1 : List Int) (x5_1 : Int), v5 = .int .i64 x5_1 ∧ Aside0 (spec_CutStations.l0 kq l0 x4_1 x5_1 = some (r1, r2)) ∧ Aside0 (kq ≤ k) ∧ Aside0 (Kd.R (Kd.int .i64) 3 w' w.heap.size (fun _ => True) v4 x4_1) ∧ Aside0 (Below w.heap.size w w'))
  case atStart => exact ⟨(y635), (0), rB, H', ⟨Nat.le_refl _⟩, ⟨upR HO637.out⟩, (aB HB)⟩
  case round =>
   clear H'
   obtain ⟨x4_1, x5_1, rfl, HA, HK1, HO_4, HB⟩ := hrel
   cases gk with
   | zero => exact absurd HA.out (by simp [spec_CutStations.l0])
   | succ k1 =>
    have H := HA.out
    clear HA
    simp only [spec_CutStations.l0] at H
    replace H := ifD H
    rcases H with ⟨H, -, c7b0⟩ | ⟨H, -, c7b0⟩
    ·replace H := bA H
     obtain ⟨t639, A8, H⟩ := H
     replace H := ifD H
     rcases H with ⟨H, c9, c9b0⟩ | ⟨H, c9, c9b0⟩
     ·have c9b1 : decide (t639.length < 3) = true := decide_eq_true (by omega)
      clear c9
      have H' := Aside0.mk H
      clear H
      go_wp2_with (first | ((with_reducible refine gC 32 ?_); refine zG (some 19) Tryz.func32 (spec_l17Cave.calls k1 _ _ l0 x5_1 (-1) t639 _ (zCB HR0 HB) (HC0.out) A8.out) ?_; rintro e w10 ⟨v640, rfl, ho0, hb⟩; refine ⟨_, rfl, ?_⟩; have HO641 := Aside0.mk (Kd.R_lower (Kd.R_new' ho0 (Kd.R_lt (upR HO_4.out))) (below_size (bW HB))); replace HO_4 := Aside0.mk (Kd.R_elder' (upR HO_4.out) (Kd.R_base ho0) hb); replace HB := uB HB hb; (try clear hb); (try clear hk); (try clear ho0); obtain ⟨Ao11, co11, eo11⟩ := Kd.R_slice HO641.out; subst eo11))
      go_roundg k1
      case measure => have := HK1.out; omega
      case rel => exact ⟨(x4_1), (wrap64 (x5_1 + 1)), rB, H', ⟨by have := HK1.out; omega⟩, ⟨Kd.R_mono (upR HO_4.out) (fun _ hk => trivial)⟩, (aB HB)⟩
     ·have c9b1 : decide (t639.length < 3) = false := decide_eq_false (by omega)
      clear c9
      replace H := zM H
      obtain ⟨c12, H⟩ := H
      have c12b0 : decide (0 < (t639.length : Int)) = true := decide_eq_true c12
      have c12b1 : decide (0 < t639.length) = true := decide_eq_true (by omega)
      clear c12
      replace H := ifI H
      rcases H with ⟨H, -, c13b0, c13b1⟩ | ⟨H, c13, c13b0, c13b1⟩
      ·replace H := zM H
       obtain ⟨c14, H⟩ := H
       have c14b0 : decide (1 < (t639.length : Int)) = true := decide_eq_true c14
       have c14b1 : decide (1 < t639.length) = true := decide_eq_true (by omega)
       clear c14
       replace H := bA H
       obtain ⟨t644, A15, H⟩ := H
       replace H := ifD H
       rcases H with ⟨H, -, c16b0⟩ | ⟨H, -, c16b0⟩
       ·replace H := zM H
        obtain ⟨c17, H⟩ := H
        have LMc17 := Aside0.mk c17
        clear c17
        obtain ⟨y647, hy647⟩ : ∃ y_ : List Int, y_ = (x4_1 ++ [x5_1]) := ⟨_, rfl⟩
        rw [← hy647] at H
        have Ny647 := Aside0.mk hy647
        clear hy647
        have H' := Aside0.mk H
        clear H
        go_wp2_with (first | ((with_reducible refine gC 32 ?_); refine zG (some 19) Tryz.func32 (spec_l17Cave.calls k1 _ _ l0 x5_1 (-1) t639 _ (zCB HR0 HB) (HC0.out) A8.out) ?_; rintro e w18 ⟨v640, rfl, ho0, hb⟩; refine ⟨_, rfl, ?_⟩; have HO641 := Aside0.mk (Kd.R_lower (Kd.R_new' ho0 (Kd.R_lt (upR HO_4.out))) (below_size (bW HB))); replace HO_4 := Aside0.mk (Kd.R_elder' (upR HO_4.out) (Kd.R_base ho0) hb); replace HB := uB HB hb; (try clear hb); (try clear hk); (try clear ho0); obtain ⟨Ao19, co19, eo19⟩ := Kd.R_slice HO641.out; subst eo19; have p642 : 0 ≤ (0 : Int) := (by omega); have q642 : 0 < (t639.length : Int) := of_decide_eq_true asmB; obtain ⟨ad642, e642, hx642_0⟩ := Kd.at_int (Kd.R_reads' HO641.out).2.2 0 p642 q642; cases e642; have qi642 : (0 < t639.length) = True := eq_true (by omega); (try rw [show ((0 : Int)).toNat = 0 from rfl] at hx642_0); (try rw [Addr.add_zero'] at hx642_0); replace p642 := eq_true p642; replace q642 := eq_true q642; have p643 : 0 ≤ (1 : Int) := (by omega); have q643 : 1 < (t639.length : Int) := of_decide_eq_true asmB; obtain ⟨ad643, e643, hx643_0⟩ := Kd.at_int (Kd.R_reads' HO641.out).2.2 1 p643 q643; obtain rfl : ad642 = ad643 := (by injection e643); (try simp only [show (1 : Int).toNat = 1 from rfl, Nat.reduceMul, Nat.reduceEqDiff, Go.Addr.add, ↓reduceIte] at hx643_0); have qi643 : (1 < t639.length) = True := eq_true (by omega); (try rw [show ((1 : Int)).toNat = 1 from rfl] at hx643_0); replace p643 := eq_true p643; replace q643 := eq_true q643) | ((with_reducible refine gC 32 ?_); refine zG (some 35) Tryz.func32 (spec_l17Cave.calls k1 _ _ l0 (rd t639 1) x5_1 t644 _ (zCB HR0 HB) (HC0.out) A15.out) ?_; rintro e w20 ⟨v645, rfl, ho0, hb⟩; refine ⟨_, rfl, ?_⟩; have HO646 := Aside0.mk (Kd.R_lower (Kd.R_new' (Kd.R_new' ho0 (Kd.R_lt (upR HO_4.out))) (Kd.R_lt (upR HO641.out))) (below_size (bW HB))); replace HO_4 := Aside0.mk (Kd.R_elder' (upR HO_4.out) (Kd.R_base ho0) hb); replace HO641 := Aside0.mk (Kd.R_elder' (upR HO641.out) (Kd.R_base ho0) hb); replace HB := uB HB hb; (try clear hb); (try clear hk); (try clear ho0); obtain ⟨Ao21, co21, eo21⟩ := Kd.R_slice HO646.out; subst eo21) | ((with_reducible refine gate_builtin (b := .append) (xs := #[.tmp 41, .tmp 43]) rfl ?_); at_builtin; refine Kd.R_append (Kd.int .i64) (w0 := w) w.heap.size rfl (.tmp 41) (.tmp 43) 25 3 (.int .i64 0) 8 rfl Tryz.underlying25 info3 rfl (by decide) (by omega) u4 x4_1 x5_1 [.int .i64 x5_1] (fun k_ => some k_ ≠ (.slice (some ad642) t639.length co19 : Value).ownBlock ∧ some k_ ≠ (.slice Ao21 t644.length co21 : Value).ownBlock) (fun _ => False) rfl rfl ?aP (fun _ hk => hk.elim) ?aF ?aO ?aB ?aS ?aL ?_; (case aP => exact rfl); (case aB => exact (bW HB)); (case aF => exact (fun k_ hk => ⟨Kd.fresh' (Kd.R_lt (upR HO641.out)) k_ hk, Kd.fresh' (Kd.R_lt (upR HO646.out)) k_ hk⟩)); (case aO => exact (Kd.R_mono (upR HO_4.out) (fun _ hk => ⟨hk.1.2, hk.2⟩))); (case aS => exact (below_size (bW HB))); (case aL => have := LMc17.out; omega); intro v648 w22 ho hb hg hat; rw [← Ny647.out] at ho; have HO649 := Aside0.mk (ho); replace HO641 := Aside0.mk (Kd.R_after (ok := (fun k_ => some k_ ≠ (.slice Ao21 t644.length co21 : Value).ownBlock)) (Kd.R_mono (upR HO641.out) (fun _ hk => ⟨hk.2, hk.1.2⟩)) hg hat); replace HO646 := Aside0.mk (Kd.R_after (ok := (fun k_ => some k_ ≠ (.slice (some ad642) t639.length co19 : Value).ownBlock)) (Kd.R_mono (upR HO646.out) (fun _ hk => ⟨hk.2, hk.1.2⟩)) hg hat); replace HB := Aside0.mk (hb); clear HO_4; clear ho hb hg hat))
        go_roundg k1
        case measure => have := HK1.out; omega
        case rel => exact ⟨(y647), (wrap64 (x5_1 + 1)), rB, H', ⟨by have := HK1.out; omega⟩, ⟨Kd.R_mono (upR HO649.out) (fun _ hk => trivial)⟩, (aB HB)⟩
       ·have H' := Aside0.mk H
        clear H
        go_wp2_with (first | ((with_reducible refine gC 32 ?_); refine zG (some 19) Tryz.func32 (spec_l17Cave.calls k1 _ _ l0 x5_1 (-1) t639 _ (zCB HR0 HB) (HC0.out) A8.out) ?_; rintro e w23 ⟨v640, rfl, ho0, hb⟩; refine ⟨_, rfl, ?_⟩; have HO641 := Aside0.mk (Kd.R_lower (Kd.R_new' ho0 (Kd.R_lt (upR HO_4.out))) (below_size (bW HB))); replace HO_4 := Aside0.mk (Kd.R_elder' (upR HO_4.out) (Kd.R_base ho0) hb); replace HB := uB HB hb; (try clear hb); (try clear hk); (try clear ho0); obtain ⟨Ao24, co24, eo24⟩ := Kd.R_slice HO641.out; subst eo24; have p642 : 0 ≤ (0 : Int) := (by omega); have q642 : 0 < (t639.length : Int) := of_decide_eq_true asmB; obtain ⟨ad642, e642, hx642_0⟩ := Kd.at_int (Kd.R_reads' HO641.out).2.2 0 p642 q642; cases e642; have qi642 : (0 < t639.length) = True := eq_true (by omega); (try rw [show ((0 : Int)).toNat = 0 from rfl] at hx642_0); (try rw [Addr.add_zero'] at hx642_0); replace p642 := eq_true p642; replace q642 := eq_true q642; have p643 : 0 ≤ (1 : Int) := (by omega); have q643 : 1 < (t639.length : Int) := of_decide_eq_true asmB; obtain ⟨ad643, e643, hx643_0⟩ := Kd.at_int (Kd.R_reads' HO641.out).2.2 1 p643 q643; obtain rfl : ad642 = ad643 := (by injection e643); (try simp only [show (1 : Int).toNat = 1 from rfl, Nat.reduceMul, Nat.reduceEqDiff, Go.Addr.add, ↓reduceIte] at hx643_0); have qi643 : (1 < t639.length) = True := eq_true (by omega); (try rw [show ((1 : Int)).toNat = 1 from rfl] at hx643_0); replace p643 := eq_true p643; replace q643 := eq_true q643) | ((with_reducible refine gC 32 ?_); refine zG (some 35) Tryz.func32 (spec_l17Cave.calls k1 _ _ l0 (rd t639 1) x5_1 t644 _ (zCB HR0 HB) (HC0.out) A15.out) ?_; rintro e w25 ⟨v645, rfl, ho0, hb⟩; refine ⟨_, rfl, ?_⟩; have HO646 := Aside0.mk (Kd.R_lower (Kd.R_new' (Kd.R_new' ho0 (Kd.R_lt (upR HO_4.out))) (Kd.R_lt (upR HO641.out))) (below_size (bW HB))); replace HO_4 := Aside0.mk (Kd.R_elder' (upR HO_4.out) (Kd.R_base ho0) hb); replace HO641 := Aside0.mk (Kd.R_elder' (upR HO641.out) (Kd.R_base ho0) hb); replace HB := uB HB hb; (try clear hb); (try clear hk); (try clear ho0); obtain ⟨Ao26, co26, eo26⟩ := Kd.R_slice HO646.out; subst eo26))
        go_roundg k1
        case measure => have := HK1.out; omega
        case rel => exact ⟨(x4_1), (wrap64 (x5_1 + 1)), rB, H', ⟨by have := HK1.out; omega⟩, ⟨Kd.R_mono (upR HO_4.out) (fun _ hk => trivial)⟩, (aB HB)⟩
      ·replace H := bA H
       obtain ⟨t650, A27, H⟩ := H
       replace H := ifD H
       rcases H with ⟨H, -, c28b0⟩ | ⟨H, -, c28b0⟩
       ·replace H := zM H
        obtain ⟨c29, H⟩ := H
        have LMc29 := Aside0.mk c29
        clear c29
        obtain ⟨y653, hy653⟩ : ∃ y_ : List Int, y_ = (x4_1 ++ [x5_1]) := ⟨_, rfl⟩
        rw [← hy653] at H
        have Ny653 := Aside0.mk hy653
        clear hy653
        have H' := Aside0.mk H
        clear H
        go_wp2_with (first | ((with_reducible refine gC 32 ?_); refine zG (some 19) Tryz.func32 (spec_l17Cave.calls k1 _ _ l0 x5_1 (-1) t639 _ (zCB HR0 HB) (HC0.out) A8.out) ?_; rintro e w30 ⟨v640, rfl, ho0, hb⟩; refine ⟨_, rfl, ?_⟩; have HO641 := Aside0.mk (Kd.R_lower (Kd.R_new' ho0 (Kd.R_lt (upR HO_4.out))) (below_size (bW HB))); replace HO_4 := Aside0.mk (Kd.R_elder' (upR HO_4.out) (Kd.R_base ho0) hb); replace HB := uB HB hb; (try clear hb); (try clear hk); (try clear ho0); obtain ⟨Ao31, co31, eo31⟩ := Kd.R_slice HO641.out; subst eo31; have p642 : 0 ≤ (0 : Int) := (by omega); have q642 : 0 < (t639.length : Int) := of_decide_eq_true asmB; obtain ⟨ad642, e642, hx642_0⟩ := Kd.at_int (Kd.R_reads' HO641.out).2.2 0 p642 q642; cases e642; have qi642 : (0 < t639.length) = True := eq_true (by omega); (try rw [show ((0 : Int)).toNat = 0 from rfl] at hx642_0); (try rw [Addr.add_zero'] at hx642_0); replace p642 := eq_true p642; replace q642 := eq_true q642) | ((with_reducible refine gC 32 ?_); refine zG (some 35) Tryz.func32 (spec_l17Cave.calls k1 _ _ l0 (rd t639 0) x5_1 t650 _ (zCB HR0 HB) (HC0.out) A27.out) ?_; rintro e w32 ⟨v651, rfl, ho0, hb⟩; refine ⟨_, rfl, ?_⟩; have HO652 := Aside0.mk (Kd.R_lower (Kd.R_new' (Kd.R_new' ho0 (Kd.R_lt (upR HO_4.out))) (Kd.R_lt (upR HO641.out))) (below_size (bW HB))); replace HO_4 := Aside0.mk (Kd.R_elder' (upR HO_4.out) (Kd.R_base ho0) hb); replace HO641 := Aside0.mk (Kd.R_elder' (upR HO641.out) (Kd.R_base ho0) hb); replace HB := uB HB hb; (try clear hb); (try clear hk); (try clear ho0); obtain ⟨Ao33, co33, eo33⟩ := Kd.R_slice HO652.out; subst eo33) | ((with_reducible refine gate_builtin (b := .append) (xs := #[.tmp 41, .tmp 43]) rfl ?_); at_builtin; refine Kd.R_append (Kd.int .i64) (w0 := w) w.heap.size rfl (.tmp 41) (.tmp 43) 25 3 (.int .i64 0) 8 rfl Tryz.underlying25 info3 rfl (by decide) (by omega) u4 x4_1 x5_1 [.int .i64 x5_1] (fun k_ => some k_ ≠ (.slice (some ad642) t639.length co31 : Value).ownBlock ∧ some k_ ≠ (.slice Ao33 t650.length co33 : Value).ownBlock) (fun _ => False) rfl rfl ?aP (fun _ hk => hk.elim) ?aF ?aO ?aB ?aS ?aL ?_; (case aP => exact rfl); (case aB => exact (bW HB)); (case aF => exact (fun k_ hk => ⟨Kd.fresh' (Kd.R_lt (upR HO641.out)) k_ hk, Kd.fresh' (Kd.R_lt (upR HO652.out)) k_ hk⟩)); (case aO => exact (Kd.R_mono (upR HO_4.out) (fun _ hk => ⟨hk.1.2, hk.2⟩))); (case aS => exact (below_size (bW HB))); (case aL => have := LMc29.out; omega); intro v654 w34 ho hb hg hat; rw [← Ny653.out] at ho; have HO655 := Aside0.mk (ho); replace HO641 := Aside0.mk (Kd.R_after (ok := (fun k_ => some k_ ≠ (.slice Ao33 t650.length co33 : Value).ownBlock)) (Kd.R_mono (upR HO641.out) (fun _ hk => ⟨hk.2, hk.1.2⟩)) hg hat); replace HO652 := Aside0.mk (Kd.R_after (ok := (fun k_ => some k_ ≠ (.slice (some ad642) t639.length co31 : Value).ownBlock)) (Kd.R_mono (upR HO652.out) (fun _ hk => ⟨hk.2, hk.1.2⟩)) hg hat); replace HB := Aside0.mk (hb); clear HO_4; clear ho hb hg hat))
        go_roundg k1
        case measure => have := HK1.out; omega
        case rel => exact ⟨(y653), (wrap64 (x5_1 + 1)), rB, H', ⟨by have := HK1.out; omega⟩, ⟨Kd.R_mono (upR HO655.out) (fun _ hk => trivial)⟩, (aB HB)⟩
       ·have H' := Aside0.mk H
        clear H
        go_wp2_with (first | ((with_reducible refine gC 32 ?_); refine zG (some 19) Tryz.func32 (spec_l17Cave.calls k1 _ _ l0 x5_1 (-1) t639 _ (zCB HR0 HB) (HC0.out) A8.out) ?_; rintro e w35 ⟨v640, rfl, ho0, hb⟩; refine ⟨_, rfl, ?_⟩; have HO641 := Aside0.mk (Kd.R_lower (Kd.R_new' ho0 (Kd.R_lt (upR HO_4.out))) (below_size (bW HB))); replace HO_4 := Aside0.mk (Kd.R_elder' (upR HO_4.out) (Kd.R_base ho0) hb); replace HB := uB HB hb; (try clear hb); (try clear hk); (try clear ho0); obtain ⟨Ao36, co36, eo36⟩ := Kd.R_slice HO641.out; subst eo36; have p642 : 0 ≤ (0 : Int) := (by omega); have q642 : 0 < (t639.length : Int) := of_decide_eq_true asmB; obtain ⟨ad642, e642, hx642_0⟩ := Kd.at_int (Kd.R_reads' HO641.out).2.2 0 p642 q642; cases e642; have qi642 : (0 < t639.length) = True := eq_true (by omega); (try rw [show ((0 : Int)).toNat = 0 from rfl] at hx642_0); (try rw [Addr.add_zero'] at hx642_0); replace p642 := eq_true p642; replace q642 := eq_true q642) | ((with_reducible refine gC 32 ?_); refine zG (some 35) Tryz.func32 (spec_l17Cave.calls k1 _ _ l0 (rd t639 0) x5_1 t650 _ (zCB HR0 HB) (HC0.out) A27.out) ?_; rintro e w37 ⟨v651, rfl, ho0, hb⟩; refine ⟨_, rfl, ?_⟩; have HO652 := Aside0.mk (Kd.R_lower (Kd.R_new' (Kd.R_new' ho0 (Kd.R_lt (upR HO_4.out))) (Kd.R_lt (upR HO641.out))) (below_size (bW HB))); replace HO_4 := Aside0.mk (Kd.R_elder' (upR HO_4.out) (Kd.R_base ho0) hb); replace HO641 := Aside0.mk (Kd.R_elder' (upR HO641.out) (Kd.R_base ho0) hb); replace HB := uB HB hb; (try clear hb); (try clear hk); (try clear ho0); obtain ⟨Ao38, co38, eo38⟩ := Kd.R_slice HO652.out; subst eo38))
        go_roundg k1
        case measure => have := HK1.out; omega
        case rel => exact ⟨(x4_1), (wrap64 (x5_1 + 1)), rB, H', ⟨by have := HK1.out; omega⟩, ⟨Kd.R_mono (upR HO_4.out) (fun _ hk => trivial)⟩, (aB HB)⟩
    ·simp only [Option.some.injEq, Prod.mk.injEq] at H
     obtain ⟨rfl, rfl⟩ := H
     go_wp2
     go_ret2
     exact ⟨_, eB, upR HO_4.out, (bW HB)⟩
 ·replace H := iF (by decide) H
  simp only [Option.some.injEq, Prod.mk.injEq] at H
  obtain ⟨rfl, rfl⟩ := H
  go_enter Tryz.func16, Tryz.ntmps16
  go_wp2_with (first | ((with_reducible refine gate_dst (N := 8) rfl ?_); refine Kd.R_lit (Kd.int .i64) _ 3 ?hg (N := 8) ?hd (xs := ([] : List Int)) (inner := []) (ok := fun _ => True) (okp := fun _ => True) ?hr ?hp (fun _ hk => hk) trivial (Below.refl _ _) (Nat.le_refl _) (by simp) ?_; (case hd => rfl); (case hg => rfl); (case hr => first | (go_simp; done) | (go_simp; rfl)); (case hp => exact (Reps.none _ _)); intro v636 w39 ho40 hb hg_ hnew_; clear hg_ hnew_; (first | rw [← Ny635.out] at ho40 | (simp only [Int.reduceToNat] at ho40; rw [← Ny635.out] at ho40)); have HO637 := Aside0.mk (Kd.R_lower ho40 (below_size (bW HB))); replace HB := uB HB hb; clear hb ho40) | ((with_reducible refine gC 31 ?_); refine lA (some 10) Tryz.func31 (spec_l4Legs.calls k _ _ l0 false _ ?side1 ?side2 A2.out) ?_; (case side1 => exact zCB HR0 HB); (case side2 => exact HC0.out); intro w41 hb; replace HO637 := uR HO637 hb; replace HB := uB HB hb; (try clear hb); (try clear hk)))
  go_ret2
  exact ⟨_, eB, upR HO637.out, (bW HB)⟩

/-! ### impl_CavesOf: function 17 -/
def impl_CavesOf.f (k : Nat) (l0 : List (S32)) : Option ((List (List Int)) × Bool) := (impl_areLegs.f k l0).bind fun t656 => (if t656 = true then ((impl_caves.f k l0).bind fun t657 => (some (t657, true))) else (some (([] : List (List Int)), false)))
theorem impl_CavesOf.mono : ∀ a0 k, LeO (impl_CavesOf.f k a0) (impl_CavesOf.f (k + 1) a0) := by
 intro a0 k
 unfold impl_CavesOf.f
 repeat' with_reducible first | apply impl_areLegs.mono | apply impl_caves.mono | exact LeO.refl _ | exact LeO.none _ | refine LeO.ite ?_ ?_ | refine LeO.bind ?_ (fun _ => ?_)
set_option maxHeartbeats 8000000 in
set_option maxRecDepth 100000 in
theorem impl_CavesOf.calls (k : Nat) (A0 : Option Addr) (c0 : Nat) (l0 : List (S32)) (r1 : List (List Int)) (r2 : Bool) (w : World) (hr0 : Kd.C k32 w A0 l0.length l0) (hc0 : l0.length ≤ c0) (h : impl_CavesOf.f k l0 = some (r1, r2)) :
 Calls Tryz.prog 17 #[.slice A0 l0.length c0] w fun e w' => ∃ v0_ : Value, e = .returned (.tuple #[v0_, .bool r2]) ∧ Kd.S (Kd.slice 3 (Kd.int .i64)) 25 w' w.heap.size (fun _ => True) v0_ r1 ∧ Below w.heap.size w w' := by
 have HR0 := Aside0.mk hr0
 have HC0 := Aside0.mk hc0
 clear hr0 hc0
 have HB := Aside0.mk (Below.refl w.heap.size w)
 have H := h
 clear h
 unfold impl_CavesOf.f at H
 replace H := bA H
 obtain ⟨t656, A2, H⟩ := H
 rcases Bool.eq_false_or_eq_true t656 with rfl | rfl
 ·replace H := iT rfl H
  replace H := bA H
  obtain ⟨t657, A4, H⟩ := H
  simp only [Option.some.injEq, Prod.mk.injEq] at H
  obtain ⟨rfl, rfl⟩ := H
  go_enter Tryz.func17, Tryz.ntmps17
  go_wp2_with (first | ((with_reducible refine gC 27 ?_); refine lA (some 5) Tryz.func27 (impl_areLegs.calls k _ _ l0 true _ ?side1 ?side2 A2.out) ?_; (case side1 => exact zC HR0); (case side2 => exact HC0.out); intro w5 hb; replace HB := uB HB hb; (try clear hb)) | ((with_reducible refine gC 28 ?_); refine zG (some 8) Tryz.func28 (impl_caves.calls k _ _ l0 t657 _ (zCB HR0 HB) (HC0.out) A4.out) ?_; rintro e w6 ⟨v658, rfl, ho0, hb⟩; refine ⟨_, rfl, ?_⟩; have HO659 := Aside0.mk (Kd.S_lower ho0 (below_size (bW HB))); replace HB := uB HB hb; (try clear hb); (try clear ho0)))
  go_ret2
  exact ⟨_, eB, upS HO659.out, (bW HB)⟩
 ·replace H := iF (by decide) H
  simp only [Option.some.injEq, Prod.mk.injEq] at H
  obtain ⟨rfl, rfl⟩ := H
  go_enter Tryz.func17, Tryz.ntmps17
  go_wp2_with (first | ((with_reducible refine gC 27 ?_); refine lA (some 5) Tryz.func27 (impl_areLegs.calls k _ _ l0 false _ ?side1 ?side2 A2.out) ?_; (case side1 => exact zC HR0); (case side2 => exact HC0.out); intro w7 hb; replace HB := uB HB hb; (try clear hb)))
  go_ret2
  exact ⟨_, eB, by first | exact Kd.S_nil _ _ _ _ _ | exact Kd.N_nil _ _ _ _ _ | exact Kd.V_nil _ _ _ _ _ | exact Kd.Q_nil _ _ _ _ _ | exact Kd.R_nil _ _ _ _ _, (bW HB)⟩

/-! ### spec_DrawLongestCave: function 18 -/
def spec_DrawLongestCave.f (k : Nat) (l0 : List Int) : Option ((List (S32))) := (spec_DrawCavesOf.f k l0).bind fun t660 => (some t660)
theorem spec_DrawLongestCave.mono : ∀ a0 k, LeO (spec_DrawLongestCave.f k a0) (spec_DrawLongestCave.f (k + 1) a0) := by
 intro a0 k
 unfold spec_DrawLongestCave.f
 repeat' with_reducible first | apply spec_DrawCavesOf.mono | exact LeO.refl _ | exact LeO.none _ | refine LeO.ite ?_ ?_ | refine LeO.bind ?_ (fun _ => ?_)
set_option maxHeartbeats 8000000 in
set_option maxRecDepth 100000 in
theorem spec_DrawLongestCave.calls (k : Nat) (A0 : Option Addr) (c0 : Nat) (l0 : List Int) (r : List (S32)) (w : World) (hr0 : Kd.C (Kd.int .u8) w A0 l0.length l0) (hc0 : l0.length ≤ c0) (h : spec_DrawLongestCave.f k l0 = some r) :
 Calls Tryz.prog 18 #[.slice A0 l0.length c0] w fun e w' => ∃ v0_ : Value, e = .returned (v0_) ∧ Kd.R k32 32 w' w.heap.size (fun _ => True) v0_ r ∧ Below w.heap.size w w' := by
 have HR0 := Aside0.mk hr0
 have HC0 := Aside0.mk hc0
 clear hr0 hc0
 have HB := Aside0.mk (Below.refl w.heap.size w)
 have H := h
 clear h
 unfold spec_DrawLongestCave.f at H
 replace H := bA H
 obtain ⟨t660, A2, H⟩ := H
 obtain rfl := Option.some.inj H
 go_enter Tryz.func18, Tryz.ntmps18
 go_wp2_with (first | ((with_reducible refine gC 26 ?_); refine zG (some 4) Tryz.func26 (spec_DrawCavesOf.calls k _ _ l0 t660 _ (zC HR0) (HC0.out) A2.out) ?_; rintro e w3 ⟨v661, rfl, ho0, hb⟩; refine ⟨_, rfl, ?_⟩; have HO662 := Aside0.mk (Kd.R_lower ho0 (below_size (bW HB))); replace HB := uB HB hb; (try clear hb); (try clear ho0)))
 go_ret
 exact ⟨_, eB, upR HO662.out, (bW HB)⟩

/-! ### impl_caveLength: function 33 -/
theorem box_put8 {w : World} {t : TypeId} {cs : Array Value} : Below w.heap.size w (w.alloc (.cells cs t (0, 0))) ∧ (w.alloc (.cells cs t (0, 0))).heap[w.heap.size]? = some (.cells cs t (0, 0)) := ⟨below_alloc (Below.refl _ _) _, blk_new w _⟩
theorem pick_in {m i : Int} {r : Bool} (h : impl_xPick.f m i = some r) : 0 ≤ i ∧ i < 8 ∧ r = decide (m / 2 ^ i.toNat % 2 = 1) := by
 unfold impl_xPick.f at h
 by_cases c : 0 ≤ i ∧ i < 8
 ·rw [if_pos c] at h; exact ⟨c.1, c.2, (Option.some.inj h).symm⟩
 ·rw [if_neg c] at h; cases h
theorem bits_cell {m i : Int} {r : Bool} (h : 0 ≤ i ∧ i < 8 ∧ r = decide (m / 2 ^ i.toNat % 2 = 1)) : (#[.bool (decide (m % 2 = 1)), .bool (decide (m / 2 % 2 = 1)), .bool (decide (m / 4 % 2 = 1)), .bool (decide (m / 8 % 2 = 1)), .bool (decide (m / 16 % 2 = 1)), .bool (decide (m / 32 % 2 = 1)), .bool (decide (m / 64 % 2 = 1)), .bool (decide (m / 128 % 2 = 1))] : Array Value)[i.toNat]? = some (.bool r) := by
 obtain ⟨h0, h1, rfl⟩ := h
 have hi : i = 0 ∨ i = 1 ∨ i = 2 ∨ i = 3 ∨ i = 4 ∨ i = 5 ∨ i = 6 ∨ i = 7 := by omega
 rcases hi with rfl | rfl | rfl | rfl | rfl | rfl | rfl | rfl <;> simp
def impl_caveLength.l0 : Nat → Int → Int → List (S32) → Int → Int → Option (Int)
 | 0, _, _, _, _, _ => none
 | k + 1, x5, x6, x15, x16, x17 => if x17 < x16 then (if 0 ≤ x17 then (if x17 < (x15.length : Int) then ((impl_xPick.f x5 ((rd_T32 x15 x17).f0)).bind fun t669 => (if t669 = true then (impl_caveLength.l0 k x5 (wrap64 (x6 + ((rd_T32 x15 x17).f2))) x15 x16 (wrap64 (x17 + 1))) else (impl_caveLength.l0 k x5 x6 x15 x16 (wrap64 (x17 + 1))))) else (none)) else (none)) else (some x6)
def impl_caveLength.f (k : Nat) (l0 : List (S32)) (a1 : Int) : Option (Int) := if 0 ≤ (l0.length : Int) then (if ((l0.length : Int) : Int).toNat ≤ 35184372088832 then ((impl_xReach.f k l0 (List.replicate ((l0.length : Int) : Int).toNat 0) a1 0).bind fun t666 => (impl_caveLength.l0 k t666 0 l0 (l0.length : Int) 0)) else (none)) else (none)
theorem impl_caveLength.mono_l : ∀ k, (∀ y0 y1 y2 y3 y4, LeO (impl_caveLength.l0 k y0 y1 y2 y3 y4) (impl_caveLength.l0 (k + 1) y0 y1 y2 y3 y4))
 | 0 => fun _ _ _ _ _ r h => by simp [impl_caveLength.l0] at h
 | k + 1 => by
  have ih0 := impl_caveLength.mono_l k
  ·intro y0 y1 y2 y3 y4
   unfold impl_caveLength.l0
   repeat' with_reducible first | apply ih0 | apply impl_xReach.mono | exact LeO.refl _ | exact LeO.none _ | refine LeO.ite ?_ ?_ | refine LeO.bind ?_ (fun _ => ?_)
theorem impl_caveLength.mono : ∀ a0 a1 k, LeO (impl_caveLength.f k a0 a1) (impl_caveLength.f (k + 1) a0 a1) := by
 intro a0 a1 k
 have ih0 := impl_caveLength.mono_l k
 unfold impl_caveLength.f
 repeat' with_reducible first | apply ih0 | apply impl_xReach.mono | exact LeO.refl _ | exact LeO.none _ | refine LeO.ite ?_ ?_ | refine LeO.bind ?_ (fun _ => ?_)
set_option maxHeartbeats 8000000 in
set_option maxRecDepth 100000 in
theorem impl_caveLength.calls (k : Nat) (A0 : Option Addr) (c0 : Nat) (l0 : List (S32)) (a1 r : Int) (w : World) (hr0 : Kd.C k32 w A0 l0.length l0) (hc0 : l0.length ≤ c0) (h : impl_caveLength.f k l0 a1 = some r) :
 Calls Tryz.prog 33 #[.slice A0 l0.length c0, .int .i64 a1] w fun e w' => e = .returned (.int .i64 r) ∧ Below w.heap.size w w' := by
 have hu32 := Tryz.underlying32
 have HR0 := Aside0.mk hr0
 have HC0 := Aside0.mk hc0
 clear hr0 hc0
 have HB := Aside0.mk (Below.refl w.heap.size w)
 have H := h
 clear h
 unfold impl_caveLength.f at H
 replace H := zM H
 obtain ⟨c3, H⟩ := H
 have c3b0 := eq_true c3
 have c3b1 : decide (0 ≤ (l0.length : Int)) = true := decide_eq_true c3
 clear c3
 replace H := zM H
 obtain ⟨c4, H⟩ := H
 have c4b0 := eq_true c4
 have c4b1 : decide (((l0.length : Int) : Int).toNat ≤ 35184372088832) = true := decide_eq_true c4
 clear c4
 obtain ⟨y663, hy663⟩ : ∃ y_ : List Int, y_ = (List.replicate ((l0.length : Int) : Int).toNat 0) := ⟨_, rfl⟩
 rw [← hy663] at H
 have Ny663 := Aside0.mk hy663
 clear hy663
 replace H := bA H
 obtain ⟨t666, A5, H⟩ := H
 have H' := Aside0.mk H
 clear H
 go_enter Tryz.func33, Tryz.ntmps33
 go_wp2_with (first | ((with_reducible refine gate_dst (N := 12) rfl ?_); refine Kd.R_make (Kd.int .i64) _ 3 rfl (N := 12) rfl 25 _ _ rfl (l0.length : Int) rfl rfl Tryz.underlying25 (.int .i64 0) 8 info3 rfl (by decide) (by omega) 0 (ok := fun _ => True) (okp := fun _ => True) rfl (fun _ hk => hk) trivial (of_decide_eq_true asmB) (Nat.le_trans (Nat.mul_le_mul_right _ (of_decide_eq_true asmB : (l0.length : Int).toNat ≤ 35184372088832)) (by omega)) (Below.refl _ _) (Nat.le_refl _) ?_; intro v664 w6 ho7 hb hg_ hnew_; clear hg_ hnew_; (first | rw [← Ny663.out] at ho7 | (simp only [Int.reduceToNat] at ho7; rw [← Ny663.out] at ho7)); have HO665 := Aside0.mk (Kd.R_lower ho7 (below_size (bW HB))); replace HB := uB HB hb; clear hb ho7; obtain ⟨Ao8, co8, eo8⟩ := Kd.R_slice HO665.out; subst eo8) | ((with_reducible refine gC 48 ?_); refine lA (some 14) Tryz.func48 (impl_xReach.calls k _ _ l0 _ _ y663 a1 0 t666 _ ?side1 ?side2 ?side3 ?side4 A5.out) ?_; (case side1 => exact zCB HR0 HB); (case side2 => exact HC0.out); (case side3 => exact zCR HO665); (case side4 => exact (Kd.R_reads' HO665.out).2.1); intro w9 hb; unfold bitsV; replace HO665 := uR HO665 hb; replace HB := uB HB hb; (try clear hb); (try clear hk)))
 have hbx_ := box_put8 (w := w9) (t := 64) (cs := #[.bool (decide (t666 % 2 = 1)), .bool (decide (t666 / 2 % 2 = 1)), .bool (decide (t666 / 4 % 2 = 1)), .bool (decide (t666 / 8 % 2 = 1)), .bool (decide (t666 / 16 % 2 = 1)), .bool (decide (t666 / 32 % 2 = 1)), .bool (decide (t666 / 64 % 2 = 1)), .bool (decide (t666 / 128 % 2 = 1))])
 obtain ⟨gbx, hgbx⟩ : ∃ g : Nat, g = w9.heap.size := ⟨_, rfl⟩
 generalize (w9.alloc (.cells #[.bool (decide (t666 % 2 = 1)), .bool (decide (t666 / 2 % 2 = 1)), .bool (decide (t666 / 4 % 2 = 1)), .bool (decide (t666 / 8 % 2 = 1)), .bool (decide (t666 / 16 % 2 = 1)), .bool (decide (t666 / 32 % 2 = 1)), .bool (decide (t666 / 64 % 2 = 1)), .bool (decide (t666 / 128 % 2 = 1))] 64 (0, 0))) = wbx at hbx_ ⊢
 have n1_ := Aside0.mk (below_step HB.out hbx_.1)
 have BX := Aside0.mk hbx_.2
 rw [← hgbx] at BX ⊢
 clear HB hbx_ hgbx
 have HB := n1_
 clear n1_
 go_loopg [6, 17] k (fun kq v6 v17 w' => ∃ (x6_1 x17_1 : Int), v6 = .int .i64 x6_1 ∧ v17 = .int .i64 x17_1 ∧ Aside0 (impl_caveLength.l0 kq t666 x6_1 l0 (l0.length : Int) x17_1 = some r) ∧ Aside0 (kq ≤ k) ∧ Aside0 (Below w.heap.size w w') ∧ Aside0 (w'.heap[gbx]? = some (.cells #[.bool (decide (t666 % 2 = 1)), .bool (decide (t666 / 2 % 2 = 1)), .bool (decide (t666 / 4 % 2 = 1)), .bool (decide (t666 / 8 % 2 = 1)), .bool (decide (t666 / 16 % 2 = 1)), .bool (decide (t666 / 32 % 2 = 1)), .bool (decide (t666 / 64 % 2 = 1)), .bool (decide (t666 / 128 % 2 = 1))] 64 (0, 0))))
 case atStart => exact ⟨(0), (0), rB, rB, H', ⟨Nat.le_refl _⟩, (aB HB), BX⟩
 case round =>
  clear H'
  try clear c3
  try clear c3b0
  try clear c3b1
  try clear c4
  try clear c4b0
  try clear c4b1
  obtain ⟨x6_1, x17_1, rfl, rfl, HA, HK1, HB, BX⟩ := hrel
  cases gk with
  | zero => exact absurd HA.out (by simp [impl_caveLength.l0])
  | succ k1 =>
   have H := HA.out
   clear HA
   simp only [impl_caveLength.l0] at H
   replace H := ifD H
   rcases H with ⟨H, -, c10b0⟩ | ⟨H, -, c10b0⟩
   ·replace H := zN H
    obtain ⟨c11b0, H⟩ := H
    replace H := zN H
    obtain ⟨c12b0, H⟩ := H
    replace H := bA H
    obtain ⟨t669, A13, H⟩ := H
    rcases Bool.eq_false_or_eq_true t669 with rfl | rfl
    ·replace H := iT rfl H
     have H' := Aside0.mk H
     clear H
     obtain ⟨ad667, e667, hx667_0, hx667_1, hx667_2, hx667_3, hx667_4, p667, q667⟩ := zT HR0 HB x17_1
     cases e667
     have pin_ := Aside0.mk (pick_in A13.out)
     have pa_ : (0 ≤ ((rd_T32 l0 x17_1).f0)) = True := eq_true pin_.out.1
     have pb_ : (((rd_T32 l0 x17_1).f0) < 8) = True := eq_true pin_.out.2.1
     go_wp2_with (first | ((with_reducible refine gD 8 ?_); refine bxE 8 32 #[.int .i64 0, .int .i64 0, .int .i64 0, .int .i64 0, .int .i64 0] fun gb668 w15 hg hbox hb => ?_; have BK668 := Aside0.mk hbox; have GE668 := gB HB hg; replace HB := uB HB hb; have nX_ := Aside0.mk (blk_below BX.out hb); have NBX := Aside0.mk (show gbx ≠ gb668 from by have := blk_lt BX.out; omega); clear BX; have BX := nX_; clear nX_; clear hb hbox hg; have ⟨hcz16_0, hcz16_1, hcz16_2, hcz16_3, hcz16_4, hfz16_0⟩ := cz5 BK668) | ((with_reducible refine gate_store (t := 32) (p := 8) rfl ?_); refine store_event (t := 32) (p := 8) (v := ?vo_) (w1 := (((((w15.setCell ⟨gb668, 0, none⟩ (.int .i64 ((rd_T32 l0 x17_1).f0))).setCell ⟨gb668, 1, none⟩ (.int .i64 ((rd_T32 l0 x17_1).f1))).setCell ⟨gb668, 2, none⟩ (.int .i64 ((rd_T32 l0 x17_1).f2))).setCell ⟨gb668, 3, none⟩ (.int .i64 ((rd_T32 l0 x17_1).f3))).setCell ⟨gb668, 4, none⟩ (.int .i64 ((rd_T32 l0 x17_1).f4)))) ?hg ?ho ?hn ?hr ?_; (case ho => rfl); (case hg => rfl); (case hn => rfl); (case hr => first | (go_simp; done) | (go_simp; rfl)); intro w6689 hw; have n0_ : Aside0 (w6689.heap[gbx]? = some (.cells #[.bool (decide (t666 % 2 = 1)), .bool (decide (t666 / 2 % 2 = 1)), .bool (decide (t666 / 4 % 2 = 1)), .bool (decide (t666 / 8 % 2 = 1)), .bool (decide (t666 / 16 % 2 = 1)), .bool (decide (t666 / 32 % 2 = 1)), .bool (decide (t666 / 64 % 2 = 1)), .bool (decide (t666 / 128 % 2 = 1))] 64 (0, 0))) := ⟨(by rw [hw]; exact blk_far (blk_far (blk_far (blk_far (blk_far BX.out NBX.out _) NBX.out _) NBX.out _) NBX.out _) NBX.out _)⟩; have n1_ : Aside0 (w6689.heap[gb668]? = some (.cells #[.int .i64 ((rd_T32 l0 x17_1).f0), .int .i64 ((rd_T32 l0 x17_1).f1), .int .i64 ((rd_T32 l0 x17_1).f2), .int .i64 ((rd_T32 l0 x17_1).f3), .int .i64 ((rd_T32 l0 x17_1).f4)] 32 (0, 0))) := ⟨(by rw [hw]; refine blk_put (cs := #[.int .i64 ((rd_T32 l0 x17_1).f0), .int .i64 ((rd_T32 l0 x17_1).f1), .int .i64 ((rd_T32 l0 x17_1).f2), .int .i64 ((rd_T32 l0 x17_1).f3), .int .i64 0]) ?_ 4 _ rfl; refine blk_put (cs := #[.int .i64 ((rd_T32 l0 x17_1).f0), .int .i64 ((rd_T32 l0 x17_1).f1), .int .i64 ((rd_T32 l0 x17_1).f2), .int .i64 0, .int .i64 0]) ?_ 3 _ rfl; refine blk_put (cs := #[.int .i64 ((rd_T32 l0 x17_1).f0), .int .i64 ((rd_T32 l0 x17_1).f1), .int .i64 0, .int .i64 0, .int .i64 0]) ?_ 2 _ rfl; refine blk_put (cs := #[.int .i64 ((rd_T32 l0 x17_1).f0), .int .i64 0, .int .i64 0, .int .i64 0, .int .i64 0]) ?_ 1 _ rfl; refine blk_put (cs := #[.int .i64 0, .int .i64 0, .int .i64 0, .int .i64 0, .int .i64 0]) ?_ 0 _ rfl; exact BK668.out)⟩; have n2_ : Aside0 (Below w.heap.size w w6689) := ⟨(by rw [hw]; exact below_set (below_set (below_set (below_set (below_set HB.out GE668.out) GE668.out) GE668.out) GE668.out) GE668.out)⟩; clear hw; clear BX BK668 HB; have BX := n0_; have BK668 := n1_; have HB := n2_; clear n0_ n1_ n2_; have ⟨hcy0_, hcy1_, hcy2_, hcy3_, hcy4_, _⟩ := cz5 BK668; have hpk_ : w6689.cell? ⟨gbx, (((rd_T32 l0 x17_1).f0)).toNat, none⟩ = some (.bool true) := (blk_cell BX.out _).trans (bits_cell pin_.out)))
     go_roundg k1
     case measure => have := HK1.out; omega
     case rel => exact ⟨(wrap64 (x6_1 + ((rd_T32 l0 x17_1).f2))), (wrap64 (x17_1 + 1)), rB, rB, H', ⟨by have := HK1.out; omega⟩, (aB HB), ⟨by (with_reducible repeat (first | refine blk_drewN ?_ _ | refine blk_drew ?_ | refine blk_alloc ?_ _)); exact BX.out⟩⟩
    ·replace H := iF (by decide) H
     have H' := Aside0.mk H
     clear H
     obtain ⟨ad667, e667, hx667_0, hx667_1, hx667_2, hx667_3, hx667_4, p667, q667⟩ := zT HR0 HB x17_1
     cases e667
     have pin_ := Aside0.mk (pick_in A13.out)
     have pa_ : (0 ≤ ((rd_T32 l0 x17_1).f0)) = True := eq_true pin_.out.1
     have pb_ : (((rd_T32 l0 x17_1).f0) < 8) = True := eq_true pin_.out.2.1
     go_wp2_with (first | ((with_reducible refine gD 8 ?_); refine bxE 8 32 #[.int .i64 0, .int .i64 0, .int .i64 0, .int .i64 0, .int .i64 0] fun gb668 w19 hg hbox hb => ?_; have BK668 := Aside0.mk hbox; have GE668 := gB HB hg; replace HB := uB HB hb; have nX_ := Aside0.mk (blk_below BX.out hb); have NBX := Aside0.mk (show gbx ≠ gb668 from by have := blk_lt BX.out; omega); clear BX; have BX := nX_; clear nX_; clear hb hbox hg; have ⟨hcz20_0, hcz20_1, hcz20_2, hcz20_3, hcz20_4, hfz20_0⟩ := cz5 BK668) | ((with_reducible refine gate_store (t := 32) (p := 8) rfl ?_); refine store_event (t := 32) (p := 8) (v := ?vo_) (w1 := (((((w19.setCell ⟨gb668, 0, none⟩ (.int .i64 ((rd_T32 l0 x17_1).f0))).setCell ⟨gb668, 1, none⟩ (.int .i64 ((rd_T32 l0 x17_1).f1))).setCell ⟨gb668, 2, none⟩ (.int .i64 ((rd_T32 l0 x17_1).f2))).setCell ⟨gb668, 3, none⟩ (.int .i64 ((rd_T32 l0 x17_1).f3))).setCell ⟨gb668, 4, none⟩ (.int .i64 ((rd_T32 l0 x17_1).f4)))) ?hg ?ho ?hn ?hr ?_; (case ho => rfl); (case hg => rfl); (case hn => rfl); (case hr => first | (go_simp; done) | (go_simp; rfl)); intro w6689 hw; have n0_ : Aside0 (w6689.heap[gbx]? = some (.cells #[.bool (decide (t666 % 2 = 1)), .bool (decide (t666 / 2 % 2 = 1)), .bool (decide (t666 / 4 % 2 = 1)), .bool (decide (t666 / 8 % 2 = 1)), .bool (decide (t666 / 16 % 2 = 1)), .bool (decide (t666 / 32 % 2 = 1)), .bool (decide (t666 / 64 % 2 = 1)), .bool (decide (t666 / 128 % 2 = 1))] 64 (0, 0))) := ⟨(by rw [hw]; exact blk_far (blk_far (blk_far (blk_far (blk_far BX.out NBX.out _) NBX.out _) NBX.out _) NBX.out _) NBX.out _)⟩; have n1_ : Aside0 (w6689.heap[gb668]? = some (.cells #[.int .i64 ((rd_T32 l0 x17_1).f0), .int .i64 ((rd_T32 l0 x17_1).f1), .int .i64 ((rd_T32 l0 x17_1).f2), .int .i64 ((rd_T32 l0 x17_1).f3), .int .i64 ((rd_T32 l0 x17_1).f4)] 32 (0, 0))) := ⟨(by rw [hw]; refine blk_put (cs := #[.int .i64 ((rd_T32 l0 x17_1).f0), .int .i64 ((rd_T32 l0 x17_1).f1), .int .i64 ((rd_T32 l0 x17_1).f2), .int .i64 ((rd_T32 l0 x17_1).f3), .int .i64 0]) ?_ 4 _ rfl; refine blk_put (cs := #[.int .i64 ((rd_T32 l0 x17_1).f0), .int .i64 ((rd_T32 l0 x17_1).f1), .int .i64 ((rd_T32 l0 x17_1).f2), .int .i64 0, .int .i64 0]) ?_ 3 _ rfl; refine blk_put (cs := #[.int .i64 ((rd_T32 l0 x17_1).f0), .int .i64 ((rd_T32 l0 x17_1).f1), .int .i64 0, .int .i64 0, .int .i64 0]) ?_ 2 _ rfl; refine blk_put (cs := #[.int .i64 ((rd_T32 l0 x17_1).f0), .int .i64 0, .int .i64 0, .int .i64 0, .int .i64 0]) ?_ 1 _ rfl; refine blk_put (cs := #[.int .i64 0, .int .i64 0, .int .i64 0, .int .i64 0, .int .i64 0]) ?_ 0 _ rfl; exact BK668.out)⟩; have n2_ : Aside0 (Below w.heap.size w w6689) := ⟨(by rw [hw]; exact below_set (below_set (below_set (below_set (below_set HB.out GE668.out) GE668.out) GE668.out) GE668.out) GE668.out)⟩; clear hw; clear BX BK668 HB; have BX := n0_; have BK668 := n1_; have HB := n2_; clear n0_ n1_ n2_; have ⟨hcy0_, hcy1_, hcy2_, hcy3_, hcy4_, _⟩ := cz5 BK668; have hpk_ : w6689.cell? ⟨gbx, (((rd_T32 l0 x17_1).f0)).toNat, none⟩ = some (.bool false) := (blk_cell BX.out _).trans (bits_cell pin_.out)))
     go_roundg k1
     case measure => have := HK1.out; omega
     case rel => exact ⟨(x6_1), (wrap64 (x17_1 + 1)), rB, rB, H', ⟨by have := HK1.out; omega⟩, (aB HB), ⟨by (with_reducible repeat (first | refine blk_drewN ?_ _ | refine blk_drew ?_ | refine blk_alloc ?_ _)); exact BX.out⟩⟩
   ·obtain rfl := Option.some.inj H
    go_wp2
    go_ret
    exact ⟨eB, (bW HB)⟩

end Go.Proofs.YtmfidodcpbochaaGreat.QFnSteps
