/- Contracts of Go functions that FnLeads reaches: the call computes what the plain function says. No condition. -/
import Derived.Test.YtldgjibimolcdaaDoorQFnLeadsx0
import Derived.Test.YtldgjibimolcdaaDoorQFnLeadsx2
import Derived.Test.YtldgjibimolcdaaDoorQFnLeadsx11
import Derived.Test.YtldgjibimolcdaaDoorQFnLeadsx13
namespace Go.Proofs.YtldgjibimolcdaaDoor.QFnLeads
open Go.RowKit Go.Proofs.YtldgjibimolcdaaDoorW.PrintWords Go.Proofs.YtldgjibimolcdaaDoorW.PrintLast Go.Proofs.YtldgjibimolcdaaDoorW.PrintMore
attribute [local go_sem] max2_int min2_int max_two min_two max_three min_three max_four min_four   -- for this text's walks alone
set_option linter.unusedVariables false
set_option linter.unusedSimpArgs false

/-! ### spec_LeadsAt: function 18 -/
mutual
def spec_LeadsAt.j0 : Nat → List (S26) → Int → List Int → Bool → Option (List Int × Bool)
 | 0, _, _, _, _ => none
 | k + 1, x0, x1, x6, x16 => if x16 = true then (some (x6, false)) else (spec_LeadsAt.l0 k x0 x1 x6 0)
def spec_LeadsAt.l0 : Nat → List (S26) → Int → List Int → Int → Option (List Int × Bool)
 | 0, _, _, _, _ => none
 | k + 1, x0, x1, x6, x7 => if x7 < (x0.length : Int) then (if 0 ≤ x7 then (if ((rd_T26 x0 x7).f1) = x1 then (if x6.length < 17592186044416 then (spec_LeadsAt.l0 k x0 x1 (x6 ++ [(rd_T26 x0 x7).f0]) (wrap64 (x7 + 1))) else (none)) else (spec_LeadsAt.l0 k x0 x1 x6 (wrap64 (x7 + 1)))) else (none)) else (some (x6, true))
end
def spec_LeadsAt.f (k : Nat) (l0 : List (S26)) (a1 : Int) : Option (List Int × Bool) := (some (([] : List Int) : List Int)).bind fun y388 => ((spec_l18Good.f k l0).bind fun t391 => (if t391 = true then ((spec_l4Station.f a1).bind fun t392 => (spec_LeadsAt.j0 k l0 a1 y388 (!t392))) else (spec_LeadsAt.j0 k l0 a1 y388 true)))
theorem spec_LeadsAt.mono_l : ∀ k, (∀ y0 y1 y2 y3, LeO (spec_LeadsAt.j0 k y0 y1 y2 y3) (spec_LeadsAt.j0 (k + 1) y0 y1 y2 y3)) ∧ (∀ y0 y1 y2 y3, LeO (spec_LeadsAt.l0 k y0 y1 y2 y3) (spec_LeadsAt.l0 (k + 1) y0 y1 y2 y3))
 | 0 => ⟨fun _ _ _ _ r h => by simp [spec_LeadsAt.j0] at h, fun _ _ _ _ r h => by simp [spec_LeadsAt.l0] at h⟩
 | k + 1 => by
  obtain ⟨ih0, ih1⟩ := spec_LeadsAt.mono_l k
  refine ⟨?_, ?_⟩
  ·intro y0 y1 y2 y3
   unfold spec_LeadsAt.j0
   repeat' with_reducible first | apply ih0 | apply ih1 | apply spec_l18Good.mono | exact LeO.refl _ | exact LeO.none _ | refine LeO.ite ?_ ?_ | refine LeO.bind ?_ (fun _ => ?_)
  ·intro y0 y1 y2 y3
   unfold spec_LeadsAt.l0
   repeat' with_reducible first | apply ih0 | apply ih1 | apply spec_l18Good.mono | exact LeO.refl _ | exact LeO.none _ | refine LeO.ite ?_ ?_ | refine LeO.bind ?_ (fun _ => ?_)
theorem spec_LeadsAt.mono : ∀ a0 a1 k, LeO (spec_LeadsAt.f k a0 a1) (spec_LeadsAt.f (k + 1) a0 a1) := by
 intro a0 a1 k
 obtain ⟨ih0, ih1⟩ := spec_LeadsAt.mono_l k
 unfold spec_LeadsAt.f
 repeat' with_reducible first | apply ih0 | apply ih1 | apply spec_l18Good.mono | exact LeO.refl _ | exact LeO.none _ | refine LeO.ite ?_ ?_ | refine LeO.bind ?_ (fun _ => ?_)
set_option maxHeartbeats 8000000 in
set_option maxRecDepth 100000 in
theorem spec_LeadsAt.calls (k : Nat) (A0 : Option Addr) (c0 : Nat) (l0 : List (S26)) (a1 : Int) (r1 : List Int) (r2 : Bool) (w : World) (hr0 : Kd.C k26 w A0 l0.length l0) (hc0 : l0.length ≤ c0) (h : spec_LeadsAt.f k l0 a1 = some (r1, r2)) :
  Calls Tryd.prog 18 #[.slice A0 l0.length c0, .int .i64 a1] w fun e w' => ∃ v0_ : Value, e = .returned (.tuple #[v0_, .bool r2]) ∧ Kd.R (Kd.int .i64) 3 w' w.heap.size (fun _ => True) v0_ r1 ∧ Below w.heap.size w w' := by
 have HR0 := Aside0.mk hr0
 have HC0 := Aside0.mk hc0
 clear hr0 hc0
 have HB := Aside0.mk (Below.refl w.heap.size w)
 have H := h
 clear h
 unfold spec_LeadsAt.f at H
 obtain ⟨y388, hy388⟩ : ∃ y_ : List Int, y_ = (([] : List Int)) := ⟨_, rfl⟩
 replace H : ((spec_l18Good.f k l0).bind fun t391 => (if t391 = true then ((spec_l4Station.f a1).bind fun t392 => (spec_LeadsAt.j0 k l0 a1 y388 (!t392))) else (spec_LeadsAt.j0 k l0 a1 y388 true))) = some (r1, r2) := by first | (rw [hy388]; with_reducible exact H) | (have H2_ := (Option.bind_some _ _).symm.trans H; rw [hy388]; with_reducible exact H2_) | (have H2_ := (Option.bind_some _ _).symm.trans H; with_reducible exact H2_) | with_reducible exact H | (rw [hy388]; exact H) | exact H
 have Ny388 := Aside0.mk hy388
 clear hy388
 have HC3 := Aside0.mk H
 clear H
 go_enter Tryd.func18, Tryd.ntmps18
 go_upto_region 2 with (first | ((with_reducible refine gate_dst (N := 8) rfl ?_); refine Kd.R_lit (Kd.int .i64) _ 3 ?hg (N := 8) ?hd (xs := ([] : List Int)) (inner := []) (ok := fun _ => True) (okp := fun _ => True) ?hr ?hp (fun _ hk => hk) trivial (Below.refl _ _) (Nat.le_refl _) (by simp) ?_; (case hd => rfl); (case hg => rfl); (case hr => first | (go_simp; done) | (go_simp; rfl)); (case hp => exact (Reps.none _ _)); intro v389 w4 ho5 hb hg_ hnew_; clear hg_ hnew_; (first | rw [← Ny388.out] at ho5 | (simp only [Int.reduceToNat] at ho5; rw [← Ny388.out] at ho5)); have HO390 := Aside0.mk (Kd.R_lower ho5 (below_size (bW HB))); replace HB := uB HB hb; clear hb ho5))
 (try simp only [Act.put, List.setIfInBounds_toArray, List.set_cons_zero, List.set_cons_succ])
 go_cut [16] (fun v16 wc => ∃ (kq : Nat) (x16_2 : Bool), v16 = .bool x16_2 ∧ Aside0 (spec_LeadsAt.j0 kq l0 a1 y388 x16_2 = some (r1, r2)) ∧ Aside0 (kq ≤ k) ∧ Aside0 (Kd.R (Kd.int .i64) 3 wc w.heap.size (fun _ => True) v389 y388) ∧ Aside0 (Below w.heap.size w wc))
 case first =>
  have H := HC3.out
  clear HC3
  replace H := bA H
  obtain ⟨t391, A6, H⟩ := H
  rcases Bool.eq_false_or_eq_true t391 with rfl | rfl
  ·replace H := iT rfl H
   replace H := bA H
   obtain ⟨t392, A8, H⟩ := H
   have H' := Aside0.mk H
   clear H
   go_wp2_with (first | ((with_reducible refine gC 44 ?_); refine lA (some 10) Tryd.func44 (spec_l18Good.calls k _ _ l0 true _ ?side1 ?side2 A6.out) ?_; (case side1 => repeat (first | exact (Kd.C_below HR0.out HB.out) | (with_reducible refine Kd.C_alloc ?_ _) | (with_reducible refine Kd.C_drewN ?_ _) | (with_reducible refine Kd.C_drew ?_))); (case side2 => exact HC0.out); intro w9 hb; replace HO390 := uR HO390 hb; replace HB := uB HB hb; (try clear hb); (try clear hk)) | (go_at_call 45; (with_reducible refine (spec_l4Station.calls a1 t392 _ A8.out).mono ?_); rintro e w' ⟨rfl, ⟨nd, rfl⟩⟩))
   go_meet
   case rel => exact ⟨_, (!t392), rB, H', leB, ⟨upR HO390.out⟩, (aB HB)⟩
  ·replace H := iF (by decide) H
   have H' := Aside0.mk H
   clear H
   go_wp2_with (first | ((with_reducible refine gC 44 ?_); refine lA (some 10) Tryd.func44 (spec_l18Good.calls k _ _ l0 false _ ?side1 ?side2 A6.out) ?_; (case side1 => repeat (first | exact (Kd.C_below HR0.out HB.out) | (with_reducible refine Kd.C_alloc ?_ _) | (with_reducible refine Kd.C_drewN ?_ _) | (with_reducible refine Kd.C_drew ?_))); (case side2 => exact HC0.out); intro w10 hb; replace HO390 := uR HO390 hb; replace HB := uB HB hb; (try clear hb); (try clear hk)))
   go_meet
   case rel => exact ⟨_, (true), rB, H', leB, ⟨upR HO390.out⟩, (aB HB)⟩
 case rest =>
  clear HC3
  obtain ⟨kq, x16_2, rfl, HA, HJ2, HO_6, HB⟩ := hcut
  cases kq with
  | zero => exact absurd HA.out (by simp [spec_LeadsAt.j0])
  | succ kj2 =>
   have H := HA.out
   clear HA
   simp only [spec_LeadsAt.j0] at H
   rcases Bool.eq_false_or_eq_true x16_2 with rfl | rfl
   ·replace H := iT rfl H
    simp only [Option.some.injEq, Prod.mk.injEq] at H
    obtain ⟨rfl, rfl⟩ := H
    go_wp2
    go_ret2
    exact ⟨_, eB, upR HO_6.out, (bW HB)⟩
   ·replace H := iF (by decide) H
    have H' := Aside0.mk H
    clear H
    go_wp2
    go_loopg [6, 7] kj2 (fun kq v6 v7 w' => ∃ (x6_2 : List Int) (x7_2 : Int), v7 = .int .i64 x7_2 ∧ Aside0 (spec_LeadsAt.l0 kq l0 a1 x6_2 x7_2 = some (r1, r2)) ∧ Aside0 (kq ≤ kj2) ∧ Aside0 (Kd.R (Kd.int .i64) 3 w' w.heap.size (fun _ => True) v6 x6_2) ∧ Aside0 (Below w.heap.size w w'))
    case atStart => exact ⟨(y388), (0), rB, H', ⟨Nat.le_refl _⟩, ⟨upR HO_6.out⟩, (aB HB)⟩
    case round =>
     clear H'
     obtain ⟨x6_2, x7_2, rfl, HA, HK2, HO_6, HB⟩ := hrel
     cases gk with
     | zero => exact absurd HA.out (by simp [spec_LeadsAt.l0])
     | succ k2 =>
      have H := HA.out
      clear HA
      simp only [spec_LeadsAt.l0] at H
      replace H := ifD H
      rcases H with ⟨H, -, c12b0⟩ | ⟨H, -, c12b0⟩
      ·by_cases c13 : 0 ≤ x7_2
       ·rw [if_pos c13] at H
        have c13b0 : decide (0 ≤ x7_2) = true := decide_eq_true c13
        clear c13
        replace H := ifI H
        rcases H with ⟨H, -, c14b0, c14b1⟩ | ⟨H, c14, c14b0, c14b1⟩
        ·by_cases c15 : x6_2.length < 17592186044416
         ·rw [if_pos c15] at H
          have LMc15 := Aside0.mk c15
          clear c15
          obtain ⟨y395, hy395⟩ : ∃ y_ : List Int, y_ = (x6_2 ++ [(rd_T26 l0 x7_2).f0]) := ⟨_, rfl⟩
          replace H : (spec_LeadsAt.l0 k2 l0 a1 y395 (wrap64 (x7_2 + 1))) = some (r1, r2) := by first | (rw [hy395]; with_reducible exact H) | (have H2_ := (Option.bind_some _ _).symm.trans H; rw [hy395]; with_reducible exact H2_) | (have H2_ := (Option.bind_some _ _).symm.trans H; with_reducible exact H2_) | with_reducible exact H | (rw [hy395]; exact H) | exact H
          have Ny395 := Aside0.mk hy395
          clear hy395
          have H' := Aside0.mk H
          clear H
          have p393 : 0 ≤ (x7_2 : Int) := of_decide_eq_true asmB
          have q393 : x7_2 < (l0.length : Int) := of_decide_eq_true asmB
          obtain ⟨ad393, e393, hx393_0, hx393_1, hx393_2, hx393_3, hx393_4⟩ := at_T26 HR0.out x7_2 p393 q393
          cases e393
          replace hx393_0 := bx HB.out hx393_0
          replace hx393_1 := bx HB.out hx393_1
          replace hx393_2 := bx HB.out hx393_2
          replace hx393_3 := bx HB.out hx393_3
          replace hx393_4 := bx HB.out hx393_4
          replace p393 := eq_true p393
          replace q393 := eq_true q393
          have p394 : 0 ≤ (x7_2 : Int) := of_decide_eq_true asmB
          have q394 : x7_2 < (l0.length : Int) := of_decide_eq_true asmB
          obtain ⟨ad394, e394, hx394_0, hx394_1, hx394_2, hx394_3, hx394_4⟩ := at_T26 HR0.out x7_2 p394 q394
          obtain rfl : ad393 = ad394 := (by injection e394)
          replace hx394_0 := bx HB.out hx394_0
          replace hx394_1 := bx HB.out hx394_1
          replace hx394_2 := bx HB.out hx394_2
          replace hx394_3 := bx HB.out hx394_3
          replace hx394_4 := bx HB.out hx394_4
          replace p394 := eq_true p394
          replace q394 := eq_true q394
          go_wp2_with (first | ((with_reducible refine gate_builtin (b := .append) (xs := #[.tmp 31, .tmp 37]) rfl ?_); at_builtin; refine Kd.R_append (Kd.int .i64) (w0 := w) w.heap.size rfl (.tmp 31) (.tmp 37) 41 3 (.int .i64 0) 8 rfl Tryd.underlying41 info3 rfl (by decide) (by omega) u6 x6_2 ((rd_T26 l0 x7_2).f0) [.int .i64 ((rd_T26 l0 x7_2).f0)] (fun _ => True) (fun _ => False) rfl rfl ?aP (fun _ hk => hk.elim) ?aF ?aO ?aB ?aS ?aL ?_; (case aP => exact rfl); (case aB => exact (bW HB)); (case aF => exact (fun _ _ => trivial)); (case aO => exact (upR HO_6.out)); (case aS => exact (below_size (bW HB))); (case aL => have := LMc15.out; omega); intro v396 w16 ho hb hg hat; rw [← Ny395.out] at ho; have HO397 := Aside0.mk (ho); replace HB := Aside0.mk (hb); clear HO_6; clear ho hb hg hat))
          go_roundg k2
          case measure => have := HJ2.out; have := HK2.out; omega
          case rel => exact ⟨(y395), (wrap64 (x7_2 + 1)), rB, H', ⟨by have := HJ2.out; have := HK2.out; omega⟩, ⟨upR HO397.out⟩, (aB HB)⟩
         ·rw [if_neg c15] at H
          exact absurd H (by simp)
        ·have H' := Aside0.mk H
         clear H
         have p393 : 0 ≤ (x7_2 : Int) := of_decide_eq_true asmB
         have q393 : x7_2 < (l0.length : Int) := of_decide_eq_true asmB
         obtain ⟨ad393, e393, hx393_0, hx393_1, hx393_2, hx393_3, hx393_4⟩ := at_T26 HR0.out x7_2 p393 q393
         cases e393
         replace hx393_0 := bx HB.out hx393_0
         replace hx393_1 := bx HB.out hx393_1
         replace hx393_2 := bx HB.out hx393_2
         replace hx393_3 := bx HB.out hx393_3
         replace hx393_4 := bx HB.out hx393_4
         replace p393 := eq_true p393
         replace q393 := eq_true q393
         go_wp2
         go_roundg k2
         case measure => have := HJ2.out; have := HK2.out; omega
         case rel => exact ⟨(x6_2), (wrap64 (x7_2 + 1)), rB, H', ⟨by have := HJ2.out; have := HK2.out; omega⟩, ⟨upR HO_6.out⟩, (aB HB)⟩
       ·rw [if_neg c13] at H
        exact absurd H (by simp)
      ·simp only [Option.some.injEq, Prod.mk.injEq] at H
       obtain ⟨rfl, rfl⟩ := H
       go_wp2
       go_ret2
       exact ⟨_, eB, upR HO_6.out, (bW HB)⟩

/-! ### laws_rInts: function 19 -/
def laws_rInts.l0 : Nat → List Int → List Int → Int → Option (Bool)
 | 0, _, _, _ => none
 | k + 1, x0, x1, x5 => if x5 < (x0.length : Int) then (if 0 ≤ x5 then (if x5 < (x1.length : Int) then (if (rd x0 x5) = (rd x1 x5) then (laws_rInts.l0 k x0 x1 (wrap64 (x5 + 1))) else (some false)) else (none)) else (none)) else (some true)
def laws_rInts.f (k : Nat) (l0 : List Int) (l1 : List Int) : Option (Bool) := if (l0.length : Int) = (l1.length : Int) then (laws_rInts.l0 k l0 l1 0) else (some false)
theorem laws_rInts.mono_l : ∀ k, (∀ y0 y1 y2, LeO (laws_rInts.l0 k y0 y1 y2) (laws_rInts.l0 (k + 1) y0 y1 y2))
 | 0 => fun _ _ _ r h => by simp [laws_rInts.l0] at h
 | k + 1 => by
  have ih0 := laws_rInts.mono_l k
  ·intro y0 y1 y2
   unfold laws_rInts.l0
   repeat' with_reducible first | apply ih0 | exact LeO.refl _ | exact LeO.none _ | refine LeO.ite ?_ ?_ | refine LeO.bind ?_ (fun _ => ?_)
theorem laws_rInts.mono : ∀ a0 a1 k, LeO (laws_rInts.f k a0 a1) (laws_rInts.f (k + 1) a0 a1) := by
 intro a0 a1 k
 have ih0 := laws_rInts.mono_l k
 unfold laws_rInts.f
 repeat' with_reducible first | apply ih0 | exact LeO.refl _ | exact LeO.none _ | refine LeO.ite ?_ ?_ | refine LeO.bind ?_ (fun _ => ?_)
set_option maxHeartbeats 8000000 in
set_option maxRecDepth 100000 in
theorem laws_rInts.calls (k : Nat) (A0 : Option Addr) (c0 : Nat) (l0 : List Int) (A1 : Option Addr) (c1 : Nat) (l1 : List Int) (r : Bool) (w : World) (hr0 : Kd.C (Kd.int .i64) w A0 l0.length l0) (hc0 : l0.length ≤ c0) (hr1 : Kd.C (Kd.int .i64) w A1 l1.length l1) (hc1 : l1.length ≤ c1) (h : laws_rInts.f k l0 l1 = some r) :
  Calls Tryd.prog 19 #[.slice A0 l0.length c0, .slice A1 l1.length c1] w fun e w' => e = .returned (.bool r) ∧ Drawn0 w w' := by
 have HR0 := Aside0.mk hr0
 have HC0 := Aside0.mk hc0
 clear hr0 hc0
 have HR1 := Aside0.mk hr1
 have HC1 := Aside0.mk hc1
 clear hr1 hc1
 have H := h
 clear h
 unfold laws_rInts.f at H
 replace H := ifI H
 rcases H with ⟨H, c3, c3b0, c3b1⟩ | ⟨H, c3, c3b0, c3b1⟩
 ·have c3b2 : (l0.length == l1.length) = true := by first | simpa using c3 | (simp at c3 ⊢; omega)
  clear c3
  have H' := Aside0.mk H
  clear H
  go_enter Tryd.func19, Tryd.ntmps19
  go_wp2
  repeat (go_quiet (fail); try go_wp2)
  go_loopg [5] k (fun kq v5 w' => ∃ (x5_1 : Int), v5 = .int .i64 x5_1 ∧ Aside0 (laws_rInts.l0 kq l0 l1 x5_1 = some r) ∧ Aside0 (kq ≤ k) ∧ Drawn0 w w')
  case atStart => exact ⟨(0), rB, H', ⟨Nat.le_refl _⟩, by repeat (first | exact Drawn0.refl _ | apply Drawn0.step)⟩
  case round =>
   clear H'
   try clear c1
   try clear c3
   try clear c3b0
   try clear c3b1
   try clear c3b2
   obtain ⟨x5_1, rfl, HA, HK1, ⟨m1, rfl⟩⟩ := hrel
   cases gk with
   | zero => exact absurd HA.out (by simp [laws_rInts.l0])
   | succ k1 =>
    have H := HA.out
    clear HA
    simp only [laws_rInts.l0] at H
    replace H := ifD H
    rcases H with ⟨H, -, c4b0⟩ | ⟨H, -, c4b0⟩
    ·by_cases c5 : 0 ≤ x5_1
     ·rw [if_pos c5] at H
      have c5b0 : decide (0 ≤ x5_1) = true := decide_eq_true c5
      clear c5
      by_cases c6 : x5_1 < (l1.length : Int)
      ·rw [if_pos c6] at H
       have c6b0 : decide (x5_1 < (l1.length : Int)) = true := decide_eq_true c6
       clear c6
       replace H := ifI H
       rcases H with ⟨H, -, c7b0, c7b1⟩ | ⟨H, c7, c7b0, c7b1⟩
       ·have H' := Aside0.mk H
        clear H
        have p398 : 0 ≤ (x5_1 : Int) := of_decide_eq_true asmB
        have q398 : x5_1 < (l0.length : Int) := of_decide_eq_true asmB
        obtain ⟨ad398, e398, hx398_0⟩ := Kd.at_int HR0.out x5_1 p398 q398
        cases e398
        replace p398 := eq_true p398
        replace q398 := eq_true q398
        have p399 : 0 ≤ (x5_1 : Int) := of_decide_eq_true asmB
        have q399 : x5_1 < (l1.length : Int) := of_decide_eq_true asmB
        obtain ⟨ad399, e399, hx399_0⟩ := Kd.at_int HR1.out x5_1 p399 q399
        cases e399
        replace p399 := eq_true p399
        replace q399 := eq_true q399
        go_wp2
        repeat (go_quiet (fail); try go_wp2)
        go_roundg k1
        case measure => have := HK1.out; omega
        case rel => exact ⟨(wrap64 (x5_1 + 1)), rB, H', ⟨by have := HK1.out; omega⟩, by repeat (first | exact Drawn0.refl _ | apply Drawn0.step)⟩
       ·obtain rfl := Option.some.inj H
        have p398 : 0 ≤ (x5_1 : Int) := of_decide_eq_true asmB
        have q398 : x5_1 < (l0.length : Int) := of_decide_eq_true asmB
        obtain ⟨ad398, e398, hx398_0⟩ := Kd.at_int HR0.out x5_1 p398 q398
        cases e398
        replace p398 := eq_true p398
        replace q398 := eq_true q398
        have p399 : 0 ≤ (x5_1 : Int) := of_decide_eq_true asmB
        have q399 : x5_1 < (l1.length : Int) := of_decide_eq_true asmB
        obtain ⟨ad399, e399, hx399_0⟩ := Kd.at_int HR1.out x5_1 p399 q399
        cases e399
        replace p399 := eq_true p399
        replace q399 := eq_true q399
        go_wp2
        repeat (go_quiet (fail); try go_wp2)
        go_ret
        exact ⟨rB, by repeat (first | exact Drawn0.refl _ | apply Drawn0.step)⟩
      ·rw [if_neg c6] at H
       exact absurd H (by simp)
     ·rw [if_neg c5] at H
      exact absurd H (by simp)
    ·obtain rfl := Option.some.inj H
     go_wp2
     repeat (go_quiet (fail); try go_wp2)
     go_ret
     exact ⟨rB, by repeat (first | exact Drawn0.refl _ | apply Drawn0.step)⟩
 ·have c3b2 : (l0.length == l1.length) = false := by first | simpa using c3 | (simp at c3 ⊢; omega)
  obtain rfl := Option.some.inj H
  go_enter Tryd.func19, Tryd.ntmps19
  go_wp2
  repeat (go_quiet (fail); try go_wp2)
  go_ret
  exact ⟨rB, by repeat (first | exact Drawn0.refl _ | apply Drawn0.step)⟩

/-! ### impl_StatesOf: function 20 -/
def impl_StatesOf.l0 : Nat → List Int → List (S26) → Int → Int → Option (List Int × Bool)
 | 0, _, _, _, _ => none
 | k + 1, x4, x11, x12, x13 => if x13 < x12 then (if 0 ≤ x13 then (if x13 < (x11.length : Int) then (if 0 ≤ ((rd_T26 x11 x13).f4) then (if ((rd_T26 x11 x13).f4) < (x4.length : Int) then (impl_StatesOf.l0 k (x4.set (((rd_T26 x11 x13).f4) : Int).toNat (wrap64 ((rd x4 ((rd_T26 x11 x13).f4)) + 1))) x11 x12 (wrap64 (x13 + 1))) else (none)) else (none)) else (none)) else (none)) else (some (x4, true))
def impl_StatesOf.f (k : Nat) (l0 : List (S26)) : Option (List Int × Bool) := (impl_AreLeads.f k l0).bind fun t400 => (if t400 = true then (impl_StatesOf.l0 k (List.replicate 4 0) l0 (l0.length : Int) 0) else (some (([] : List Int), false)))
theorem impl_StatesOf.mono_l : ∀ k, (∀ y0 y1 y2 y3, LeO (impl_StatesOf.l0 k y0 y1 y2 y3) (impl_StatesOf.l0 (k + 1) y0 y1 y2 y3))
 | 0 => fun _ _ _ _ r h => by simp [impl_StatesOf.l0] at h
 | k + 1 => by
  have ih0 := impl_StatesOf.mono_l k
  ·intro y0 y1 y2 y3
   unfold impl_StatesOf.l0
   repeat' with_reducible first | apply ih0 | apply impl_AreLeads.mono | exact LeO.refl _ | exact LeO.none _ | refine LeO.ite ?_ ?_ | refine LeO.bind ?_ (fun _ => ?_)
theorem impl_StatesOf.mono : ∀ a0 k, LeO (impl_StatesOf.f k a0) (impl_StatesOf.f (k + 1) a0) := by
 intro a0 k
 have ih0 := impl_StatesOf.mono_l k
 unfold impl_StatesOf.f
 repeat' with_reducible first | apply ih0 | apply impl_AreLeads.mono | exact LeO.refl _ | exact LeO.none _ | refine LeO.ite ?_ ?_ | refine LeO.bind ?_ (fun _ => ?_)
set_option maxHeartbeats 8000000 in
set_option maxRecDepth 100000 in
theorem impl_StatesOf.calls (k : Nat) (A0 : Option Addr) (c0 : Nat) (l0 : List (S26)) (r1 : List Int) (r2 : Bool) (w : World) (hr0 : Kd.C k26 w A0 l0.length l0) (hc0 : l0.length ≤ c0) (h : impl_StatesOf.f k l0 = some (r1, r2)) :
  Calls Tryd.prog 20 #[.slice A0 l0.length c0] w fun e w' => ∃ v0_ : Value, e = .returned (.tuple #[v0_, .bool r2]) ∧ Kd.R (Kd.int .i64) 3 w' w.heap.size (fun _ => True) v0_ r1 ∧ Below w.heap.size w w' := by
 have hu26 := Tryd.underlying26
 have HR0 := Aside0.mk hr0
 have HC0 := Aside0.mk hc0
 clear hr0 hc0
 have HB := Aside0.mk (Below.refl w.heap.size w)
 have H := h
 clear h
 unfold impl_StatesOf.f at H
 replace H := bA H
 obtain ⟨t400, A2, H⟩ := H
 rcases Bool.eq_false_or_eq_true t400 with rfl | rfl
 ·replace H := iT rfl H
  obtain ⟨y401, hy401⟩ : ∃ y_ : List Int, y_ = (List.replicate 4 0) := ⟨_, rfl⟩
  replace H : (impl_StatesOf.l0 k y401 l0 (l0.length : Int) 0) = some (r1, r2) := by first | (rw [hy401]; with_reducible exact H) | (have H2_ := (Option.bind_some _ _).symm.trans H; rw [hy401]; with_reducible exact H2_) | (have H2_ := (Option.bind_some _ _).symm.trans H; with_reducible exact H2_) | with_reducible exact H | (rw [hy401]; exact H) | exact H
  have Ny401 := Aside0.mk hy401
  clear hy401
  have H' := Aside0.mk H
  clear H
  go_enter Tryd.func20, Tryd.ntmps20
  go_wp2_with (first | ((with_reducible refine gC 22 ?_); refine lA (some 8) Tryd.func22 (impl_AreLeads.calls k _ _ l0 true _ ?side1 ?side2 A2.out) ?_; (case side1 => repeat (first | exact HR0.out | (with_reducible refine Kd.C_alloc ?_ _) | (with_reducible refine Kd.C_drewN ?_ _) | (with_reducible refine Kd.C_drew ?_))); (case side2 => exact HC0.out); intro w4 hb; replace HB := uB HB hb; (try clear hb); (try clear hk)) | ((with_reducible refine gate_dst (N := 10) rfl ?_); refine Kd.R_make (Kd.int .i64) _ 3 rfl (N := 10) rfl 41 _ _ rfl 4 rfl rfl Tryd.underlying41 (.int .i64 0) 8 info3 rfl (by decide) (by omega) 0 (ok := fun _ => True) (okp := fun _ => True) rfl (fun _ hk => hk) trivial (by omega) (by omega) (Below.refl _ _) (Nat.le_refl _) ?_; intro v402 w5 ho6 hb hg_ hnew_; clear hg_ hnew_; (first | rw [← Ny401.out] at ho6 | (simp only [Int.reduceToNat] at ho6; rw [← Ny401.out] at ho6)); have HO403 := Aside0.mk (Kd.R_lower ho6 (below_size (bW HB))); replace HB := uB HB hb; clear hb ho6))
  (try simp only [Act.put, List.setIfInBounds_toArray, List.set_cons_zero, List.set_cons_succ])
  go_loopg [13] k (fun kq v13 w' => ∃ (x4_1 : List Int) (x13_1 : Int), v13 = .int .i64 x13_1 ∧ Aside0 (impl_StatesOf.l0 kq x4_1 l0 (l0.length : Int) x13_1 = some (r1, r2)) ∧ Aside0 (kq ≤ k) ∧ Aside0 (Kd.R (Kd.int .i64) 3 w' w.heap.size (fun _ => True) v402 x4_1) ∧ Aside0 (Below w.heap.size w w'))
  case atStart => exact ⟨(y401), (0), rB, H', ⟨Nat.le_refl _⟩, ⟨upR HO403.out⟩, (aB HB)⟩
  case round =>
   clear H'
   obtain ⟨x4_1, x13_1, rfl, HA, HK1, HO_4, HB⟩ := hrel
   cases gk with
   | zero => exact absurd HA.out (by simp [impl_StatesOf.l0])
   | succ k1 =>
    have H := HA.out
    clear HA
    simp only [impl_StatesOf.l0] at H
    replace H := ifD H
    rcases H with ⟨H, -, c7b0⟩ | ⟨H, -, c7b0⟩
    ·by_cases c8 : 0 ≤ x13_1
     ·rw [if_pos c8] at H
      have c8b0 : decide (0 ≤ x13_1) = true := decide_eq_true c8
      clear c8
      by_cases c9 : x13_1 < (l0.length : Int)
      ·rw [if_pos c9] at H
       have c9b0 : decide (x13_1 < (l0.length : Int)) = true := decide_eq_true c9
       clear c9
       by_cases c10 : 0 ≤ ((rd_T26 l0 x13_1).f4)
       ·rw [if_pos c10] at H
        have c10b0 : decide (0 ≤ ((rd_T26 l0 x13_1).f4)) = true := decide_eq_true c10
        clear c10
        by_cases c11 : ((rd_T26 l0 x13_1).f4) < (x4_1.length : Int)
        ·rw [if_pos c11] at H
         have c11b0 : decide (((rd_T26 l0 x13_1).f4) < (x4_1.length : Int)) = true := decide_eq_true c11
         clear c11
         obtain ⟨y407, hy407⟩ : ∃ y_ : List Int, y_ = (x4_1.set (((rd_T26 l0 x13_1).f4) : Int).toNat (wrap64 ((rd x4_1 ((rd_T26 l0 x13_1).f4)) + 1))) := ⟨_, rfl⟩
         replace H : (impl_StatesOf.l0 k1 y407 l0 (l0.length : Int) (wrap64 (x13_1 + 1))) = some (r1, r2) := by first | (rw [hy407]; with_reducible exact H) | (have H2_ := (Option.bind_some _ _).symm.trans H; rw [hy407]; with_reducible exact H2_) | (have H2_ := (Option.bind_some _ _).symm.trans H; with_reducible exact H2_) | with_reducible exact H | (rw [hy407]; exact H) | exact H
         have Ny407 := Aside0.mk hy407
         clear hy407
         have H' := Aside0.mk H
         clear H
         have p404 : 0 ≤ (x13_1 : Int) := of_decide_eq_true asmB
         have q404 : x13_1 < (l0.length : Int) := of_decide_eq_true asmB
         obtain ⟨ad404, e404, hx404_0, hx404_1, hx404_2, hx404_3, hx404_4⟩ := at_T26 HR0.out x13_1 p404 q404
         cases e404
         replace hx404_0 := bx HB.out hx404_0
         replace hx404_1 := bx HB.out hx404_1
         replace hx404_2 := bx HB.out hx404_2
         replace hx404_3 := bx HB.out hx404_3
         replace hx404_4 := bx HB.out hx404_4
         replace p404 := eq_true p404
         replace q404 := eq_true q404
         go_wp2_with (first | ((with_reducible refine gD 6 ?_); refine bxE 6 26 #[.int .i64 0, .int .i64 0, .int .i64 0, .int .i64 0, .int .i64 0] fun gb405 w13 hg hbox hb => ?_; have BK405 := Aside0.mk hbox; have GE405 := gB HB hg; replace HO_4 := uR HO_4 hb; replace HB := uB HB hb; clear hb hbox hg; have ⟨hcz14_0, hcz14_1, hcz14_2, hcz14_3, hcz14_4, hfz14_0⟩ := cz5 BK405) | ((with_reducible refine gate_store (t := 26) (p := 6) rfl ?_); refine store_event (t := 26) (p := 6) (v := ?vo_w15) (w1 := (((((w13.setCell ⟨gb405, 0, none⟩ (.int .i64 ((rd_T26 l0 x13_1).f0))).setCell ⟨gb405, 1, none⟩ (.int .i64 ((rd_T26 l0 x13_1).f1))).setCell ⟨gb405, 2, none⟩ (.int .i64 ((rd_T26 l0 x13_1).f2))).setCell ⟨gb405, 3, none⟩ (.int .i64 ((rd_T26 l0 x13_1).f3))).setCell ⟨gb405, 4, none⟩ (.int .i64 ((rd_T26 l0 x13_1).f4)))) ?hg ?ho ?hn ?hr ?_; (case ho => rfl); (case hg => rfl); (case hn => rfl); (case hr => first | (go_simp; done) | (go_simp; rfl)); intro w15 hw; have n0_ : Aside0 (Kd.R (Kd.int .i64) 3 w15 w.heap.size (fun _ => True) v402 x4_1) := ⟨(by rw [hw]; exact (by (with_reducible repeat (first | apply Kd.R_alloc | apply Kd.R_drewN | apply Kd.R_drew)); exact Kd.R_mono (Kd.R_far (p := ⟨gb405, 4, none⟩) (Kd.R_far (p := ⟨gb405, 3, none⟩) (Kd.R_far (p := ⟨gb405, 2, none⟩) (Kd.R_far (p := ⟨gb405, 1, none⟩) (Kd.R_far (p := ⟨gb405, 0, none⟩) (Kd.R_types HO_4.out BK405.out (by decide)) (fun _ hk => hk.2) (.int .i64 ((rd_T26 l0 x13_1).f0))) (fun _ hk => hk.2) (.int .i64 ((rd_T26 l0 x13_1).f1))) (fun _ hk => hk.2) (.int .i64 ((rd_T26 l0 x13_1).f2))) (fun _ hk => hk.2) (.int .i64 ((rd_T26 l0 x13_1).f3))) (fun _ hk => hk.2) (.int .i64 ((rd_T26 l0 x13_1).f4))) (fun _ hk => trivial)))⟩; have n1_ : Aside0 (w15.heap[gb405]? = some (.cells #[.int .i64 ((rd_T26 l0 x13_1).f0), .int .i64 ((rd_T26 l0 x13_1).f1), .int .i64 ((rd_T26 l0 x13_1).f2), .int .i64 ((rd_T26 l0 x13_1).f3), .int .i64 ((rd_T26 l0 x13_1).f4)] 26 (0, 0))) := ⟨(by rw [hw]; exact (by exact pW BK405))⟩; have n2_ : Aside0 (Below w.heap.size w w15) := ⟨(by rw [hw]; exact (bW HB))⟩; clear hw; clear HO_4; clear BK405; clear HB; have HO_4 := n0_; have BK405 := n1_; have HB := n2_; clear n0_ n1_ n2_; have ⟨hcz16_0, hcz16_1, hcz16_2, hcz16_3, hcz16_4, hfz16_0⟩ := cz5 BK405; obtain ⟨Ao17, co17, eo17⟩ := Kd.R_slice HO_4.out; subst eo17; have p406 : 0 ≤ (((rd_T26 l0 x13_1).f4) : Int) := of_decide_eq_true asmB; have q406 : ((rd_T26 l0 x13_1).f4) < (x4_1.length : Int) := of_decide_eq_true asmB; obtain ⟨ad406, e406, hx406_0⟩ := Kd.at_int (Kd.R_reads' HO_4.out).2.2 ((rd_T26 l0 x13_1).f4) p406 q406; cases e406; replace p406 := eq_true p406; replace q406 := eq_true q406; have p12 : 0 ≤ (((rd_T26 l0 x13_1).f4) : Int) := of_decide_eq_true asmB; have q12 : (((rd_T26 l0 x13_1).f4) : Int) < ((x4_1.length : Int) : Int) := of_decide_eq_true asmB; obtain ⟨go12, co12, eo12, gb12, gl12, cl12, HG12⟩ := Kd.R_form HO_4.out (by omega); (first | cases eo12 | (injection eo12 with ea_ en_ ec_; (first | subst ea_ | (injection ea_ with ea_; subst ea_)); subst ec_; clear en_)); have GB12 := Aside0.mk gb12; have GG12 := Aside0.mk HG12; clear gb12 gl12 HG12; (first | simp only [add_plain] at hx406_0 | skip); obtain ⟨hx12_0, hf12_0⟩ := Kd.R_celln 0 HO_4.out (((rd_T26 l0 x13_1).f4) : Int) p12 q12; replace p12 := eq_true p12; replace q12 := eq_true q12; obtain ⟨hy18_, hz18_⟩ := Kd.R_celln 0 HO_4.out (((rd_T26 l0 x13_1).f4) : Int) (of_decide_eq_true asmB) (of_decide_eq_true asmB); have HP18 := Kd.R_putg HO_4.out (((rd_T26 l0 x13_1).f4) : Int) (wrap64 ((rd x4_1 ((rd_T26 l0 x13_1).f4)) + 1))) | ((with_reducible refine gate_store (t := 3) (p := 23) rfl ?_); refine store_event (t := 3) (p := 23) (v := ?vo_w19) (w1 := (w15.setCell ⟨go12, (((rd_T26 l0 x13_1).f4) : Int).toNat, none⟩ (.int .i64 (wrap64 ((rd x4_1 ((rd_T26 l0 x13_1).f4)) + 1))))) ?hg ?ho ?hn ?hr ?_; (case ho => rfl); (case hg => rfl); (case hn => rfl); (case hr => first | (go_simp; done) | (go_simp; rfl)); intro w19 hw; have hg : w15.grownBy w19 (some go12) := (by rw [hw]; exact HP18.2); have hp_ : Kd.R (Kd.int .i64) 3 w19 w.heap.size (fun _ => True) (.slice (some ⟨go12, 0, none⟩) x4_1.length co17) y407 := (by rw [hw, Ny407.out]; exact HP18.1); clear HP18; replace BK405 := Aside0.mk (blk_grown (g := gb405) (o := .cells #[.int .i64 ((rd_T26 l0 x13_1).f0), .int .i64 ((rd_T26 l0 x13_1).f1), .int .i64 ((rd_T26 l0 x13_1).f2), .int .i64 ((rd_T26 l0 x13_1).f3), .int .i64 ((rd_T26 l0 x13_1).f4)] 26 (0, 0)) (upK BK405.out) hg (Kd.R_ne HO_4.out BK405.out (by decide))); replace HO_4 := Aside0.mk (hp_); replace HB := Aside0.mk ((by rw [hw]; exact below_set (HB.out) GB12.out : Below w.heap.size w w19)); clear hg hw hp_))
         go_roundg k1
         case measure => have := HK1.out; omega
         case rel => exact ⟨(y407), (wrap64 (x13_1 + 1)), rB, H', ⟨by have := HK1.out; omega⟩, ⟨upR HO_4.out⟩, (aB HB)⟩
        ·rw [if_neg c11] at H
         exact absurd H (by simp)
       ·rw [if_neg c10] at H
        exact absurd H (by simp)
      ·rw [if_neg c9] at H
       exact absurd H (by simp)
     ·rw [if_neg c8] at H
      exact absurd H (by simp)
    ·simp only [Option.some.injEq, Prod.mk.injEq] at H
     obtain ⟨rfl, rfl⟩ := H
     go_wp2
     go_ret2
     exact ⟨_, eB, upR HO_4.out, (bW HB)⟩
 ·replace H := iF (by decide) H
  simp only [Option.some.injEq, Prod.mk.injEq] at H
  obtain ⟨rfl, rfl⟩ := H
  go_enter Tryd.func20, Tryd.ntmps20
  go_wp2_with (first | ((with_reducible refine gC 22 ?_); refine lA (some 8) Tryd.func22 (impl_AreLeads.calls k _ _ l0 false _ ?side1 ?side2 A2.out) ?_; (case side1 => repeat (first | exact HR0.out | (with_reducible refine Kd.C_alloc ?_ _) | (with_reducible refine Kd.C_drewN ?_ _) | (with_reducible refine Kd.C_drew ?_))); (case side2 => exact HC0.out); intro w20 hb; replace HB := uB HB hb; (try clear hb); (try clear hk)))
  go_ret2
  exact ⟨_, eB, by first | exact Kd.R_nil _ _ _ _ _ | exact Kd.N_nil _ _ _ _ _ | exact Kd.V_nil _ _ _ _ _ | exact Kd.Q_nil _ _ _ _ _ | exact Kd.S_nil _ _ _ _ _, (bW HB)⟩

/-! ### spec_StatesOf: function 21 -/
def spec_StatesOf.l0 : Nat → List (S26) → List Int → Int → Option (List Int × Bool)
 | 0, _, _, _ => none
 | k + 1, x0, x4, x5 => if x5 < (x0.length : Int) then (if 0 ≤ x5 then (if 0 ≤ ((rd_T26 x0 x5).f4) then (if ((rd_T26 x0 x5).f4) < (x4.length : Int) then (spec_StatesOf.l0 k x0 (x4.set (((rd_T26 x0 x5).f4) : Int).toNat (wrap64 ((rd x4 ((rd_T26 x0 x5).f4)) + 1))) (wrap64 (x5 + 1))) else (none)) else (none)) else (none)) else (some (x4, true))
def spec_StatesOf.f (k : Nat) (l0 : List (S26)) : Option (List Int × Bool) := (spec_l18Good.f k l0).bind fun t408 => (if t408 = true then (spec_StatesOf.l0 k l0 (List.replicate 4 0) 0) else (some ((([] : List Int)), false)))
theorem spec_StatesOf.mono_l : ∀ k, (∀ y0 y1 y2, LeO (spec_StatesOf.l0 k y0 y1 y2) (spec_StatesOf.l0 (k + 1) y0 y1 y2))
 | 0 => fun _ _ _ r h => by simp [spec_StatesOf.l0] at h
 | k + 1 => by
  have ih0 := spec_StatesOf.mono_l k
  ·intro y0 y1 y2
   unfold spec_StatesOf.l0
   repeat' with_reducible first | apply ih0 | apply spec_l18Good.mono | exact LeO.refl _ | exact LeO.none _ | refine LeO.ite ?_ ?_ | refine LeO.bind ?_ (fun _ => ?_)
theorem spec_StatesOf.mono : ∀ a0 k, LeO (spec_StatesOf.f k a0) (spec_StatesOf.f (k + 1) a0) := by
 intro a0 k
 have ih0 := spec_StatesOf.mono_l k
 unfold spec_StatesOf.f
 repeat' with_reducible first | apply ih0 | apply spec_l18Good.mono | exact LeO.refl _ | exact LeO.none _ | refine LeO.ite ?_ ?_ | refine LeO.bind ?_ (fun _ => ?_)
set_option maxHeartbeats 8000000 in
set_option maxRecDepth 100000 in
theorem spec_StatesOf.calls (k : Nat) (A0 : Option Addr) (c0 : Nat) (l0 : List (S26)) (r1 : List Int) (r2 : Bool) (w : World) (hr0 : Kd.C k26 w A0 l0.length l0) (hc0 : l0.length ≤ c0) (h : spec_StatesOf.f k l0 = some (r1, r2)) :
  Calls Tryd.prog 21 #[.slice A0 l0.length c0] w fun e w' => ∃ v0_ : Value, e = .returned (.tuple #[v0_, .bool r2]) ∧ Kd.R (Kd.int .i64) 3 w' w.heap.size (fun _ => True) v0_ r1 ∧ Below w.heap.size w w' := by
 have HR0 := Aside0.mk hr0
 have HC0 := Aside0.mk hc0
 clear hr0 hc0
 have HB := Aside0.mk (Below.refl w.heap.size w)
 have H := h
 clear h
 unfold spec_StatesOf.f at H
 replace H := bA H
 obtain ⟨t408, A2, H⟩ := H
 rcases Bool.eq_false_or_eq_true t408 with rfl | rfl
 ·replace H := iT rfl H
  obtain ⟨y412, hy412⟩ : ∃ y_ : List Int, y_ = (List.replicate 4 0) := ⟨_, rfl⟩
  replace H : (spec_StatesOf.l0 k l0 y412 0) = some (r1, r2) := by first | (rw [hy412]; with_reducible exact H) | (have H2_ := (Option.bind_some _ _).symm.trans H; rw [hy412]; with_reducible exact H2_) | (have H2_ := (Option.bind_some _ _).symm.trans H; with_reducible exact H2_) | with_reducible exact H | (rw [hy412]; exact H) | exact H
  have Ny412 := Aside0.mk hy412
  clear hy412
  have H' := Aside0.mk H
  clear H
  go_enter Tryd.func21, Tryd.ntmps21
  go_wp2_with (first | ((with_reducible refine gC 44 ?_); refine lA (some 8) Tryd.func44 (spec_l18Good.calls k _ _ l0 true _ ?side1 ?side2 A2.out) ?_; (case side1 => repeat (first | exact HR0.out | (with_reducible refine Kd.C_alloc ?_ _) | (with_reducible refine Kd.C_drewN ?_ _) | (with_reducible refine Kd.C_drew ?_))); (case side2 => exact HC0.out); intro w4 hb; replace HB := uB HB hb; (try clear hb); (try clear hk)) | ((with_reducible refine gate_dst (N := 11) rfl ?_); refine Kd.R_make (Kd.int .i64) _ 3 rfl (N := 11) rfl 41 _ _ rfl 4 rfl rfl Tryd.underlying41 (.int .i64 0) 8 info3 rfl (by decide) (by omega) 0 (ok := fun _ => True) (okp := fun _ => True) rfl (fun _ hk => hk) trivial (by omega) (by omega) (Below.refl _ _) (Nat.le_refl _) ?_; intro v413 w5 ho6 hb hg_ hnew_; clear hg_ hnew_; (first | rw [← Ny412.out] at ho6 | (simp only [Int.reduceToNat] at ho6; rw [← Ny412.out] at ho6)); have HO414 := Aside0.mk (Kd.R_lower ho6 (below_size (bW HB))); replace HB := uB HB hb; clear hb ho6))
  (try simp only [Act.put, List.setIfInBounds_toArray, List.set_cons_zero, List.set_cons_succ])
  go_loopg [5] k (fun kq v5 w' => ∃ (x4_1 : List Int) (x5_1 : Int), v5 = .int .i64 x5_1 ∧ Aside0 (spec_StatesOf.l0 kq l0 x4_1 x5_1 = some (r1, r2)) ∧ Aside0 (kq ≤ k) ∧ Aside0 (Kd.R (Kd.int .i64) 3 w' w.heap.size (fun _ => True) v413 x4_1) ∧ Aside0 (Below w.heap.size w w'))
  case atStart => exact ⟨(y412), (0), rB, H', ⟨Nat.le_refl _⟩, ⟨upR HO414.out⟩, (aB HB)⟩
  case round =>
   clear H'
   obtain ⟨x4_1, x5_1, rfl, HA, HK1, HO_4, HB⟩ := hrel
   cases gk with
   | zero => exact absurd HA.out (by simp [spec_StatesOf.l0])
   | succ k1 =>
    have H := HA.out
    clear HA
    simp only [spec_StatesOf.l0] at H
    replace H := ifD H
    rcases H with ⟨H, -, c7b0⟩ | ⟨H, -, c7b0⟩
    ·by_cases c8 : 0 ≤ x5_1
     ·rw [if_pos c8] at H
      have c8b0 : decide (0 ≤ x5_1) = true := decide_eq_true c8
      clear c8
      by_cases c9 : 0 ≤ ((rd_T26 l0 x5_1).f4)
      ·rw [if_pos c9] at H
       have c9b0 : decide (0 ≤ ((rd_T26 l0 x5_1).f4)) = true := decide_eq_true c9
       clear c9
       by_cases c10 : ((rd_T26 l0 x5_1).f4) < (x4_1.length : Int)
       ·rw [if_pos c10] at H
        have c10b0 : decide (((rd_T26 l0 x5_1).f4) < (x4_1.length : Int)) = true := decide_eq_true c10
        clear c10
        obtain ⟨y417, hy417⟩ : ∃ y_ : List Int, y_ = (x4_1.set (((rd_T26 l0 x5_1).f4) : Int).toNat (wrap64 ((rd x4_1 ((rd_T26 l0 x5_1).f4)) + 1))) := ⟨_, rfl⟩
        replace H : (spec_StatesOf.l0 k1 l0 y417 (wrap64 (x5_1 + 1))) = some (r1, r2) := by first | (rw [hy417]; with_reducible exact H) | (have H2_ := (Option.bind_some _ _).symm.trans H; rw [hy417]; with_reducible exact H2_) | (have H2_ := (Option.bind_some _ _).symm.trans H; with_reducible exact H2_) | with_reducible exact H | (rw [hy417]; exact H) | exact H
        have Ny417 := Aside0.mk hy417
        clear hy417
        have H' := Aside0.mk H
        clear H
        have p415 : 0 ≤ (x5_1 : Int) := of_decide_eq_true asmB
        have q415 : x5_1 < (l0.length : Int) := of_decide_eq_true asmB
        obtain ⟨ad415, e415, hx415_0, hx415_1, hx415_2, hx415_3, hx415_4⟩ := at_T26 HR0.out x5_1 p415 q415
        cases e415
        replace hx415_0 := bx HB.out hx415_0
        replace hx415_1 := bx HB.out hx415_1
        replace hx415_2 := bx HB.out hx415_2
        replace hx415_3 := bx HB.out hx415_3
        replace hx415_4 := bx HB.out hx415_4
        replace p415 := eq_true p415
        replace q415 := eq_true q415
        obtain ⟨Ao12, co12, eo12⟩ := Kd.R_slice HO_4.out
        subst eo12
        have p416 : 0 ≤ (((rd_T26 l0 x5_1).f4) : Int) := of_decide_eq_true asmB
        have q416 : ((rd_T26 l0 x5_1).f4) < (x4_1.length : Int) := of_decide_eq_true asmB
        obtain ⟨ad416, e416, hx416_0⟩ := Kd.at_int (Kd.R_reads' HO_4.out).2.2 ((rd_T26 l0 x5_1).f4) p416 q416
        cases e416
        replace p416 := eq_true p416
        replace q416 := eq_true q416
        have p11 : 0 ≤ (((rd_T26 l0 x5_1).f4) : Int) := of_decide_eq_true asmB
        have q11 : (((rd_T26 l0 x5_1).f4) : Int) < ((x4_1.length : Int) : Int) := of_decide_eq_true asmB
        obtain ⟨go11, co11, eo11, gb11, gl11, cl11, HG11⟩ := Kd.R_form HO_4.out (by omega)
        (first | cases eo11 | (injection eo11 with ea_ en_ ec_; (first | subst ea_ | (injection ea_ with ea_; subst ea_)); subst ec_; clear en_))
        have GB11 := Aside0.mk gb11
        have GG11 := Aside0.mk HG11
        clear gb11 gl11 HG11
        (first | simp only [add_plain] at hx416_0 | skip)
        obtain ⟨hx11_0, hf11_0⟩ := Kd.R_celln 0 HO_4.out (((rd_T26 l0 x5_1).f4) : Int) p11 q11
        replace p11 := eq_true p11
        replace q11 := eq_true q11
        have HP13 := Kd.R_putg HO_4.out (((rd_T26 l0 x5_1).f4) : Int) (wrap64 ((rd x4_1 ((rd_T26 l0 x5_1).f4)) + 1))
        go_wp2_with (first | ((with_reducible refine gate_store (t := 3) (p := 30) rfl ?_); refine store_event (t := 3) (p := 30) (v := ?vo_w14) (w1 := (wr.setCell ⟨go11, (((rd_T26 l0 x5_1).f4) : Int).toNat, none⟩ (.int .i64 (wrap64 ((rd x4_1 ((rd_T26 l0 x5_1).f4)) + 1))))) ?hg ?ho ?hn ?hr ?_; (case ho => rfl); (case hg => rfl); (case hn => rfl); (case hr => first | (go_simp; done) | (go_simp; rfl)); intro w14 hw; have hg : wr.grownBy w14 (some go11) := (by rw [hw]; exact HP13.2); have hp_ : Kd.R (Kd.int .i64) 3 w14 w.heap.size (fun _ => True) (.slice (some ⟨go11, 0, none⟩) x4_1.length co12) y417 := (by rw [hw, Ny417.out]; exact HP13.1); clear HP13; replace HO_4 := Aside0.mk (hp_); replace HB := Aside0.mk ((by rw [hw]; exact below_set (HB.out) GB11.out : Below w.heap.size w w14)); clear hg hw hp_))
        go_roundg k1
        case measure => have := HK1.out; omega
        case rel => exact ⟨(y417), (wrap64 (x5_1 + 1)), rB, H', ⟨by have := HK1.out; omega⟩, ⟨upR HO_4.out⟩, (aB HB)⟩
       ·rw [if_neg c10] at H
        exact absurd H (by simp)
      ·rw [if_neg c9] at H
       exact absurd H (by simp)
     ·rw [if_neg c8] at H
      exact absurd H (by simp)
    ·simp only [Option.some.injEq, Prod.mk.injEq] at H
     obtain ⟨rfl, rfl⟩ := H
     go_wp2
     go_ret2
     exact ⟨_, eB, upR HO_4.out, (bW HB)⟩
 ·replace H := iF (by decide) H
  obtain ⟨y409, hy409⟩ : ∃ y_ : List Int, y_ = (([] : List Int)) := ⟨_, rfl⟩
  replace H : (some (y409, false)) = some (r1, r2) := by first | (rw [hy409]; with_reducible exact H) | (have H2_ := (Option.bind_some _ _).symm.trans H; rw [hy409]; with_reducible exact H2_) | (have H2_ := (Option.bind_some _ _).symm.trans H; with_reducible exact H2_) | with_reducible exact H | (rw [hy409]; exact H) | exact H
  have Ny409 := Aside0.mk hy409
  clear hy409
  simp only [Option.some.injEq, Prod.mk.injEq] at H
  obtain ⟨rfl, rfl⟩ := H
  go_enter Tryd.func21, Tryd.ntmps21
  go_wp2_with (first | ((with_reducible refine gC 44 ?_); refine lA (some 8) Tryd.func44 (spec_l18Good.calls k _ _ l0 false _ ?side1 ?side2 A2.out) ?_; (case side1 => repeat (first | exact HR0.out | (with_reducible refine Kd.C_alloc ?_ _) | (with_reducible refine Kd.C_drewN ?_ _) | (with_reducible refine Kd.C_drew ?_))); (case side2 => exact HC0.out); intro w15 hb; replace HB := uB HB hb; (try clear hb); (try clear hk)) | ((with_reducible refine gate_dst (N := 10) rfl ?_); refine Kd.R_lit (Kd.int .i64) _ 3 ?hg (N := 10) ?hd (xs := ([] : List Int)) (inner := []) (ok := fun _ => True) (okp := fun _ => True) ?hr ?hp (fun _ hk => hk) trivial (Below.refl _ _) (Nat.le_refl _) (by simp) ?_; (case hd => rfl); (case hg => rfl); (case hr => first | (go_simp; done) | (go_simp; rfl)); (case hp => exact (Reps.none _ _)); intro v410 w16 ho17 hb hg_ hnew_; clear hg_ hnew_; (first | rw [← Ny409.out] at ho17 | (simp only [Int.reduceToNat] at ho17; rw [← Ny409.out] at ho17)); have HO411 := Aside0.mk (Kd.R_lower ho17 (below_size (bW HB))); replace HB := uB HB hb; clear hb ho17))
  go_ret2
  exact ⟨_, eB, upR HO411.out, (bW HB)⟩

/-! ### laws_rSum: function 23 -/
def laws_rSum.l0 : Nat → List Int → Int → Int → Option (Int)
 | 0, _, _, _ => none
 | k + 1, x0, x3, x4 => if x4 < (x0.length : Int) then (if 0 ≤ x4 then (laws_rSum.l0 k x0 (wrap64 (x3 + (rd x0 x4))) (wrap64 (x4 + 1))) else (none)) else (some x3)
def laws_rSum.f (k : Nat) (l0 : List Int) : Option (Int) := laws_rSum.l0 k l0 0 0
theorem laws_rSum.mono_l : ∀ k, (∀ y0 y1 y2, LeO (laws_rSum.l0 k y0 y1 y2) (laws_rSum.l0 (k + 1) y0 y1 y2))
 | 0 => fun _ _ _ r h => by simp [laws_rSum.l0] at h
 | k + 1 => by
  have ih0 := laws_rSum.mono_l k
  ·intro y0 y1 y2
   unfold laws_rSum.l0
   repeat' with_reducible first | apply ih0 | exact LeO.refl _ | exact LeO.none _ | refine LeO.ite ?_ ?_ | refine LeO.bind ?_ (fun _ => ?_)
theorem laws_rSum.mono : ∀ a0 k, LeO (laws_rSum.f k a0) (laws_rSum.f (k + 1) a0) := by
 intro a0 k
 have ih0 := laws_rSum.mono_l k
 unfold laws_rSum.f
 repeat' with_reducible first | apply ih0 | exact LeO.refl _ | exact LeO.none _ | refine LeO.ite ?_ ?_ | refine LeO.bind ?_ (fun _ => ?_)
set_option maxHeartbeats 8000000 in
set_option maxRecDepth 100000 in
theorem laws_rSum.calls (k : Nat) (A0 : Option Addr) (c0 : Nat) (l0 : List Int) (r : Int) (w : World) (hr0 : Kd.C (Kd.int .i64) w A0 l0.length l0) (hc0 : l0.length ≤ c0) (h : laws_rSum.f k l0 = some r) :
  Calls Tryd.prog 23 #[.slice A0 l0.length c0] w fun e w' => e = .returned (.int .i64 r) ∧ Drawn0 w w' := by
 have HR0 := Aside0.mk hr0
 have HC0 := Aside0.mk hc0
 clear hr0 hc0
 have H : (laws_rSum.l0 k l0 0 0) = some r := h
 clear h
 have H' := Aside0.mk H
 clear H
 go_enter Tryd.func23, Tryd.ntmps23
 go_wp2
 go_loopg [3, 4] k (fun kq v3 v4 w' => ∃ (x3_1 x4_1 : Int), v3 = .int .i64 x3_1 ∧ v4 = .int .i64 x4_1 ∧ Aside0 (laws_rSum.l0 kq l0 x3_1 x4_1 = some r) ∧ Aside0 (kq ≤ k) ∧ Drawn0 w w')
 case atStart => exact ⟨(0), (0), rB, rB, H', ⟨Nat.le_refl _⟩, by repeat (first | exact Drawn0.refl _ | apply Drawn0.step)⟩
 case round =>
  clear H'
  obtain ⟨x3_1, x4_1, rfl, rfl, HA, HK1, ⟨m1, rfl⟩⟩ := hrel
  cases gk with
  | zero => exact absurd HA.out (by simp [laws_rSum.l0])
  | succ k1 =>
   have H := HA.out
   clear HA
   simp only [laws_rSum.l0] at H
   replace H := ifD H
   rcases H with ⟨H, -, c2b0⟩ | ⟨H, -, c2b0⟩
   ·by_cases c3 : 0 ≤ x4_1
    ·rw [if_pos c3] at H
     have c3b0 : decide (0 ≤ x4_1) = true := decide_eq_true c3
     clear c3
     have H' := Aside0.mk H
     clear H
     have p418 : 0 ≤ (x4_1 : Int) := of_decide_eq_true asmB
     have q418 : x4_1 < (l0.length : Int) := of_decide_eq_true asmB
     obtain ⟨ad418, e418, hx418_0⟩ := Kd.at_int HR0.out x4_1 p418 q418
     cases e418
     replace p418 := eq_true p418
     replace q418 := eq_true q418
     go_wp2
     go_roundg k1
     case measure => have := HK1.out; omega
     case rel => exact ⟨(wrap64 (x3_1 + (rd l0 x4_1))), (wrap64 (x4_1 + 1)), rB, rB, H', ⟨by have := HK1.out; omega⟩, by repeat (first | exact Drawn0.refl _ | apply Drawn0.step)⟩
    ·rw [if_neg c3] at H
     exact absurd H (by simp)
   ·obtain rfl := Option.some.inj H
    go_wp2
    go_ret
    exact ⟨rB, by repeat (first | exact Drawn0.refl _ | apply Drawn0.step)⟩

end Go.Proofs.YtldgjibimolcdaaDoor.QFnLeads
