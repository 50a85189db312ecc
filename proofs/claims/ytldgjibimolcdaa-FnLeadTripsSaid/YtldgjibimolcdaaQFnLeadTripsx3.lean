/- Contracts of Go functions that FnLeadTrips reaches: the call computes what the plain function says. No condition. -/
import Derived.Test.YtldgjibimolcdaaQFnLeadTripsx0
import Derived.Test.YtldgjibimolcdaaQFnLeadTripsx2
namespace Go.Proofs.Ytldgjibimolcdaa.QFnLeadTrips
open Go.RowKit Go.Proofs.YtldgjibimolcdaaW.PrintWords Go.Proofs.YtldgjibimolcdaaW.PrintLast Go.Proofs.YtldgjibimolcdaaW.PrintMore
attribute [local go_sem] max2_int min2_int max_two min_two max_three min_three max_four min_four   -- for this text's walks alone
set_option linter.unusedVariables false
set_option linter.unusedSimpArgs false

/-! ### spec_l18Good: function 48 -/
def spec_l18Good.l0 : Nat → List (S25) → Int → Option (Bool)
 | 0, _, _ => none
 | k + 1, x0, x3 => if x3 < (x0.length : Int) then (if 0 ≤ x3 then ((spec_l18One.f ((rd_T25 x0 x3).f0) ((rd_T25 x0 x3).f1) ((rd_T25 x0 x3).f2) ((rd_T25 x0 x3).f3) ((rd_T25 x0 x3).f4)).bind fun t110 => (if t110 = true then (if x3 > 0 then (if 0 ≤ (wrap64 (x3 - 1)) then (if (wrap64 (x3 - 1)) < (x0.length : Int) then (if ((rd_T25 x0 (wrap64 (x3 - 1))).f0) ≥ ((rd_T25 x0 x3).f0) then (some false) else (spec_l18Good.l0 k x0 (wrap64 (x3 + 1)))) else (none)) else (none)) else (spec_l18Good.l0 k x0 (wrap64 (x3 + 1)))) else (some false))) else (none)) else (some (decide ((x0.length : Int) ≤ 12)))
def spec_l18Good.f (k : Nat) (l0 : List (S25)) : Option (Bool) := spec_l18Good.l0 k l0 0
theorem spec_l18Good.mono_l : ∀ k, (∀ y0 y1, LeO (spec_l18Good.l0 k y0 y1) (spec_l18Good.l0 (k + 1) y0 y1))
 | 0 => fun _ _ r h => by simp [spec_l18Good.l0] at h
 | k + 1 => by
  have ih0 := spec_l18Good.mono_l k
  ·intro y0 y1
   unfold spec_l18Good.l0
   repeat' with_reducible first | apply ih0 | exact LeO.refl _ | exact LeO.none _ | refine LeO.ite ?_ ?_ | refine LeO.bind ?_ (fun _ => ?_)
theorem spec_l18Good.mono : ∀ a0 k, LeO (spec_l18Good.f k a0) (spec_l18Good.f (k + 1) a0) := by
 intro a0 k
 have ih0 := spec_l18Good.mono_l k
 unfold spec_l18Good.f
 repeat' with_reducible first | apply ih0 | exact LeO.refl _ | exact LeO.none _ | refine LeO.ite ?_ ?_ | refine LeO.bind ?_ (fun _ => ?_)
def spec_l18Good.T4 : Bool × List (List Nat × List Nat) := (true, [([], []), ([], []), ([0, 1], [0, 1]), ([2], [2]), ([3], [3]), ([4], [4]), ([5, 4], [5]), ([6], [6]), ([7, 6], [6, 7]), ([8, 6, 6], [6, 8]), ([9], [9]), ([9], [9]), ([11, 9], [9, 11]), ([10, 12, 9], [9, 10, 12]), ([13, 9], [9, 13]), ([14, 9], [9, 14]), ([9], [9]), ([9], [9]), ([16, 17, 9], [9, 16, 17]), ([18, 9], [9, 18]), ([19, 9], [9, 19]), ([15, 20, 9], [9, 15, 20]), ([9, 21, 6], [6, 9, 21]), ([6, 22], [6, 22])])
def spec_l18Good.B4 : List Nat := [0, 0, 3, 7, 15, 31, 63, 127, 255, 511, 1023, 1023, 3071, 8191, 16383, 32767, 1023, 1023, 197631, 459775, 984063, 2097151, 4194303, 8388607]
theorem spec_l18Good.tab4 : rtab .any (opsOf Try.f48 4) = spec_l18Good.T4 := by kernel_rfl
theorem spec_l18Good.bits4 : waitsOk spec_l18Good.T4.2 spec_l18Good.B4 = true := by kernel_rfl
set_option maxHeartbeats 8000000 in
set_option maxRecDepth 100000 in
theorem spec_l18Good.calls (k : Nat) (A0 : Option Addr) (c0 : Nat) (l0 : List (S25)) (r : Bool) (w : World) (hr0 : Kd.C k25 w A0 l0.length l0) (hc0 : l0.length ≤ c0) (h : spec_l18Good.f k l0 = some r) :
  Calls Try.prog 48 #[.slice A0 l0.length c0] w fun e w' => e = .returned (.bool r) ∧ Below w.heap.size w w' := by
 have hu25 := Try.underlying25
 have HR0 := Aside0.mk hr0
 have HC0 := Aside0.mk hc0
 clear hr0 hc0
 have HB := Aside0.mk (Below.refl w.heap.size w)
 have H : (spec_l18Good.l0 k l0 0) = some r := h
 clear h
 have H' := Aside0.mk H
 clear H
 go_enter Try.func48, Try.ntmps48
 go_wp2
 go_loopg [3] k (fun kq v3 w' => ∃ (x3_1 : Int), v3 = .int .i64 x3_1 ∧ Aside0 (spec_l18Good.l0 kq l0 x3_1 = some r) ∧ Aside0 (kq ≤ k) ∧ Aside0 (Below w.heap.size w w'))
 case atStart => exact ⟨(0), rB, H', ⟨Nat.le_refl _⟩, (aB HB)⟩
 case round =>
  clear H'
  obtain ⟨x3_1, rfl, HA, HK1, HB⟩ := hrel
  cases gk with
  | zero => exact absurd HA.out (by simp [spec_l18Good.l0])
  | succ k1 =>
   have H := HA.out
   clear HA
   simp only [spec_l18Good.l0] at H
   replace H := ifD H
   rcases H with ⟨H, -, c2b0⟩ | ⟨H, -, c2b0⟩
   ·by_cases c3 : 0 ≤ x3_1
    ·rw [if_pos c3] at H
     have c3b0 : decide (0 ≤ x3_1) = true := decide_eq_true c3
     clear c3
     replace H := bA H
     obtain ⟨t110, A4, H⟩ := H
     rcases Bool.eq_false_or_eq_true t110 with rfl | rfl
     ·replace H := iT rfl H
      replace H := ifD H
      rcases H with ⟨H, -, c6b0⟩ | ⟨H, -, c6b0⟩
      ·obtain ⟨ji7, hji7⟩ : ∃ j_ : Int, (wrap64 (x3_1 - 1)) = j_ := ⟨_, rfl⟩
       replace H : (if 0 ≤ (ji7) then (if (ji7) < (l0.length : Int) then (if ((rd_T25 l0 (ji7)).f0) ≥ ((rd_T25 l0 x3_1).f0) then (some false) else (spec_l18Good.l0 k1 l0 (wrap64 (x3_1 + 1)))) else (none)) else (none)) = some r := by first | (rw [hji7] at H; exact H) | (simp only [hji7] at H ⊢; exact H)
       (try rw [hji7] at A4)
       have hji7w : (IntKind.i64.wrap (x3_1 - 1)) = ji7 := (i64_w _).trans hji7
       by_cases c8 : 0 ≤ (ji7)
       ·rw [if_pos c8] at H
        have c8b0 : decide (0 ≤ (ji7)) = true := decide_eq_true c8
        clear c8
        by_cases c9 : (ji7) < (l0.length : Int)
        ·rw [if_pos c9] at H
         have c9b0 : decide ((ji7) < (l0.length : Int)) = true := decide_eq_true c9
         clear c9
         replace H := ifD H
         rcases H with ⟨H, -, c10b0⟩ | ⟨H, -, c10b0⟩
         ·obtain rfl := Option.some.inj H
          try go_wp2
          replace HB := Aside0.mk (below_drew1 HB.out)
          have p109 : 0 ≤ (x3_1 : Int) := of_decide_eq_true asmB
          have q109 : x3_1 < (l0.length : Int) := of_decide_eq_true asmB
          obtain ⟨ad109, e109, hx109_0, hx109_1, hx109_2, hx109_3, hx109_4⟩ := at_T25 HR0.out x3_1 p109 q109
          have hw109_4 := hx109_4
          have hw109_3 := hx109_3
          have hw109_2 := hx109_2
          have hw109_1 := hx109_1
          have hw109_0 := hx109_0
          cases e109
          replace hx109_0 := bx HB.out hx109_0
          replace hx109_1 := bx HB.out hx109_1
          replace hx109_2 := bx HB.out hx109_2
          replace hx109_3 := bx HB.out hx109_3
          replace hx109_4 := bx HB.out hx109_4
          replace p109 := eq_true p109
          replace q109 := eq_true q109
          have p111 : 0 ≤ ((ji7) : Int) := of_decide_eq_true asmB
          have q111 : (ji7) < (l0.length : Int) := of_decide_eq_true asmB
          obtain ⟨ad111, e111, hx111_0, hx111_1, hx111_2, hx111_3, hx111_4⟩ := at_T25 HR0.out (ji7) p111 q111
          have hw111_4 := hx111_4
          have hw111_3 := hx111_3
          have hw111_2 := hx111_2
          have hw111_1 := hx111_1
          have hw111_0 := hx111_0
          obtain rfl : ad109 = ad111 := (by injection e111)
          replace hx111_0 := bx HB.out hx111_0
          replace hx111_1 := bx HB.out hx111_1
          replace hx111_2 := bx HB.out hx111_2
          replace hx111_3 := bx HB.out hx111_3
          replace hx111_4 := bx HB.out hx111_4
          replace p111 := eq_true p111
          replace q111 := eq_true q111
          have p112 : 0 ≤ (x3_1 : Int) := of_decide_eq_true asmB
          have q112 : x3_1 < (l0.length : Int) := of_decide_eq_true asmB
          obtain ⟨ad112, e112, hx112_0, hx112_1, hx112_2, hx112_3, hx112_4⟩ := at_T25 HR0.out x3_1 p112 q112
          have hw112_4 := hx112_4
          have hw112_3 := hx112_3
          have hw112_2 := hx112_2
          have hw112_1 := hx112_1
          have hw112_0 := hx112_0
          obtain rfl : ad109 = ad112 := (by injection e112)
          replace hx112_0 := bx HB.out hx112_0
          replace hx112_1 := bx HB.out hx112_1
          replace hx112_2 := bx HB.out hx112_2
          replace hx112_3 := bx HB.out hx112_3
          replace hx112_4 := bx HB.out hx112_4
          replace p112 := eq_true p112
          replace q112 := eq_true q112
          refine sA (n := 24) (S := fun w' => w'.cell? (ad109.add ((x3_1).toNat * 5)) = some (.int .i64 ((rd_T25 l0 x3_1).f0)) ∧ w'.cell? ⟨(ad109.add ((x3_1).toNat * 5)).block, (ad109.add ((x3_1).toNat * 5)).off + 1, none⟩ = some (.int .i64 ((rd_T25 l0 x3_1).f1)) ∧ w'.cell? ⟨(ad109.add ((x3_1).toNat * 5)).block, (ad109.add ((x3_1).toNat * 5)).off + 2, none⟩ = some (.int .i64 ((rd_T25 l0 x3_1).f2)) ∧ w'.cell? ⟨(ad109.add ((x3_1).toNat * 5)).block, (ad109.add ((x3_1).toNat * 5)).off + 3, none⟩ = some (.int .i64 ((rd_T25 l0 x3_1).f3)) ∧ w'.cell? ⟨(ad109.add ((x3_1).toNat * 5)).block, (ad109.add ((x3_1).toNat * 5)).off + 4, none⟩ = some (.int .i64 ((rd_T25 l0 x3_1).f4)) ∧ w'.cell? (ad109.add (((ji7)).toNat * 5)) = some (.int .i64 ((rd_T25 l0 (ji7)).f0)) ∧ w'.cell? ⟨(ad109.add (((ji7)).toNat * 5)).block, (ad109.add (((ji7)).toNat * 5)).off + 1, none⟩ = some (.int .i64 ((rd_T25 l0 (ji7)).f1)) ∧ w'.cell? ⟨(ad109.add (((ji7)).toNat * 5)).block, (ad109.add (((ji7)).toNat * 5)).off + 2, none⟩ = some (.int .i64 ((rd_T25 l0 (ji7)).f2)) ∧ w'.cell? ⟨(ad109.add (((ji7)).toNat * 5)).block, (ad109.add (((ji7)).toNat * 5)).off + 3, none⟩ = some (.int .i64 ((rd_T25 l0 (ji7)).f3)) ∧ w'.cell? ⟨(ad109.add (((ji7)).toNat * 5)).block, (ad109.add (((ji7)).toNat * 5)).off + 4, none⟩ = some (.int .i64 ((rd_T25 l0 (ji7)).f4)) ∧ w'.cell? (ad109.add ((x3_1).toNat * 5)) = some (.int .i64 ((rd_T25 l0 x3_1).f0)) ∧ w'.cell? ⟨(ad109.add ((x3_1).toNat * 5)).block, (ad109.add ((x3_1).toNat * 5)).off + 1, none⟩ = some (.int .i64 ((rd_T25 l0 x3_1).f1)) ∧ w'.cell? ⟨(ad109.add ((x3_1).toNat * 5)).block, (ad109.add ((x3_1).toNat * 5)).off + 2, none⟩ = some (.int .i64 ((rd_T25 l0 x3_1).f2)) ∧ w'.cell? ⟨(ad109.add ((x3_1).toNat * 5)).block, (ad109.add ((x3_1).toNat * 5)).off + 3, none⟩ = some (.int .i64 ((rd_T25 l0 x3_1).f3)) ∧ w'.cell? ⟨(ad109.add ((x3_1).toNat * 5)).block, (ad109.add ((x3_1).toNat * 5)).off + 4, none⟩ = some (.int .i64 ((rd_T25 l0 x3_1).f4))) (ds := []) spec_l18Good.tab4 spec_l18Good.bits4 #[false, false, false, false, false, false, false, false, false, false, false, false, false, false, false, false, false, false, false, false, false, false, false, false] ⟨(bX HB hw109_0), (bX HB hw109_1), (bX HB hw109_2), (bX HB hw109_3), (bX HB hw109_4), (bX HB hw111_0), (bX HB hw111_1), (bX HB hw111_2), (bX HB hw111_3), (bX HB hw111_4), (bX HB hw112_0), (bX HB hw112_1), (bX HB hw112_2), (bX HB hw112_3), (bX HB hw112_4)⟩ fun hHeld HT_ HW_ => ?_
          generalize wr.drew = w11 at HB hx109_0 hx109_1 hx109_2 hx109_3 hx109_4 hx111_0 hx111_1 hx111_2 hx111_3 hx111_4 hx112_0 hx112_1 hx112_2 hx112_3 hx112_4 hHeld ⊢
          refine pA 0 10 HT_ ?_
          refine pA 1 11 HT_ ?_
          refine pA 2 12 HT_ ?_
          refine tA 3 13 HT_ HW_ hHeld ?_
          refine oA 4 (some 14) HT_ fun K hK => ?_
          refine rA Try.func43 (spec_l18One.calls ((rd_T25 l0 x3_1).f0) ((rd_T25 l0 x3_1).f1) ((rd_T25 l0 x3_1).f2) ((rd_T25 l0 x3_1).f3) ((rd_T25 l0 x3_1).f4) true _ A4.out) ?_
          intro w12 hb
          replace HB := uB HB hb
          (try clear hb)
          refine hK.out _ _ ⟨(bX HB hw109_0), (bX HB hw109_1), (bX HB hw109_2), (bX HB hw109_3), (bX HB hw109_4), (bX HB hw111_0), (bX HB hw111_1), (bX HB hw111_2), (bX HB hw111_3), (bX HB hw111_4), (bX HB hw112_0), (bX HB hw112_1), (bX HB hw112_2), (bX HB hw112_3), (bX HB hw112_4)⟩ (fun hHeld => ?_)
          clear hK K
          refine nA ?_ (some 14)
          refine pA 5 15 HT_ ?_
          refine pA 6 16 HT_ ?_
          refine pA 7 17 HT_ ?_
          refine pA 8 18 HT_ ?_
          refine pA 9 19 HT_ ?_
          refine pA 10 20 HT_ ?_
          refine pA 11 21 HT_ ?_
          refine pA 12 22 HT_ ?_
          refine pA 13 23 HT_ ?_
          refine pA 14 24 HT_ ?_
          refine pA 16 26 HT_ ?_
          refine pA 17 27 HT_ ?_
          refine pA 18 28 HT_ ?_
          refine pA 19 29 HT_ ?_
          refine tA 15 25 HT_ HW_ hHeld ?_
          refine tA 20 30 HT_ HW_ hHeld ?_
          refine pA 21 31 HT_ ?_
          refine pA 22 32 HT_ ?_
          refine pA 23 33 HT_ ?_
          refine done_ (done_of HT_.out (by kernel_rfl)) ?_
          try go_wp2
          go_ret
          exact ⟨by first | rfl | (simp [errW_none, errW_some] <;> rfl) | (simp only [← hji7]; first | rfl | (simp [errW_none, errW_some] <;> rfl)) | (simp [*, errW_none, errW_some] <;> rfl), (bW HB)⟩
         ·have H' := Aside0.mk H
          clear H
          try go_wp2
          replace HB := Aside0.mk (below_drew1 HB.out)
          have p109 : 0 ≤ (x3_1 : Int) := of_decide_eq_true asmB
          have q109 : x3_1 < (l0.length : Int) := of_decide_eq_true asmB
          obtain ⟨ad109, e109, hx109_0, hx109_1, hx109_2, hx109_3, hx109_4⟩ := at_T25 HR0.out x3_1 p109 q109
          have hw109_4 := hx109_4
          have hw109_3 := hx109_3
          have hw109_2 := hx109_2
          have hw109_1 := hx109_1
          have hw109_0 := hx109_0
          cases e109
          replace hx109_0 := bx HB.out hx109_0
          replace hx109_1 := bx HB.out hx109_1
          replace hx109_2 := bx HB.out hx109_2
          replace hx109_3 := bx HB.out hx109_3
          replace hx109_4 := bx HB.out hx109_4
          replace p109 := eq_true p109
          replace q109 := eq_true q109
          have p111 : 0 ≤ ((ji7) : Int) := of_decide_eq_true asmB
          have q111 : (ji7) < (l0.length : Int) := of_decide_eq_true asmB
          obtain ⟨ad111, e111, hx111_0, hx111_1, hx111_2, hx111_3, hx111_4⟩ := at_T25 HR0.out (ji7) p111 q111
          have hw111_4 := hx111_4
          have hw111_3 := hx111_3
          have hw111_2 := hx111_2
          have hw111_1 := hx111_1
          have hw111_0 := hx111_0
          obtain rfl : ad109 = ad111 := (by injection e111)
          replace hx111_0 := bx HB.out hx111_0
          replace hx111_1 := bx HB.out hx111_1
          replace hx111_2 := bx HB.out hx111_2
          replace hx111_3 := bx HB.out hx111_3
          replace hx111_4 := bx HB.out hx111_4
          replace p111 := eq_true p111
          replace q111 := eq_true q111
          have p112 : 0 ≤ (x3_1 : Int) := of_decide_eq_true asmB
          have q112 : x3_1 < (l0.length : Int) := of_decide_eq_true asmB
          obtain ⟨ad112, e112, hx112_0, hx112_1, hx112_2, hx112_3, hx112_4⟩ := at_T25 HR0.out x3_1 p112 q112
          have hw112_4 := hx112_4
          have hw112_3 := hx112_3
          have hw112_2 := hx112_2
          have hw112_1 := hx112_1
          have hw112_0 := hx112_0
          obtain rfl : ad109 = ad112 := (by injection e112)
          replace hx112_0 := bx HB.out hx112_0
          replace hx112_1 := bx HB.out hx112_1
          replace hx112_2 := bx HB.out hx112_2
          replace hx112_3 := bx HB.out hx112_3
          replace hx112_4 := bx HB.out hx112_4
          replace p112 := eq_true p112
          replace q112 := eq_true q112
          refine sA (n := 24) (S := fun w' => w'.cell? (ad109.add ((x3_1).toNat * 5)) = some (.int .i64 ((rd_T25 l0 x3_1).f0)) ∧ w'.cell? ⟨(ad109.add ((x3_1).toNat * 5)).block, (ad109.add ((x3_1).toNat * 5)).off + 1, none⟩ = some (.int .i64 ((rd_T25 l0 x3_1).f1)) ∧ w'.cell? ⟨(ad109.add ((x3_1).toNat * 5)).block, (ad109.add ((x3_1).toNat * 5)).off + 2, none⟩ = some (.int .i64 ((rd_T25 l0 x3_1).f2)) ∧ w'.cell? ⟨(ad109.add ((x3_1).toNat * 5)).block, (ad109.add ((x3_1).toNat * 5)).off + 3, none⟩ = some (.int .i64 ((rd_T25 l0 x3_1).f3)) ∧ w'.cell? ⟨(ad109.add ((x3_1).toNat * 5)).block, (ad109.add ((x3_1).toNat * 5)).off + 4, none⟩ = some (.int .i64 ((rd_T25 l0 x3_1).f4)) ∧ w'.cell? (ad109.add (((ji7)).toNat * 5)) = some (.int .i64 ((rd_T25 l0 (ji7)).f0)) ∧ w'.cell? ⟨(ad109.add (((ji7)).toNat * 5)).block, (ad109.add (((ji7)).toNat * 5)).off + 1, none⟩ = some (.int .i64 ((rd_T25 l0 (ji7)).f1)) ∧ w'.cell? ⟨(ad109.add (((ji7)).toNat * 5)).block, (ad109.add (((ji7)).toNat * 5)).off + 2, none⟩ = some (.int .i64 ((rd_T25 l0 (ji7)).f2)) ∧ w'.cell? ⟨(ad109.add (((ji7)).toNat * 5)).block, (ad109.add (((ji7)).toNat * 5)).off + 3, none⟩ = some (.int .i64 ((rd_T25 l0 (ji7)).f3)) ∧ w'.cell? ⟨(ad109.add (((ji7)).toNat * 5)).block, (ad109.add (((ji7)).toNat * 5)).off + 4, none⟩ = some (.int .i64 ((rd_T25 l0 (ji7)).f4)) ∧ w'.cell? (ad109.add ((x3_1).toNat * 5)) = some (.int .i64 ((rd_T25 l0 x3_1).f0)) ∧ w'.cell? ⟨(ad109.add ((x3_1).toNat * 5)).block, (ad109.add ((x3_1).toNat * 5)).off + 1, none⟩ = some (.int .i64 ((rd_T25 l0 x3_1).f1)) ∧ w'.cell? ⟨(ad109.add ((x3_1).toNat * 5)).block, (ad109.add ((x3_1).toNat * 5)).off + 2, none⟩ = some (.int .i64 ((rd_T25 l0 x3_1).f2)) ∧ w'.cell? ⟨(ad109.add ((x3_1).toNat * 5)).block, (ad109.add ((x3_1).toNat * 5)).off + 3, none⟩ = some (.int .i64 ((rd_T25 l0 x3_1).f3)) ∧ w'.cell? ⟨(ad109.add ((x3_1).toNat * 5)).block, (ad109.add ((x3_1).toNat * 5)).off + 4, none⟩ = some (.int .i64 ((rd_T25 l0 x3_1).f4))) (ds := []) spec_l18Good.tab4 spec_l18Good.bits4 #[false, false, false, false, false, false, false, false, false, false, false, false, false, false, false, false, false, false, false, false, false, false, false, false] ⟨(bX HB hw109_0), (bX HB hw109_1), (bX HB hw109_2), (bX HB hw109_3), (bX HB hw109_4), (bX HB hw111_0), (bX HB hw111_1), (bX HB hw111_2), (bX HB hw111_3), (bX HB hw111_4), (bX HB hw112_0), (bX HB hw112_1), (bX HB hw112_2), (bX HB hw112_3), (bX HB hw112_4)⟩ fun hHeld HT_ HW_ => ?_
          generalize wr.drew = w13 at HB hx109_0 hx109_1 hx109_2 hx109_3 hx109_4 hx111_0 hx111_1 hx111_2 hx111_3 hx111_4 hx112_0 hx112_1 hx112_2 hx112_3 hx112_4 hHeld ⊢
          refine pA 0 10 HT_ ?_
          refine pA 1 11 HT_ ?_
          refine pA 2 12 HT_ ?_
          refine tA 3 13 HT_ HW_ hHeld ?_
          refine oA 4 (some 14) HT_ fun K hK => ?_
          refine rA Try.func43 (spec_l18One.calls ((rd_T25 l0 x3_1).f0) ((rd_T25 l0 x3_1).f1) ((rd_T25 l0 x3_1).f2) ((rd_T25 l0 x3_1).f3) ((rd_T25 l0 x3_1).f4) true _ A4.out) ?_
          intro w14 hb
          replace HB := uB HB hb
          (try clear hb)
          refine hK.out _ _ ⟨(bX HB hw109_0), (bX HB hw109_1), (bX HB hw109_2), (bX HB hw109_3), (bX HB hw109_4), (bX HB hw111_0), (bX HB hw111_1), (bX HB hw111_2), (bX HB hw111_3), (bX HB hw111_4), (bX HB hw112_0), (bX HB hw112_1), (bX HB hw112_2), (bX HB hw112_3), (bX HB hw112_4)⟩ (fun hHeld => ?_)
          clear hK K
          refine nA ?_ (some 14)
          refine pA 5 15 HT_ ?_
          refine pA 6 16 HT_ ?_
          refine pA 7 17 HT_ ?_
          refine pA 8 18 HT_ ?_
          refine pA 9 19 HT_ ?_
          refine pA 10 20 HT_ ?_
          refine pA 11 21 HT_ ?_
          refine pA 12 22 HT_ ?_
          refine pA 13 23 HT_ ?_
          refine pA 14 24 HT_ ?_
          refine pA 16 26 HT_ ?_
          refine pA 17 27 HT_ ?_
          refine pA 18 28 HT_ ?_
          refine pA 19 29 HT_ ?_
          refine tA 15 25 HT_ HW_ hHeld ?_
          refine tA 20 30 HT_ HW_ hHeld ?_
          refine pA 21 31 HT_ ?_
          refine pA 22 32 HT_ ?_
          refine pA 23 33 HT_ ?_
          refine done_ (done_of HT_.out (by kernel_rfl)) ?_
          try go_wp2
          go_roundg k1
          case measure => have := HK1.out; omega
          case rel => exact ⟨(wrap64 (x3_1 + 1)), rB, H', ⟨by have := HK1.out; omega⟩, (aB HB)⟩
        ·rw [if_neg c9] at H
         exact absurd H (by simp)
       ·rw [if_neg c8] at H
        exact absurd H (by simp)
      ·have H' := Aside0.mk H
       clear H
       try go_wp2
       replace HB := Aside0.mk (below_drew1 HB.out)
       have p109 : 0 ≤ (x3_1 : Int) := of_decide_eq_true asmB
       have q109 : x3_1 < (l0.length : Int) := of_decide_eq_true asmB
       obtain ⟨ad109, e109, hx109_0, hx109_1, hx109_2, hx109_3, hx109_4⟩ := at_T25 HR0.out x3_1 p109 q109
       have hw109_4 := hx109_4
       have hw109_3 := hx109_3
       have hw109_2 := hx109_2
       have hw109_1 := hx109_1
       have hw109_0 := hx109_0
       cases e109
       replace hx109_0 := bx HB.out hx109_0
       replace hx109_1 := bx HB.out hx109_1
       replace hx109_2 := bx HB.out hx109_2
       replace hx109_3 := bx HB.out hx109_3
       replace hx109_4 := bx HB.out hx109_4
       replace p109 := eq_true p109
       replace q109 := eq_true q109
       refine sA (n := 24) (S := fun w' => w'.cell? (ad109.add ((x3_1).toNat * 5)) = some (.int .i64 ((rd_T25 l0 x3_1).f0)) ∧ w'.cell? ⟨(ad109.add ((x3_1).toNat * 5)).block, (ad109.add ((x3_1).toNat * 5)).off + 1, none⟩ = some (.int .i64 ((rd_T25 l0 x3_1).f1)) ∧ w'.cell? ⟨(ad109.add ((x3_1).toNat * 5)).block, (ad109.add ((x3_1).toNat * 5)).off + 2, none⟩ = some (.int .i64 ((rd_T25 l0 x3_1).f2)) ∧ w'.cell? ⟨(ad109.add ((x3_1).toNat * 5)).block, (ad109.add ((x3_1).toNat * 5)).off + 3, none⟩ = some (.int .i64 ((rd_T25 l0 x3_1).f3)) ∧ w'.cell? ⟨(ad109.add ((x3_1).toNat * 5)).block, (ad109.add ((x3_1).toNat * 5)).off + 4, none⟩ = some (.int .i64 ((rd_T25 l0 x3_1).f4))) (ds := []) spec_l18Good.tab4 spec_l18Good.bits4 #[false, false, false, false, false, false, false, false, false, false, false, false, false, false, false, false, false, false, false, false, false, false, false, false] ⟨(bX HB hw109_0), (bX HB hw109_1), (bX HB hw109_2), (bX HB hw109_3), (bX HB hw109_4)⟩ fun hHeld HT_ HW_ => ?_
       generalize wr.drew = w15 at HB hx109_0 hx109_1 hx109_2 hx109_3 hx109_4 hHeld ⊢
       refine pA 0 10 HT_ ?_
       refine pA 1 11 HT_ ?_
       refine pA 2 12 HT_ ?_
       refine tA 3 13 HT_ HW_ hHeld ?_
       refine oA 4 (some 14) HT_ fun K hK => ?_
       refine rA Try.func43 (spec_l18One.calls ((rd_T25 l0 x3_1).f0) ((rd_T25 l0 x3_1).f1) ((rd_T25 l0 x3_1).f2) ((rd_T25 l0 x3_1).f3) ((rd_T25 l0 x3_1).f4) true _ A4.out) ?_
       intro w16 hb
       replace HB := uB HB hb
       (try clear hb)
       refine hK.out _ _ ⟨(bX HB hw109_0), (bX HB hw109_1), (bX HB hw109_2), (bX HB hw109_3), (bX HB hw109_4)⟩ (fun hHeld => ?_)
       clear hK K
       refine nA ?_ (some 14)
       refine pA 5 15 HT_ ?_
       refine pA 6 16 HT_ ?_
       refine pA 7 17 HT_ ?_
       refine pA 8 18 HT_ ?_
       refine pA 9 19 HT_ ?_
       refine pU 10 20 HT_ ?_
       refine pU 11 21 HT_ ?_
       refine pU 12 22 HT_ ?_
       refine pU 13 23 HT_ ?_
       refine pU 14 24 HT_ ?_
       refine pU 15 25 HT_ ?_
       refine pU 16 26 HT_ ?_
       refine pU 17 27 HT_ ?_
       refine pU 18 28 HT_ ?_
       refine pU 19 29 HT_ ?_
       refine pU 20 30 HT_ ?_
       refine pU 21 31 HT_ ?_
       refine pA 22 32 HT_ ?_
       refine pA 23 33 HT_ ?_
       refine done_ (done_of HT_.out (by kernel_rfl)) ?_
       try go_wp2
       go_roundg k1
       case measure => have := HK1.out; omega
       case rel => exact ⟨(wrap64 (x3_1 + 1)), rB, H', ⟨by have := HK1.out; omega⟩, (aB HB)⟩
     ·replace H := iF (by decide) H
      obtain rfl := Option.some.inj H
      try go_wp2
      replace HB := Aside0.mk (below_drew1 HB.out)
      have p109 : 0 ≤ (x3_1 : Int) := of_decide_eq_true asmB
      have q109 : x3_1 < (l0.length : Int) := of_decide_eq_true asmB
      obtain ⟨ad109, e109, hx109_0, hx109_1, hx109_2, hx109_3, hx109_4⟩ := at_T25 HR0.out x3_1 p109 q109
      have hw109_4 := hx109_4
      have hw109_3 := hx109_3
      have hw109_2 := hx109_2
      have hw109_1 := hx109_1
      have hw109_0 := hx109_0
      cases e109
      replace hx109_0 := bx HB.out hx109_0
      replace hx109_1 := bx HB.out hx109_1
      replace hx109_2 := bx HB.out hx109_2
      replace hx109_3 := bx HB.out hx109_3
      replace hx109_4 := bx HB.out hx109_4
      replace p109 := eq_true p109
      replace q109 := eq_true q109
      refine sA (n := 24) (S := fun w' => w'.cell? (ad109.add ((x3_1).toNat * 5)) = some (.int .i64 ((rd_T25 l0 x3_1).f0)) ∧ w'.cell? ⟨(ad109.add ((x3_1).toNat * 5)).block, (ad109.add ((x3_1).toNat * 5)).off + 1, none⟩ = some (.int .i64 ((rd_T25 l0 x3_1).f1)) ∧ w'.cell? ⟨(ad109.add ((x3_1).toNat * 5)).block, (ad109.add ((x3_1).toNat * 5)).off + 2, none⟩ = some (.int .i64 ((rd_T25 l0 x3_1).f2)) ∧ w'.cell? ⟨(ad109.add ((x3_1).toNat * 5)).block, (ad109.add ((x3_1).toNat * 5)).off + 3, none⟩ = some (.int .i64 ((rd_T25 l0 x3_1).f3)) ∧ w'.cell? ⟨(ad109.add ((x3_1).toNat * 5)).block, (ad109.add ((x3_1).toNat * 5)).off + 4, none⟩ = some (.int .i64 ((rd_T25 l0 x3_1).f4))) (ds := []) spec_l18Good.tab4 spec_l18Good.bits4 #[false, false, false, false, false, false, false, false, false, false, false, false, false, false, false, false, false, false, false, false, false, false, false, false] ⟨(bX HB hw109_0), (bX HB hw109_1), (bX HB hw109_2), (bX HB hw109_3), (bX HB hw109_4)⟩ fun hHeld HT_ HW_ => ?_
      generalize wr.drew = w17 at HB hx109_0 hx109_1 hx109_2 hx109_3 hx109_4 hHeld ⊢
      refine pA 0 10 HT_ ?_
      refine pA 1 11 HT_ ?_
      refine pA 2 12 HT_ ?_
      refine tA 3 13 HT_ HW_ hHeld ?_
      refine oA 4 (some 14) HT_ fun K hK => ?_
      refine rA Try.func43 (spec_l18One.calls ((rd_T25 l0 x3_1).f0) ((rd_T25 l0 x3_1).f1) ((rd_T25 l0 x3_1).f2) ((rd_T25 l0 x3_1).f3) ((rd_T25 l0 x3_1).f4) false _ A4.out) ?_
      intro w18 hb
      replace HB := uB HB hb
      (try clear hb)
      refine hK.out _ _ ⟨(bX HB hw109_0), (bX HB hw109_1), (bX HB hw109_2), (bX HB hw109_3), (bX HB hw109_4)⟩ (fun hHeld => ?_)
      clear hK K
      refine nA ?_ (some 14)
      refine pA 5 15 HT_ ?_
      refine pA 6 16 HT_ ?_
      refine pU 7 17 HT_ ?_
      refine pU 8 18 HT_ ?_
      refine pU 9 19 HT_ ?_
      refine pU 10 20 HT_ ?_
      refine pU 11 21 HT_ ?_
      refine pU 12 22 HT_ ?_
      refine pU 13 23 HT_ ?_
      refine pU 14 24 HT_ ?_
      refine pU 15 25 HT_ ?_
      refine pU 16 26 HT_ ?_
      refine pU 17 27 HT_ ?_
      refine pU 18 28 HT_ ?_
      refine pU 19 29 HT_ ?_
      refine pU 20 30 HT_ ?_
      refine pU 21 31 HT_ ?_
      refine pU 22 32 HT_ ?_
      refine pA 23 33 HT_ ?_
      refine done_ (done_of HT_.out (by kernel_rfl)) ?_
      try go_wp2
      go_ret
      exact ⟨eB, (bW HB)⟩
    ·rw [if_neg c3] at H
     exact absurd H (by simp)
   ·obtain rfl := Option.some.inj H
    go_wp2
    go_ret
    exact ⟨eB, (bW HB)⟩

end Go.Proofs.Ytldgjibimolcdaa.QFnLeadTrips
