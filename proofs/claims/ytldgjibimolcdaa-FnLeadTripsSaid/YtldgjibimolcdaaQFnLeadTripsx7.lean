/- Contracts of Go functions that FnLeadTrips reaches: the call computes what the plain function says. No condition. -/
import Derived.Test.YtldgjibimolcdaaQFnLeadTripsx0
import Derived.Test.YtldgjibimolcdaaQFnLeadTripsx6
namespace Go.Proofs.Ytldgjibimolcdaa.QFnLeadTrips
open Go.RowKit Go.Proofs.YtldgjibimolcdaaW.PrintWords Go.Proofs.YtldgjibimolcdaaW.PrintLast Go.Proofs.YtldgjibimolcdaaW.PrintMore
attribute [local go_sem] max2_int min2_int max_two min_two max_three min_three max_four min_four   -- for this text's walks alone
set_option linter.unusedVariables false
set_option linter.unusedSimpArgs false

/-! ### spec_l18Rank: function 57 -/
mutual
def spec_l18Rank.l0 : Nat → List (S25) → List Int → Int → Option (List Int)
 | 0, _, _, _ => none
 | k + 1, x0, x3, x4 => if x4 < (x0.length : Int) then (if 0 ≤ x4 then (if ((rd_T25 x0 x4).f4) = 0 then (spec_l18Rank.l1 k x0 x3 x4 (x3.length : Int)) else (spec_l18Rank.l0 k x0 x3 (wrap64 (x4 + 1)))) else (none)) else (some x3)
def spec_l18Rank.l1 : Nat → List (S25) → List Int → Int → Int → Option (List Int)
 | 0, _, _, _, _ => none
 | k + 1, x0, x3, x4, x5 => if x5 > 0 then (if 0 ≤ (wrap64 (x5 - 1)) then (if (wrap64 (x5 - 1)) < (x3.length : Int) then (if 0 ≤ (rd x3 (wrap64 (x5 - 1))) then (if (rd x3 (wrap64 (x5 - 1))) < (x0.length : Int) then ((spec_l18Worth.f ((rd_T25 x0 (rd x3 (wrap64 (x5 - 1)))).f0) ((rd_T25 x0 (rd x3 (wrap64 (x5 - 1)))).f1) ((rd_T25 x0 (rd x3 (wrap64 (x5 - 1)))).f2) ((rd_T25 x0 (rd x3 (wrap64 (x5 - 1)))).f3) ((rd_T25 x0 (rd x3 (wrap64 (x5 - 1)))).f4)).bind fun t183 => (if 0 ≤ x4 then (if x4 < (x0.length : Int) then ((spec_l18Worth.f ((rd_T25 x0 x4).f0) ((rd_T25 x0 x4).f1) ((rd_T25 x0 x4).f2) ((rd_T25 x0 x4).f3) ((rd_T25 x0 x4).f4)).bind fun t185 => (if t183 < t185 then (spec_l18Rank.l1 k x0 x3 x4 (wrap64 (x5 - 1))) else ((spec_xIns.f x3 x4 x5).bind fun t186 => (spec_l18Rank.l0 k x0 t186 (wrap64 (x4 + 1)))))) else (none)) else (none))) else (none)) else (none)) else (none)) else (none)) else ((spec_xIns.f x3 x4 x5).bind fun t189 => (spec_l18Rank.l0 k x0 t189 (wrap64 (x4 + 1))))
end
def spec_l18Rank.f (k : Nat) (l0 : List (S25)) : Option (List Int) := spec_l18Rank.l0 k l0 (([] : List Int)) 0
theorem spec_l18Rank.mono_l : ∀ k, (∀ y0 y1 y2, LeO (spec_l18Rank.l0 k y0 y1 y2) (spec_l18Rank.l0 (k + 1) y0 y1 y2)) ∧ (∀ y0 y1 y2 y3, LeO (spec_l18Rank.l1 k y0 y1 y2 y3) (spec_l18Rank.l1 (k + 1) y0 y1 y2 y3))
 | 0 => ⟨fun _ _ _ r h => by simp [spec_l18Rank.l0] at h, fun _ _ _ _ r h => by simp [spec_l18Rank.l1] at h⟩
 | k + 1 => by
  obtain ⟨ih0, ih1⟩ := spec_l18Rank.mono_l k
  refine ⟨?_, ?_⟩
  ·intro y0 y1 y2
   unfold spec_l18Rank.l0
   repeat' with_reducible first | apply ih0 | apply ih1 | exact LeO.refl _ | exact LeO.none _ | refine LeO.ite ?_ ?_ | refine LeO.bind ?_ (fun _ => ?_)
  ·intro y0 y1 y2 y3
   unfold spec_l18Rank.l1
   repeat' with_reducible first | apply ih0 | apply ih1 | exact LeO.refl _ | exact LeO.none _ | refine LeO.ite ?_ ?_ | refine LeO.bind ?_ (fun _ => ?_)
theorem spec_l18Rank.mono : ∀ a0 k, LeO (spec_l18Rank.f k a0) (spec_l18Rank.f (k + 1) a0) := by
 intro a0 k
 obtain ⟨ih0, ih1⟩ := spec_l18Rank.mono_l k
 unfold spec_l18Rank.f
 repeat' with_reducible first | apply ih0 | apply ih1 | exact LeO.refl _ | exact LeO.none _ | refine LeO.ite ?_ ?_ | refine LeO.bind ?_ (fun _ => ?_)
def spec_l18Rank.T7 : Bool × List (List Nat × List Nat) := (true, [([], []), ([0], [0]), ([1], [1]), ([2], [2]), ([2], [2]), ([2], [2]), ([5, 2], [2, 5]), ([4, 6, 2], [2, 4, 6]), ([7, 2], [2, 7]), ([3, 8, 2], [2, 3, 8]), ([9, 2], [2, 9]), ([10, 2, 2], [2, 10]), ([2], [2]), ([2], [2]), ([12, 13, 2], [2, 12, 13]), ([14, 2], [2, 14]), ([15, 11, 2], [2, 15]), ([11, 16, 2], [2, 11, 16]), ([2, 17], [2, 17])])
def spec_l18Rank.B7 : List Nat := [0, 1, 3, 7, 7, 7, 39, 119, 247, 511, 1023, 2047, 7, 7, 12295, 28679, 65535, 131071, 262143]
theorem spec_l18Rank.tab7 : rtab .any (opsOf Try.f57 7) = spec_l18Rank.T7 := by kernel_rfl
theorem spec_l18Rank.bits7 : waitsOk spec_l18Rank.T7.2 spec_l18Rank.B7 = true := by kernel_rfl
set_option maxHeartbeats 8000000 in
set_option maxRecDepth 100000 in
theorem spec_l18Rank.calls (k : Nat) (A0 : Option Addr) (c0 : Nat) (l0 : List (S25)) (r : List Int) (w : World) (hr0 : Kd.C k25 w A0 l0.length l0) (hc0 : l0.length ≤ c0) (h : spec_l18Rank.f k l0 = some r) :
  Calls Try.prog 57 #[.slice A0 l0.length c0] w fun e w' => ∃ v0_ : Value, e = .returned (v0_) ∧ Kd.R (Kd.int .i64) 3 w' w.heap.size (fun _ => True) v0_ r ∧ Below w.heap.size w w' := by
 have hu25 := Try.underlying25
 have HR0 := Aside0.mk hr0
 have HC0 := Aside0.mk hc0
 clear hr0 hc0
 have HB := Aside0.mk (Below.refl w.heap.size w)
 have H : (spec_l18Rank.l0 k l0 (([] : List Int)) 0) = some r := h
 clear h
 obtain ⟨y177, hy177⟩ : ∃ y_ : List Int, y_ = (([] : List Int)) := ⟨_, rfl⟩
 replace H : (spec_l18Rank.l0 k l0 y177 0) = some r := by first | (rw [hy177]; with_reducible exact H) | (have H2_ := (Option.bind_some _ _).symm.trans H; rw [hy177]; with_reducible exact H2_) | (have H2_ := (Option.bind_some _ _).symm.trans H; with_reducible exact H2_) | with_reducible exact H | (rw [hy177]; exact H) | exact H
 have Ny177 := Aside0.mk hy177
 clear hy177
 have H' := Aside0.mk H
 clear H
 go_enter Try.func57, Try.ntmps57
 go_wp2_with (first | ((with_reducible refine gate_dst (N := 6) rfl ?_); refine Kd.R_lit (Kd.int .i64) _ 3 ?hg (N := 6) ?hd (xs := ([] : List Int)) (inner := []) (ok := fun _ => True) (okp := fun _ => True) ?hr ?hp (fun _ hk => hk) trivial (Below.refl _ _) (Nat.le_refl _) (by simp) ?_; (case hd => rfl); (case hg => rfl); (case hr => first | (go_simp; done) | (go_simp; rfl)); (case hp => exact (Reps.none _ _)); intro v178 w2 ho3 hb hg_ hnew_; clear hg_ hnew_; (first | rw [← Ny177.out] at ho3 | (simp only [Int.reduceToNat] at ho3; rw [← Ny177.out] at ho3)); have HO179 := Aside0.mk (Kd.R_lower ho3 (below_size (bW HB))); replace HB := uB HB hb; clear hb ho3))
 (try simp only [Act.put, List.setIfInBounds_toArray, List.set_cons_zero, List.set_cons_succ])
 go_loopg [3, 4] k (fun kq v3 v4 w' => ∃ (x3_1 : List Int) (x4_1 : Int), v4 = .int .i64 x4_1 ∧ Aside0 (spec_l18Rank.l0 kq l0 x3_1 x4_1 = some r) ∧ Aside0 (kq ≤ k) ∧ Aside0 (Kd.R (Kd.int .i64) 3 w' w.heap.size (fun _ => True) v3 x3_1) ∧ Aside0 (Below w.heap.size w w'))
 case atStart => exact ⟨(y177), (0), rB, H', ⟨Nat.le_refl _⟩, ⟨upR HO179.out⟩, (aB HB)⟩
 case round =>
  clear H'
  obtain ⟨x3_1, x4_1, rfl, HA, HK1, HO_3, HB⟩ := hrel
  cases gk with
  | zero => exact absurd HA.out (by simp [spec_l18Rank.l0])
  | succ k1 =>
   have H := HA.out
   clear HA
   simp only [spec_l18Rank.l0] at H
   replace H := ifD H
   rcases H with ⟨H, -, c4b0⟩ | ⟨H, -, c4b0⟩
   ·by_cases c5 : 0 ≤ x4_1
    ·rw [if_pos c5] at H
     have c5b0 : decide (0 ≤ x4_1) = true := decide_eq_true c5
     clear c5
     replace H := ifI H
     rcases H with ⟨H, -, c6b0, c6b1⟩ | ⟨H, c6, c6b0, c6b1⟩
     ·have H' := Aside0.mk H
      clear H
      have p180 : 0 ≤ (x4_1 : Int) := of_decide_eq_true asmB
      have q180 : x4_1 < (l0.length : Int) := of_decide_eq_true asmB
      obtain ⟨ad180, e180, hx180_0, hx180_1, hx180_2, hx180_3, hx180_4⟩ := at_T25 HR0.out x4_1 p180 q180
      cases e180
      replace hx180_0 := bx HB.out hx180_0
      replace hx180_1 := bx HB.out hx180_1
      replace hx180_2 := bx HB.out hx180_2
      replace hx180_3 := bx HB.out hx180_3
      replace hx180_4 := bx HB.out hx180_4
      replace p180 := eq_true p180
      replace q180 := eq_true q180
      obtain ⟨Ao7, co7, eo7⟩ := Kd.R_slice HO_3.out
      subst eo7
      go_wp2
      go_loopg [5] k1 (fun kq v5 w' => ∃ (x5_2 : Int), v5 = .int .i64 x5_2 ∧ Aside0 (spec_l18Rank.l1 kq l0 x3_1 x4_1 x5_2 = some r) ∧ Aside0 (kq ≤ k1) ∧ Aside0 (Kd.R (Kd.int .i64) 3 w' w.heap.size (fun _ => True) (.slice Ao7 x3_1.length co7) x3_1) ∧ Aside0 (Below w.heap.size w w'))
      case atStart => exact ⟨((x3_1.length : Int)), rB, H', ⟨Nat.le_refl _⟩, ⟨upR HO_3.out⟩, (aB HB)⟩
      case round =>
       clear H'
       try clear c4b0
       try clear c5
       try clear c5b0
       try clear c6
       try clear c6b0
       try clear c6b1
       try clear hx180_0
       try clear hx180_1
       try clear hx180_2
       try clear hx180_3
       try clear hx180_4
       try clear p180
       try clear q180
       obtain ⟨x5_2, rfl, HA, HK2, HO_3, HB⟩ := hrel
       cases gk with
       | zero => exact absurd HA.out (by simp [spec_l18Rank.l1])
       | succ k2 =>
        have H := HA.out
        clear HA
        simp only [spec_l18Rank.l1] at H
        replace H := ifD H
        rcases H with ⟨H, -, c8b0⟩ | ⟨H, -, c8b0⟩
        ·obtain ⟨ji9, hji9⟩ : ∃ j_ : Int, (wrap64 (x5_2 - 1)) = j_ := ⟨_, rfl⟩
         replace H : (if 0 ≤ (ji9) then (if (ji9) < (x3_1.length : Int) then (if 0 ≤ (rd x3_1 (ji9)) then (if (rd x3_1 (ji9)) < (l0.length : Int) then ((spec_l18Worth.f ((rd_T25 l0 (rd x3_1 (ji9))).f0) ((rd_T25 l0 (rd x3_1 (ji9))).f1) ((rd_T25 l0 (rd x3_1 (ji9))).f2) ((rd_T25 l0 (rd x3_1 (ji9))).f3) ((rd_T25 l0 (rd x3_1 (ji9))).f4)).bind fun t183 => (if 0 ≤ x4_1 then (if x4_1 < (l0.length : Int) then ((spec_l18Worth.f ((rd_T25 l0 x4_1).f0) ((rd_T25 l0 x4_1).f1) ((rd_T25 l0 x4_1).f2) ((rd_T25 l0 x4_1).f3) ((rd_T25 l0 x4_1).f4)).bind fun t185 => (if t183 < t185 then (spec_l18Rank.l1 k2 l0 x3_1 x4_1 ji9) else ((spec_xIns.f x3_1 x4_1 x5_2).bind fun t186 => (spec_l18Rank.l0 k2 l0 t186 (wrap64 (x4_1 + 1)))))) else (none)) else (none))) else (none)) else (none)) else (none)) else (none)) = some r := by first | (rw [hji9] at H; exact H) | (simp only [hji9] at H ⊢; exact H)
         have hji9w : (IntKind.i64.wrap (x5_2 - 1)) = ji9 := (i64_w _).trans hji9
         by_cases c10 : 0 ≤ (ji9)
         ·rw [if_pos c10] at H
          have c10b0 : decide (0 ≤ (ji9)) = true := decide_eq_true c10
          clear c10
          by_cases c11 : (ji9) < (x3_1.length : Int)
          ·rw [if_pos c11] at H
           have c11b0 : decide ((ji9) < (x3_1.length : Int)) = true := decide_eq_true c11
           clear c11
           by_cases c12 : 0 ≤ (rd x3_1 (ji9))
           ·rw [if_pos c12] at H
            have c12b0 : decide (0 ≤ (rd x3_1 (ji9))) = true := decide_eq_true c12
            clear c12
            by_cases c13 : (rd x3_1 (ji9)) < (l0.length : Int)
            ·rw [if_pos c13] at H
             have c13b0 : decide ((rd x3_1 (ji9)) < (l0.length : Int)) = true := decide_eq_true c13
             clear c13
             replace H := bA H
             obtain ⟨t183, A14, H⟩ := H
             by_cases c15 : 0 ≤ x4_1
             ·rw [if_pos c15] at H
              have c15b0 : decide (0 ≤ x4_1) = true := decide_eq_true c15
              clear c15
              by_cases c16 : x4_1 < (l0.length : Int)
              ·rw [if_pos c16] at H
               have c16b0 : decide (x4_1 < (l0.length : Int)) = true := decide_eq_true c16
               clear c16
               replace H := bA H
               obtain ⟨t185, A17, H⟩ := H
               replace H := ifD H
               rcases H with ⟨H, -, c18b0⟩ | ⟨H, -, c18b0⟩
               ·have H' := Aside0.mk H
                clear H
                try go_wp2
                replace HO_3 := Aside0.mk (Kd.R_drew HO_3.out)
                replace HB := Aside0.mk (below_drew1 HB.out)
                have p181 : 0 ≤ ((ji9) : Int) := of_decide_eq_true asmB
                have q181 : (ji9) < (x3_1.length : Int) := of_decide_eq_true asmB
                obtain ⟨ad181, e181, hx181_0⟩ := Kd.at_int (Kd.R_reads' HO_3.out).2.2 (ji9) p181 q181
                cases e181
                replace p181 := eq_true p181
                replace q181 := eq_true q181
                have p182 : 0 ≤ ((rd x3_1 (ji9)) : Int) := of_decide_eq_true asmB
                have q182 : (rd x3_1 (ji9)) < (l0.length : Int) := of_decide_eq_true asmB
                obtain ⟨ad182, e182, hx182_0, hx182_1, hx182_2, hx182_3, hx182_4⟩ := at_T25 HR0.out (rd x3_1 (ji9)) p182 q182
                have hw182_4 := hx182_4
                have hw182_3 := hx182_3
                have hw182_2 := hx182_2
                have hw182_1 := hx182_1
                have hw182_0 := hx182_0
                obtain rfl : ad180 = ad182 := (by injection e182)
                replace hx182_0 := bx HB.out hx182_0
                replace hx182_1 := bx HB.out hx182_1
                replace hx182_2 := bx HB.out hx182_2
                replace hx182_3 := bx HB.out hx182_3
                replace hx182_4 := bx HB.out hx182_4
                replace p182 := eq_true p182
                replace q182 := eq_true q182
                have p184 : 0 ≤ (x4_1 : Int) := of_decide_eq_true asmB
                have q184 : x4_1 < (l0.length : Int) := of_decide_eq_true asmB
                obtain ⟨ad184, e184, hx184_0, hx184_1, hx184_2, hx184_3, hx184_4⟩ := at_T25 HR0.out x4_1 p184 q184
                have hw184_4 := hx184_4
                have hw184_3 := hx184_3
                have hw184_2 := hx184_2
                have hw184_1 := hx184_1
                have hw184_0 := hx184_0
                obtain rfl : ad180 = ad184 := (by injection e184)
                replace hx184_0 := bx HB.out hx184_0
                replace hx184_1 := bx HB.out hx184_1
                replace hx184_2 := bx HB.out hx184_2
                replace hx184_3 := bx HB.out hx184_3
                replace hx184_4 := bx HB.out hx184_4
                replace p184 := eq_true p184
                replace q184 := eq_true q184
                refine sA (n := 19) (S := fun w' => w'.cell? (ad181.add ((ji9)).toNat) = some (.int .i64 (rd x3_1 (ji9))) ∧ w'.cell? (ad180.add (((rd x3_1 (ji9))).toNat * 5)) = some (.int .i64 ((rd_T25 l0 (rd x3_1 (ji9))).f0)) ∧ w'.cell? ⟨(ad180.add (((rd x3_1 (ji9))).toNat * 5)).block, (ad180.add (((rd x3_1 (ji9))).toNat * 5)).off + 1, none⟩ = some (.int .i64 ((rd_T25 l0 (rd x3_1 (ji9))).f1)) ∧ w'.cell? ⟨(ad180.add (((rd x3_1 (ji9))).toNat * 5)).block, (ad180.add (((rd x3_1 (ji9))).toNat * 5)).off + 2, none⟩ = some (.int .i64 ((rd_T25 l0 (rd x3_1 (ji9))).f2)) ∧ w'.cell? ⟨(ad180.add (((rd x3_1 (ji9))).toNat * 5)).block, (ad180.add (((rd x3_1 (ji9))).toNat * 5)).off + 3, none⟩ = some (.int .i64 ((rd_T25 l0 (rd x3_1 (ji9))).f3)) ∧ w'.cell? ⟨(ad180.add (((rd x3_1 (ji9))).toNat * 5)).block, (ad180.add (((rd x3_1 (ji9))).toNat * 5)).off + 4, none⟩ = some (.int .i64 ((rd_T25 l0 (rd x3_1 (ji9))).f4)) ∧ w'.cell? (ad180.add ((x4_1).toNat * 5)) = some (.int .i64 ((rd_T25 l0 x4_1).f0)) ∧ w'.cell? ⟨(ad180.add ((x4_1).toNat * 5)).block, (ad180.add ((x4_1).toNat * 5)).off + 1, none⟩ = some (.int .i64 ((rd_T25 l0 x4_1).f1)) ∧ w'.cell? ⟨(ad180.add ((x4_1).toNat * 5)).block, (ad180.add ((x4_1).toNat * 5)).off + 2, none⟩ = some (.int .i64 ((rd_T25 l0 x4_1).f2)) ∧ w'.cell? ⟨(ad180.add ((x4_1).toNat * 5)).block, (ad180.add ((x4_1).toNat * 5)).off + 3, none⟩ = some (.int .i64 ((rd_T25 l0 x4_1).f3)) ∧ w'.cell? ⟨(ad180.add ((x4_1).toNat * 5)).block, (ad180.add ((x4_1).toNat * 5)).off + 4, none⟩ = some (.int .i64 ((rd_T25 l0 x4_1).f4))) (ds := []) spec_l18Rank.tab7 spec_l18Rank.bits7 #[false, false, false, false, false, false, false, false, false, false, false, false, false, false, false, false, false, false, false] ⟨hx181_0, (bX HB hw182_0), (bX HB hw182_1), (bX HB hw182_2), (bX HB hw182_3), (bX HB hw182_4), (bX HB hw184_0), (bX HB hw184_1), (bX HB hw184_2), (bX HB hw184_3), (bX HB hw184_4)⟩ fun hHeld HT_ HW_ => ?_
                generalize wr.drew = w19 at HO_3 HB hx181_0 hx182_0 hx182_1 hx182_2 hx182_3 hx182_4 hx184_0 hx184_1 hx184_2 hx184_3 hx184_4 hHeld ⊢
                refine pA 0 21 HT_ ?_
                refine pA 1 22 HT_ ?_
                refine pA 2 23 HT_ ?_
                refine pA 3 24 HT_ ?_
                refine pA 4 25 HT_ ?_
                refine pA 5 26 HT_ ?_
                refine pA 6 27 HT_ ?_
                refine pA 7 28 HT_ ?_
                refine pA 12 33 HT_ ?_
                refine pA 13 34 HT_ ?_
                refine pA 14 35 HT_ ?_
                refine tA 8 29 HT_ HW_ hHeld ?_
                refine pA 9 30 HT_ ?_
                refine tA 10 31 HT_ HW_ hHeld ?_
                refine tA 15 36 HT_ HW_ hHeld ?_
                refine oA 11 (some 32) HT_ fun K hK => ?_
                refine goes_ Try.func65 (by kernel_rfl) rfl #[.agg #[.int .i64 ((rd_T25 l0 (rd x3_1 (ji9))).f0), .int .i64 ((rd_T25 l0 (rd x3_1 (ji9))).f1), .int .i64 ((rd_T25 l0 (rd x3_1 (ji9))).f2), .int .i64 ((rd_T25 l0 (rd x3_1 (ji9))).f3), .int .i64 ((rd_T25 l0 (rd x3_1 (ji9))).f4)]] (by rfl) rfl rfl (by (try simp only [List.map_toArray, List.map_cons, List.map_nil]); first | done | (simp only [hji9]; rfl) | rfl | (simp only [List.length_drop, List.length_take]; rfl)) ?_
                with_reducible refine (spec_l18Worth.calls ((rd_T25 l0 (rd x3_1 (ji9))).f0) ((rd_T25 l0 (rd x3_1 (ji9))).f1) ((rd_T25 l0 (rd x3_1 (ji9))).f2) ((rd_T25 l0 (rd x3_1 (ji9))).f3) ((rd_T25 l0 (rd x3_1 (ji9))).f4) t183 _ A14.out).mono ?_
                rintro e w20 ⟨rfl, hb⟩
                have HS0_ := (hb.cell (World.block_lt_of_cell? _ _ (hHeld.1))).trans (hHeld.1)
                refine ⟨_, rfl, ?_⟩
                replace HO_3 := uR HO_3 hb
                replace HB := uB HB hb
                (try clear hb)
                (try clear hk)
                refine hK.out _ _ ⟨HS0_, (bX HB hw182_0), (bX HB hw182_1), (bX HB hw182_2), (bX HB hw182_3), (bX HB hw182_4), (bX HB hw184_0), (bX HB hw184_1), (bX HB hw184_2), (bX HB hw184_3), (bX HB hw184_4)⟩ (fun hHeld => ?_)
                clear hK K
                refine nA ?_ (some 32)
                refine oA 16 (some 37) HT_ fun K hK => ?_
                refine goes_ Try.func65 (by kernel_rfl) rfl #[.agg #[.int .i64 ((rd_T25 l0 x4_1).f0), .int .i64 ((rd_T25 l0 x4_1).f1), .int .i64 ((rd_T25 l0 x4_1).f2), .int .i64 ((rd_T25 l0 x4_1).f3), .int .i64 ((rd_T25 l0 x4_1).f4)]] (by rfl) rfl rfl argsB ?_
                with_reducible refine (spec_l18Worth.calls ((rd_T25 l0 x4_1).f0) ((rd_T25 l0 x4_1).f1) ((rd_T25 l0 x4_1).f2) ((rd_T25 l0 x4_1).f3) ((rd_T25 l0 x4_1).f4) t185 _ A17.out).mono ?_
                rintro e w21 ⟨rfl, hb⟩
                have HS0_ := (hb.cell (World.block_lt_of_cell? _ _ (hHeld.1))).trans (hHeld.1)
                refine ⟨_, rfl, ?_⟩
                replace HO_3 := uR HO_3 hb
                replace HB := uB HB hb
                (try clear hb)
                (try clear hk)
                refine hK.out _ _ ⟨HS0_, (bX HB hw182_0), (bX HB hw182_1), (bX HB hw182_2), (bX HB hw182_3), (bX HB hw182_4), (bX HB hw184_0), (bX HB hw184_1), (bX HB hw184_2), (bX HB hw184_3), (bX HB hw184_4)⟩ (fun hHeld => ?_)
                clear hK K
                refine nA ?_ (some 37)
                refine pA 17 38 HT_ ?_
                refine pA 18 39 HT_ ?_
                refine done_ (done_of HT_.out (by kernel_rfl)) ?_
                try go_wp2
                go_roundg k2
                case measure => have := HK1.out; have := HK2.out; omega
                case rel => exact ⟨(ji9), (by first | rfl | (simp; done) | (simp only [← hji9] <;> (first | rfl | simp)) | (simp [*]; done)), H', ⟨by have := HK1.out; have := HK2.out; omega⟩, ⟨upR HO_3.out⟩, (aB HB)⟩
               ·replace H := bA H
                obtain ⟨t186, A22, H⟩ := H
                have H' := Aside0.mk H
                clear H
                try go_wp2
                replace HO_3 := Aside0.mk (Kd.R_drew HO_3.out)
                replace HB := Aside0.mk (below_drew1 HB.out)
                have p181 : 0 ≤ ((ji9) : Int) := of_decide_eq_true asmB
                have q181 : (ji9) < (x3_1.length : Int) := of_decide_eq_true asmB
                obtain ⟨ad181, e181, hx181_0⟩ := Kd.at_int (Kd.R_reads' HO_3.out).2.2 (ji9) p181 q181
                cases e181
                replace p181 := eq_true p181
                replace q181 := eq_true q181
                have p182 : 0 ≤ ((rd x3_1 (ji9)) : Int) := of_decide_eq_true asmB
                have q182 : (rd x3_1 (ji9)) < (l0.length : Int) := of_decide_eq_true asmB
                obtain ⟨ad182, e182, hx182_0, hx182_1, hx182_2, hx182_3, hx182_4⟩ := at_T25 HR0.out (rd x3_1 (ji9)) p182 q182
                have hw182_4 := hx182_4
                have hw182_3 := hx182_3
                have hw182_2 := hx182_2
                have hw182_1 := hx182_1
                have hw182_0 := hx182_0
                obtain rfl : ad180 = ad182 := (by injection e182)
                replace hx182_0 := bx HB.out hx182_0
                replace hx182_1 := bx HB.out hx182_1
                replace hx182_2 := bx HB.out hx182_2
                replace hx182_3 := bx HB.out hx182_3
                replace hx182_4 := bx HB.out hx182_4
                replace p182 := eq_true p182
                replace q182 := eq_true q182
                have p184 : 0 ≤ (x4_1 : Int) := of_decide_eq_true asmB
                have q184 : x4_1 < (l0.length : Int) := of_decide_eq_true asmB
                obtain ⟨ad184, e184, hx184_0, hx184_1, hx184_2, hx184_3, hx184_4⟩ := at_T25 HR0.out x4_1 p184 q184
                have hw184_4 := hx184_4
                have hw184_3 := hx184_3
                have hw184_2 := hx184_2
                have hw184_1 := hx184_1
                have hw184_0 := hx184_0
                obtain rfl : ad180 = ad184 := (by injection e184)
                replace hx184_0 := bx HB.out hx184_0
                replace hx184_1 := bx HB.out hx184_1
                replace hx184_2 := bx HB.out hx184_2
                replace hx184_3 := bx HB.out hx184_3
                replace hx184_4 := bx HB.out hx184_4
                replace p184 := eq_true p184
                replace q184 := eq_true q184
                refine sA (n := 19) (S := fun w' => w'.cell? (ad181.add ((ji9)).toNat) = some (.int .i64 (rd x3_1 (ji9))) ∧ w'.cell? (ad180.add (((rd x3_1 (ji9))).toNat * 5)) = some (.int .i64 ((rd_T25 l0 (rd x3_1 (ji9))).f0)) ∧ w'.cell? ⟨(ad180.add (((rd x3_1 (ji9))).toNat * 5)).block, (ad180.add (((rd x3_1 (ji9))).toNat * 5)).off + 1, none⟩ = some (.int .i64 ((rd_T25 l0 (rd x3_1 (ji9))).f1)) ∧ w'.cell? ⟨(ad180.add (((rd x3_1 (ji9))).toNat * 5)).block, (ad180.add (((rd x3_1 (ji9))).toNat * 5)).off + 2, none⟩ = some (.int .i64 ((rd_T25 l0 (rd x3_1 (ji9))).f2)) ∧ w'.cell? ⟨(ad180.add (((rd x3_1 (ji9))).toNat * 5)).block, (ad180.add (((rd x3_1 (ji9))).toNat * 5)).off + 3, none⟩ = some (.int .i64 ((rd_T25 l0 (rd x3_1 (ji9))).f3)) ∧ w'.cell? ⟨(ad180.add (((rd x3_1 (ji9))).toNat * 5)).block, (ad180.add (((rd x3_1 (ji9))).toNat * 5)).off + 4, none⟩ = some (.int .i64 ((rd_T25 l0 (rd x3_1 (ji9))).f4)) ∧ w'.cell? (ad180.add ((x4_1).toNat * 5)) = some (.int .i64 ((rd_T25 l0 x4_1).f0)) ∧ w'.cell? ⟨(ad180.add ((x4_1).toNat * 5)).block, (ad180.add ((x4_1).toNat * 5)).off + 1, none⟩ = some (.int .i64 ((rd_T25 l0 x4_1).f1)) ∧ w'.cell? ⟨(ad180.add ((x4_1).toNat * 5)).block, (ad180.add ((x4_1).toNat * 5)).off + 2, none⟩ = some (.int .i64 ((rd_T25 l0 x4_1).f2)) ∧ w'.cell? ⟨(ad180.add ((x4_1).toNat * 5)).block, (ad180.add ((x4_1).toNat * 5)).off + 3, none⟩ = some (.int .i64 ((rd_T25 l0 x4_1).f3)) ∧ w'.cell? ⟨(ad180.add ((x4_1).toNat * 5)).block, (ad180.add ((x4_1).toNat * 5)).off + 4, none⟩ = some (.int .i64 ((rd_T25 l0 x4_1).f4))) (ds := []) spec_l18Rank.tab7 spec_l18Rank.bits7 #[false, false, false, false, false, false, false, false, false, false, false, false, false, false, false, false, false, false, false] ⟨hx181_0, (bX HB hw182_0), (bX HB hw182_1), (bX HB hw182_2), (bX HB hw182_3), (bX HB hw182_4), (bX HB hw184_0), (bX HB hw184_1), (bX HB hw184_2), (bX HB hw184_3), (bX HB hw184_4)⟩ fun hHeld HT_ HW_ => ?_
                generalize wr.drew = w23 at HO_3 HB hx181_0 hx182_0 hx182_1 hx182_2 hx182_3 hx182_4 hx184_0 hx184_1 hx184_2 hx184_3 hx184_4 hHeld ⊢
                refine pA 0 21 HT_ ?_
                refine pA 1 22 HT_ ?_
                refine pA 2 23 HT_ ?_
                refine pA 3 24 HT_ ?_
                refine pA 4 25 HT_ ?_
                refine pA 5 26 HT_ ?_
                refine pA 6 27 HT_ ?_
                refine pA 7 28 HT_ ?_
                refine pA 12 33 HT_ ?_
                refine pA 13 34 HT_ ?_
                refine pA 14 35 HT_ ?_
                refine tA 8 29 HT_ HW_ hHeld ?_
                refine pA 9 30 HT_ ?_
                refine tA 10 31 HT_ HW_ hHeld ?_
                refine tA 15 36 HT_ HW_ hHeld ?_
                refine oA 11 (some 32) HT_ fun K hK => ?_
                refine goes_ Try.func65 (by kernel_rfl) rfl #[.agg #[.int .i64 ((rd_T25 l0 (rd x3_1 (ji9))).f0), .int .i64 ((rd_T25 l0 (rd x3_1 (ji9))).f1), .int .i64 ((rd_T25 l0 (rd x3_1 (ji9))).f2), .int .i64 ((rd_T25 l0 (rd x3_1 (ji9))).f3), .int .i64 ((rd_T25 l0 (rd x3_1 (ji9))).f4)]] (by rfl) rfl rfl (by (try simp only [List.map_toArray, List.map_cons, List.map_nil]); first | done | (simp only [hji9]; rfl) | rfl | (simp only [List.length_drop, List.length_take]; rfl)) ?_
                with_reducible refine (spec_l18Worth.calls ((rd_T25 l0 (rd x3_1 (ji9))).f0) ((rd_T25 l0 (rd x3_1 (ji9))).f1) ((rd_T25 l0 (rd x3_1 (ji9))).f2) ((rd_T25 l0 (rd x3_1 (ji9))).f3) ((rd_T25 l0 (rd x3_1 (ji9))).f4) t183 _ A14.out).mono ?_
                rintro e w24 ⟨rfl, hb⟩
                have HS0_ := (hb.cell (World.block_lt_of_cell? _ _ (hHeld.1))).trans (hHeld.1)
                refine ⟨_, rfl, ?_⟩
                replace HO_3 := uR HO_3 hb
                replace HB := uB HB hb
                (try clear hb)
                (try clear hk)
                refine hK.out _ _ ⟨HS0_, (bX HB hw182_0), (bX HB hw182_1), (bX HB hw182_2), (bX HB hw182_3), (bX HB hw182_4), (bX HB hw184_0), (bX HB hw184_1), (bX HB hw184_2), (bX HB hw184_3), (bX HB hw184_4)⟩ (fun hHeld => ?_)
                clear hK K
                refine nA ?_ (some 32)
                refine oA 16 (some 37) HT_ fun K hK => ?_
                refine goes_ Try.func65 (by kernel_rfl) rfl #[.agg #[.int .i64 ((rd_T25 l0 x4_1).f0), .int .i64 ((rd_T25 l0 x4_1).f1), .int .i64 ((rd_T25 l0 x4_1).f2), .int .i64 ((rd_T25 l0 x4_1).f3), .int .i64 ((rd_T25 l0 x4_1).f4)]] (by rfl) rfl rfl argsB ?_
                with_reducible refine (spec_l18Worth.calls ((rd_T25 l0 x4_1).f0) ((rd_T25 l0 x4_1).f1) ((rd_T25 l0 x4_1).f2) ((rd_T25 l0 x4_1).f3) ((rd_T25 l0 x4_1).f4) t185 _ A17.out).mono ?_
                rintro e w25 ⟨rfl, hb⟩
                have HS0_ := (hb.cell (World.block_lt_of_cell? _ _ (hHeld.1))).trans (hHeld.1)
                refine ⟨_, rfl, ?_⟩
                replace HO_3 := uR HO_3 hb
                replace HB := uB HB hb
                (try clear hb)
                (try clear hk)
                refine hK.out _ _ ⟨HS0_, (bX HB hw182_0), (bX HB hw182_1), (bX HB hw182_2), (bX HB hw182_3), (bX HB hw182_4), (bX HB hw184_0), (bX HB hw184_1), (bX HB hw184_2), (bX HB hw184_3), (bX HB hw184_4)⟩ (fun hHeld => ?_)
                clear hK K
                refine nA ?_ (some 37)
                refine pA 17 38 HT_ ?_
                refine pA 18 39 HT_ ?_
                refine done_ (done_of HT_.out (by kernel_rfl)) ?_
                try go_wp2
                refine spec_xIns.region _ _ x3_1 x4_1 x5_2 t186 _ ?side1 ?side2 A22.out (fun _ _ _ _ _ h_ => h_) ?_
                case side1 => repeat (first | exact (Kd.R_reads' HO_3.out).2.2 | (with_reducible refine Kd.C_alloc ?_ _) | (with_reducible refine Kd.C_drewN ?_ _) | (with_reducible refine Kd.C_drew ?_))
                case side2 => exact (Kd.R_reads' HO_3.out).2.1
                intro y42_ y43_ y44_ y45_ y46_ y47_ y48_ y49_ y50_ y51_ y52_ y53_ v187 w26 ho0 hb
                (have HO188 := Aside0.mk (Kd.R_lower (Kd.R_new' ho0 (Kd.R_lt (upR HO_3.out))) (below_size (bW HB))); replace HO_3 := Aside0.mk (Kd.R_elder' (upR HO_3.out) (Kd.R_base ho0) hb); replace HB := uB HB hb; (try clear hb); (try clear hk); (try clear ho0))
                try go_wp2
                go_roundg k2
                case measure => have := HK1.out; have := HK2.out; omega
                case rel => exact ⟨(t186), (wrap64 (x4_1 + 1)), rB, H', ⟨by have := HK1.out; have := HK2.out; omega⟩, ⟨by (with_reducible repeat (first | apply Kd.R_alloc | apply Kd.R_drewN | apply Kd.R_drew)); exact Kd.R_mono HO188.out (fun _ hk => trivial)⟩, (aB HB)⟩
              ·rw [if_neg c16] at H
               exact absurd H (by simp)
             ·rw [if_neg c15] at H
              exact absurd H (by simp)
            ·rw [if_neg c13] at H
             exact absurd H (by simp)
           ·rw [if_neg c12] at H
            exact absurd H (by simp)
          ·rw [if_neg c11] at H
           exact absurd H (by simp)
         ·rw [if_neg c10] at H
          exact absurd H (by simp)
        ·replace H := bA H
         obtain ⟨t189, A27, H⟩ := H
         have H' := Aside0.mk H
         clear H
         try go_wp2
         replace HO_3 := Aside0.mk (Kd.R_drew HO_3.out)
         replace HB := Aside0.mk (below_drew1 HB.out)
         refine start_ (n := 19) (S := fun w' => True) (ds := []) #[false, false, false, false, false, false, false, false, false, false, false, false, false, false, false, false, false, false, false] (by kernel_rfl) rfl rfl trivial (fun hHeld => ?_); refine with_tabW spec_l18Rank.tab7 spec_l18Rank.bits7 (fun HT_ HW_ => ?_)
         generalize wr.drew = w28 at HO_3 HB hHeld ⊢
         refine pA 0 21 HT_ ?_
         refine pA 1 22 HT_ ?_
         refine pA 2 23 HT_ ?_
         refine pU 3 24 HT_ ?_
         refine pU 4 25 HT_ ?_
         refine pU 5 26 HT_ ?_
         refine pU 6 27 HT_ ?_
         refine pU 7 28 HT_ ?_
         refine pU 8 29 HT_ ?_
         refine pU 9 30 HT_ ?_
         refine pU 10 31 HT_ ?_
         refine pU 11 32 HT_ ?_
         refine pU 12 33 HT_ ?_
         refine pU 13 34 HT_ ?_
         refine pU 14 35 HT_ ?_
         refine pU 15 36 HT_ ?_
         refine pU 16 37 HT_ ?_
         refine pU 17 38 HT_ ?_
         refine pA 18 39 HT_ ?_
         refine done_ (done_of HT_.out (by kernel_rfl)) ?_
         try go_wp2
         refine spec_xIns.region _ _ x3_1 x4_1 x5_2 t189 _ ?side1 ?side2 A27.out (fun _ _ _ _ _ h_ => h_) ?_
         case side1 => repeat (first | exact (Kd.R_reads' HO_3.out).2.2 | (with_reducible refine Kd.C_alloc ?_ _) | (with_reducible refine Kd.C_drewN ?_ _) | (with_reducible refine Kd.C_drew ?_))
         case side2 => exact (Kd.R_reads' HO_3.out).2.1
         intro y42_ y43_ y44_ y45_ y46_ y47_ y48_ y49_ y50_ y51_ y52_ y53_ v190 w29 ho0 hb
         (have HO191 := Aside0.mk (Kd.R_lower (Kd.R_new' ho0 (Kd.R_lt (upR HO_3.out))) (below_size (bW HB))); replace HO_3 := Aside0.mk (Kd.R_elder' (upR HO_3.out) (Kd.R_base ho0) hb); replace HB := uB HB hb; (try clear hb); (try clear hk); (try clear ho0))
         try go_wp2
         go_roundg k2
         case measure => have := HK1.out; have := HK2.out; omega
         case rel => exact ⟨(t189), (wrap64 (x4_1 + 1)), rB, H', ⟨by have := HK1.out; have := HK2.out; omega⟩, ⟨by (with_reducible repeat (first | apply Kd.R_alloc | apply Kd.R_drewN | apply Kd.R_drew)); exact Kd.R_mono HO191.out (fun _ hk => trivial)⟩, (aB HB)⟩
     ·have H' := Aside0.mk H
      clear H
      have p180 : 0 ≤ (x4_1 : Int) := of_decide_eq_true asmB
      have q180 : x4_1 < (l0.length : Int) := of_decide_eq_true asmB
      obtain ⟨ad180, e180, hx180_0, hx180_1, hx180_2, hx180_3, hx180_4⟩ := at_T25 HR0.out x4_1 p180 q180
      cases e180
      replace hx180_0 := bx HB.out hx180_0
      replace hx180_1 := bx HB.out hx180_1
      replace hx180_2 := bx HB.out hx180_2
      replace hx180_3 := bx HB.out hx180_3
      replace hx180_4 := bx HB.out hx180_4
      replace p180 := eq_true p180
      replace q180 := eq_true q180
      go_wp2
      go_roundg k1
      case measure => have := HK1.out; omega
      case rel => exact ⟨(x3_1), (wrap64 (x4_1 + 1)), rB, H', ⟨by have := HK1.out; omega⟩, ⟨upR HO_3.out⟩, (aB HB)⟩
    ·rw [if_neg c5] at H
     exact absurd H (by simp)
   ·obtain rfl := Option.some.inj H
    go_wp2
    go_ret
    exact ⟨_, eB, upR HO_3.out, (bW HB)⟩

end Go.Proofs.Ytldgjibimolcdaa.QFnLeadTrips
