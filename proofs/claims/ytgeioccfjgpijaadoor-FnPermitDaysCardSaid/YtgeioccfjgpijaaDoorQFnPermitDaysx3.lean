/- Contracts of Go functions that FnPermitDays reaches: the call computes what the plain function says. No condition. -/
import Derived.Test.YtgeioccfjgpijaaDoorQFnPermitDaysx0
import Derived.Test.YtgeioccfjgpijaaDoorQFnPermitDaysx2
namespace Go.Proofs.YtgeioccfjgpijaaDoor.QFnPermitDays
open Go.RowKit Go.Proofs.YtgeioccfjgpijaaDoorW.PrintWords Go.Proofs.YtgeioccfjgpijaaDoorW.PrintLast Go.Proofs.YtgeioccfjgpijaaDoorW.PrintMore
attribute [local go_sem] max2_int min2_int max_two min_two max_three min_three max_four min_four   -- for this text's walks alone
set_option linter.unusedVariables false
set_option linter.unusedSimpArgs false

/-! ### impl_ArePermits: function 21 -/
def impl_ArePermits.l0 : Nat → List (S26) → List (S26) → Int → Int → Option (Bool)
 | 0, _, _, _, _ => none
 | k + 1, x0, x5, x6, x7 => if x7 < x6 then (if 0 ≤ x7 then (if x7 < (x5.length : Int) then ((impl_IsPermit.f ((rd_T26 x5 x7).f0) ((rd_T26 x5 x7).f1) ((rd_T26 x5 x7).f2) ((rd_T26 x5 x7).f3) ((rd_T26 x5 x7).f4) ((rd_T26 x5 x7).f5)).bind fun t128 => (if t128 = true then (if x7 > 0 then (if 0 ≤ (wrap64 (x7 - 1)) then (if (wrap64 (x7 - 1)) < (x0.length : Int) then (if ((rd_T26 x0 (wrap64 (x7 - 1))).f0) ≥ ((rd_T26 x5 x7).f0) then (some false) else (if x7 ≤ (x0.length : Int) then ((impl_xConflicts.f (x0.take (x7 : Int).toNat) ((rd_T26 x5 x7).f0) ((rd_T26 x5 x7).f1) ((rd_T26 x5 x7).f2) ((rd_T26 x5 x7).f3) ((rd_T26 x5 x7).f4) ((rd_T26 x5 x7).f5)).bind fun t134 => (if t134 = true then (some false) else (impl_ArePermits.l0 k x0 x5 x6 (wrap64 (x7 + 1))))) else (none))) else (none)) else (none)) else (if x7 ≤ (x0.length : Int) then ((impl_xConflicts.f (x0.take (x7 : Int).toNat) ((rd_T26 x5 x7).f0) ((rd_T26 x5 x7).f1) ((rd_T26 x5 x7).f2) ((rd_T26 x5 x7).f3) ((rd_T26 x5 x7).f4) ((rd_T26 x5 x7).f5)).bind fun t139 => (if t139 = true then (some false) else (impl_ArePermits.l0 k x0 x5 x6 (wrap64 (x7 + 1))))) else (none))) else (some false))) else (none)) else (none)) else (some (decide ((x0.length : Int) ≤ 10)))
def impl_ArePermits.f (k : Nat) (l0 : List (S26)) : Option (Bool) := impl_ArePermits.l0 k l0 l0 (l0.length : Int) 0
theorem impl_ArePermits.mono_l : ∀ k, (∀ y0 y1 y2 y3, LeO (impl_ArePermits.l0 k y0 y1 y2 y3) (impl_ArePermits.l0 (k + 1) y0 y1 y2 y3))
 | 0 => fun _ _ _ _ r h => by simp [impl_ArePermits.l0] at h
 | k + 1 => by
  have ih0 := impl_ArePermits.mono_l k
  ·intro y0 y1 y2 y3
   unfold impl_ArePermits.l0
   repeat' with_reducible first | apply ih0 | exact LeO.refl _ | exact LeO.none _ | refine LeO.ite ?_ ?_ | refine LeO.bind ?_ (fun _ => ?_)
theorem impl_ArePermits.mono : ∀ a0 k, LeO (impl_ArePermits.f k a0) (impl_ArePermits.f (k + 1) a0) := by
 intro a0 k
 have ih0 := impl_ArePermits.mono_l k
 unfold impl_ArePermits.f
 repeat' with_reducible first | apply ih0 | exact LeO.refl _ | exact LeO.none _ | refine LeO.ite ?_ ?_ | refine LeO.bind ?_ (fun _ => ?_)
def impl_ArePermits.T4 : Bool × List (List Nat × List Nat) := (true, [([], []), ([0], [0]), ([1], [1]), ([2, 1], [2]), ([3], [3]), ([4, 3], [3, 4]), ([5, 3, 3], [3, 5]), ([6], [6]), ([6], [6]), ([8, 6], [6, 8]), ([7, 9, 6], [6, 7, 9]), ([10, 6], [6, 10]), ([11, 6], [6, 11]), ([6], [6]), ([13, 6], [6, 13]), ([12, 14, 6], [6, 12, 14]), ([6, 15, 3], [3, 6, 15]), ([3, 16], [3, 16]), ([17, 6], [17]), ([18], [18]), ([18], [18]), ([19, 20, 18], [18, 19, 20]), ([18], [18]), ([21, 22, 18, 18], [18, 21, 22]), ([18, 23], [18, 23])])
def impl_ArePermits.B4 : List Nat := [0, 1, 3, 7, 15, 31, 63, 127, 127, 383, 1023, 2047, 4095, 127, 8319, 32767, 65535, 131071, 262143, 524287, 524287, 2097151, 524287, 8388607, 16777215]
theorem impl_ArePermits.tab4 : rtab .any (opsOf Tryd.f21 4) = impl_ArePermits.T4 := by kernel_rfl
theorem impl_ArePermits.bits4 : waitsOk impl_ArePermits.T4.2 impl_ArePermits.B4 = true := by kernel_rfl
set_option maxHeartbeats 8000000 in
set_option maxRecDepth 100000 in
theorem impl_ArePermits.calls (k : Nat) (A0 : Option Addr) (c0 : Nat) (l0 : List (S26)) (r : Bool) (w : World) (hr0 : Kd.C k26 w A0 l0.length l0) (hc0 : l0.length ≤ c0) (h : impl_ArePermits.f k l0 = some r) :
  Calls Tryd.prog 21 #[.slice A0 l0.length c0] w fun e w' => e = .returned (.bool r) ∧ Below w.heap.size w w' := by
 have hu26 := Tryd.underlying26
 have HR0 := Aside0.mk hr0
 have HC0 := Aside0.mk hc0
 clear hr0 hc0
 have HB := Aside0.mk (Below.refl w.heap.size w)
 have H : (impl_ArePermits.l0 k l0 l0 (l0.length : Int) 0) = some r := h
 clear h
 have H' := Aside0.mk H
 clear H
 go_enter Tryd.func21, Tryd.ntmps21
 go_wp2
 go_loopg [7] k (fun kq v7 w' => ∃ (x7_1 : Int), v7 = .int .i64 x7_1 ∧ Aside0 (impl_ArePermits.l0 kq l0 l0 (l0.length : Int) x7_1 = some r) ∧ Aside0 (kq ≤ k) ∧ Aside0 (Below w.heap.size w w'))
 case atStart => exact ⟨(0), rB, H', ⟨Nat.le_refl _⟩, (aB HB)⟩
 case round =>
  clear H'
  obtain ⟨x7_1, rfl, HA, HK1, HB⟩ := hrel
  cases gk with
  | zero => exact absurd HA.out (by simp [impl_ArePermits.l0])
  | succ k1 =>
   have H := HA.out
   clear HA
   simp only [impl_ArePermits.l0] at H
   replace H := ifD H
   rcases H with ⟨H, -, c2b0⟩ | ⟨H, -, c2b0⟩
   ·by_cases c3 : 0 ≤ x7_1
    ·rw [if_pos c3] at H
     have c3b0 : decide (0 ≤ x7_1) = true := decide_eq_true c3
     clear c3
     by_cases c4 : x7_1 < (l0.length : Int)
     ·rw [if_pos c4] at H
      have c4b0 : decide (x7_1 < (l0.length : Int)) = true := decide_eq_true c4
      clear c4
      replace H := bA H
      obtain ⟨t128, A5, H⟩ := H
      rcases Bool.eq_false_or_eq_true t128 with rfl | rfl
      ·replace H := iT rfl H
       replace H := ifD H
       rcases H with ⟨H, -, c7b0⟩ | ⟨H, -, c7b0⟩
       ·obtain ⟨ji8, hji8⟩ : ∃ j_ : Int, (wrap64 (x7_1 - 1)) = j_ := ⟨_, rfl⟩
        replace H : (if 0 ≤ (ji8) then (if (ji8) < (l0.length : Int) then (if ((rd_T26 l0 (ji8)).f0) ≥ ((rd_T26 l0 x7_1).f0) then (some false) else (if x7_1 ≤ (l0.length : Int) then ((impl_xConflicts.f (l0.take (x7_1 : Int).toNat) ((rd_T26 l0 x7_1).f0) ((rd_T26 l0 x7_1).f1) ((rd_T26 l0 x7_1).f2) ((rd_T26 l0 x7_1).f3) ((rd_T26 l0 x7_1).f4) ((rd_T26 l0 x7_1).f5)).bind fun t134 => (if t134 = true then (some false) else (impl_ArePermits.l0 k1 l0 l0 (l0.length : Int) (wrap64 (x7_1 + 1))))) else (none))) else (none)) else (none)) = some r := by first | (rw [hji8] at H; exact H) | (simp only [hji8] at H ⊢; exact H)
        (try rw [hji8] at A5)
        have hji8w : (IntKind.i64.wrap (x7_1 - 1)) = ji8 := (i64_w _).trans hji8
        by_cases c9 : 0 ≤ (ji8)
        ·rw [if_pos c9] at H
         have c9b0 : decide (0 ≤ (ji8)) = true := decide_eq_true c9
         clear c9
         by_cases c10 : (ji8) < (l0.length : Int)
         ·rw [if_pos c10] at H
          have c10b0 : decide ((ji8) < (l0.length : Int)) = true := decide_eq_true c10
          clear c10
          replace H := ifD H
          rcases H with ⟨H, -, c11b0⟩ | ⟨H, -, c11b0⟩
          ·obtain rfl := Option.some.inj H
           have p126 : 0 ≤ (x7_1 : Int) := of_decide_eq_true asmB
           have q126 : x7_1 < (l0.length : Int) := of_decide_eq_true asmB
           obtain ⟨ad126, e126, hx126_0, hx126_1, hx126_2, hx126_3, hx126_4, hx126_5⟩ := at_T26 HR0.out x7_1 p126 q126
           cases e126
           replace hx126_0 := bx HB.out hx126_0
           replace hx126_1 := bx HB.out hx126_1
           replace hx126_2 := bx HB.out hx126_2
           replace hx126_3 := bx HB.out hx126_3
           replace hx126_4 := bx HB.out hx126_4
           replace hx126_5 := bx HB.out hx126_5
           replace p126 := eq_true p126
           replace q126 := eq_true q126
           try go_wp2_with (first | ((with_reducible refine gD 4 ?_); refine bxE 4 26 #[.int .i64 0, .string (⟨#[]⟩ : ByteArray), .int .i64 0, .int .i64 0, .int .i64 0, .int .i64 0] fun gb127 w12 hg hbox hb => ?_; have BK127 := Aside0.mk hbox; have GE127 := gB HB hg; replace HB := uB HB hb; clear hb hbox hg; have hcz13_0 := ci BK127.out 0 0 rfl; have hcz13_1 : w12.cell? ⟨gb127, 1, none⟩ = some (.string (⟨#[]⟩ : ByteArray)) := cb BK127 1; have hcz13_2 := ci BK127.out 2 0 rfl; have hcz13_3 := ci BK127.out 3 0 rfl; have hcz13_4 := ci BK127.out 4 0 rfl; have hcz13_5 := ci BK127.out 5 0 rfl; have hfz13_0 := fun j_ : Nat => blk_frozen BK127.out j_))
           have n0_ : Aside0 (((((((w12.setCell ⟨gb127, 0, none⟩ (.int .i64 ((rd_T26 l0 x7_1).f0))).setCell ⟨gb127, 1, none⟩ (.string ((rd_T26 l0 x7_1).f1))).setCell ⟨gb127, 2, none⟩ (.int .i64 ((rd_T26 l0 x7_1).f2))).setCell ⟨gb127, 3, none⟩ (.int .i64 ((rd_T26 l0 x7_1).f3))).setCell ⟨gb127, 4, none⟩ (.int .i64 ((rd_T26 l0 x7_1).f4))).setCell ⟨gb127, 5, none⟩ (.int .i64 ((rd_T26 l0 x7_1).f5))).heap[gb127]? = some (.cells #[.int .i64 ((rd_T26 l0 x7_1).f0), .string ((rd_T26 l0 x7_1).f1), .int .i64 ((rd_T26 l0 x7_1).f2), .int .i64 ((rd_T26 l0 x7_1).f3), .int .i64 ((rd_T26 l0 x7_1).f4), .int .i64 ((rd_T26 l0 x7_1).f5)] 26 (0, 0))) := ⟨by exact pW BK127⟩
           have n1_ : Aside0 (Below w.heap.size w ((((((w12.setCell ⟨gb127, 0, none⟩ (.int .i64 ((rd_T26 l0 x7_1).f0))).setCell ⟨gb127, 1, none⟩ (.string ((rd_T26 l0 x7_1).f1))).setCell ⟨gb127, 2, none⟩ (.int .i64 ((rd_T26 l0 x7_1).f2))).setCell ⟨gb127, 3, none⟩ (.int .i64 ((rd_T26 l0 x7_1).f3))).setCell ⟨gb127, 4, none⟩ (.int .i64 ((rd_T26 l0 x7_1).f4))).setCell ⟨gb127, 5, none⟩ (.int .i64 ((rd_T26 l0 x7_1).f5)))) := (aB HB)
           (try clear BK127)
           (try clear HB)
           generalize ((((((w12.setCell ⟨gb127, 0, none⟩ (.int .i64 ((rd_T26 l0 x7_1).f0))).setCell ⟨gb127, 1, none⟩ (.string ((rd_T26 l0 x7_1).f1))).setCell ⟨gb127, 2, none⟩ (.int .i64 ((rd_T26 l0 x7_1).f2))).setCell ⟨gb127, 3, none⟩ (.int .i64 ((rd_T26 l0 x7_1).f3))).setCell ⟨gb127, 4, none⟩ (.int .i64 ((rd_T26 l0 x7_1).f4))).setCell ⟨gb127, 5, none⟩ (.int .i64 ((rd_T26 l0 x7_1).f5))) = w14 at n0_ n1_ ⊢
           have BK127 := n0_
           have HB := n1_
           clear n0_ n1_
           replace BK127 := dK BK127
           replace HB := Aside0.mk (below_drew1 HB.out)
           have p129 : 0 ≤ ((ji8) : Int) := of_decide_eq_true asmB
           have q129 : (ji8) < (l0.length : Int) := of_decide_eq_true asmB
           obtain ⟨ad129, e129, hx129_0, hx129_1, hx129_2, hx129_3, hx129_4, hx129_5⟩ := at_T26 HR0.out (ji8) p129 q129
           have hw129_5 := hx129_5
           have hw129_4 := hx129_4
           have hw129_3 := hx129_3
           have hw129_2 := hx129_2
           have hw129_1 := hx129_1
           have hw129_0 := hx129_0
           obtain rfl : ad126 = ad129 := (by injection e129)
           replace hx129_0 := bx HB.out hx129_0
           replace hx129_1 := bx HB.out hx129_1
           replace hx129_2 := bx HB.out hx129_2
           replace hx129_3 := bx HB.out hx129_3
           replace hx129_4 := bx HB.out hx129_4
           replace hx129_5 := bx HB.out hx129_5
           replace p129 := eq_true p129
           replace q129 := eq_true q129
           refine sA (n := 25) (S := fun w' => w'.cell? ⟨gb127, 0, none⟩ = some (.int .i64 ((rd_T26 l0 x7_1).f0)) ∧ w'.cell? ⟨gb127, 1, none⟩ = some (.string ((rd_T26 l0 x7_1).f1)) ∧ w'.cell? ⟨gb127, 2, none⟩ = some (.int .i64 ((rd_T26 l0 x7_1).f2)) ∧ w'.cell? ⟨gb127, 3, none⟩ = some (.int .i64 ((rd_T26 l0 x7_1).f3)) ∧ w'.cell? ⟨gb127, 4, none⟩ = some (.int .i64 ((rd_T26 l0 x7_1).f4)) ∧ w'.cell? ⟨gb127, 5, none⟩ = some (.int .i64 ((rd_T26 l0 x7_1).f5)) ∧ w'.cell? (ad126.add (((ji8)).toNat * 6)) = some (.int .i64 ((rd_T26 l0 (ji8)).f0)) ∧ w'.cell? ⟨(ad126.add (((ji8)).toNat * 6)).block, (ad126.add (((ji8)).toNat * 6)).off + 1, none⟩ = some (.string ((rd_T26 l0 (ji8)).f1)) ∧ w'.cell? ⟨(ad126.add (((ji8)).toNat * 6)).block, (ad126.add (((ji8)).toNat * 6)).off + 2, none⟩ = some (.int .i64 ((rd_T26 l0 (ji8)).f2)) ∧ w'.cell? ⟨(ad126.add (((ji8)).toNat * 6)).block, (ad126.add (((ji8)).toNat * 6)).off + 3, none⟩ = some (.int .i64 ((rd_T26 l0 (ji8)).f3)) ∧ w'.cell? ⟨(ad126.add (((ji8)).toNat * 6)).block, (ad126.add (((ji8)).toNat * 6)).off + 4, none⟩ = some (.int .i64 ((rd_T26 l0 (ji8)).f4)) ∧ w'.cell? ⟨(ad126.add (((ji8)).toNat * 6)).block, (ad126.add (((ji8)).toNat * 6)).off + 5, none⟩ = some (.int .i64 ((rd_T26 l0 (ji8)).f5))) (ds := []) impl_ArePermits.tab4 impl_ArePermits.bits4 #[false, false, false, false, false, false, false, false, false, false, false, false, false, false, false, false, false, false, false, false, false, false, false, false, false] ⟨cb BK127 0, cb BK127 1, cb BK127 2, cb BK127 3, cb BK127 4, cb BK127 5, (bX HB hw129_0), (bX HB hw129_1), (bX HB hw129_2), (bX HB hw129_3), (bX HB hw129_4), (bX HB hw129_5)⟩ fun hHeld HT_ HW_ => ?_
           generalize w14.drew = w15 at BK127 HB hx129_0 hx129_1 hx129_2 hx129_3 hx129_4 hx129_5 hHeld ⊢
           refine tA 0 12 HT_ HW_ hHeld ?_
           refine oA 1 (some 13) HT_ fun K hK => ?_
           refine rA Tryd.func17 (impl_IsPermit.calls ((rd_T26 l0 x7_1).f0) ((rd_T26 l0 x7_1).f1) ((rd_T26 l0 x7_1).f2) ((rd_T26 l0 x7_1).f3) ((rd_T26 l0 x7_1).f4) ((rd_T26 l0 x7_1).f5) true _ A5.out) ?_
           intro w16 hb
           replace BK127 := uK BK127 hb
           replace HB := uB HB hb
           (try clear hb)
           refine hK.out _ _ ⟨cb BK127 0, cb BK127 1, cb BK127 2, cb BK127 3, cb BK127 4, cb BK127 5, (bX HB hw129_0), (bX HB hw129_1), (bX HB hw129_2), (bX HB hw129_3), (bX HB hw129_4), (bX HB hw129_5)⟩ (fun hHeld => ?_)
           clear hK K
           refine nA ?_ (some 13)
           refine pA 2 14 HT_ ?_
           refine pA 3 15 HT_ ?_
           refine pA 4 16 HT_ ?_
           refine pA 5 17 HT_ ?_
           refine pA 6 18 HT_ ?_
           refine pA 7 19 HT_ ?_
           refine pA 8 20 HT_ ?_
           refine pA 9 21 HT_ ?_
           refine pA 10 22 HT_ ?_
           refine pA 11 23 HT_ ?_
           refine pA 13 25 HT_ ?_
           refine tA 12 24 HT_ HW_ hHeld ?_
           refine tA 14 26 HT_ HW_ hHeld ?_
           refine pA 15 27 HT_ ?_
           refine pA 16 28 HT_ ?_
           refine pA 17 29 HT_ ?_
           refine pA 18 30 HT_ ?_
           refine pU 19 31 HT_ ?_
           refine pU 20 32 HT_ ?_
           refine pU 21 33 HT_ ?_
           refine pU 22 34 HT_ ?_
           refine pU 23 35 HT_ ?_
           refine pA 24 36 HT_ ?_
           refine done_ (done_of HT_.out (by kernel_rfl)) ?_
           try go_wp2
           go_ret
           exact ⟨by first | rfl | (simp [errW_none, errW_some] <;> rfl) | (simp only [← hji8]; first | rfl | (simp [errW_none, errW_some] <;> rfl)) | (simp [*, errW_none, errW_some] <;> rfl), (bW HB)⟩
          ·have c17b0 := eq_true (of_decide_eq_true asmB : 0 ≤ x7_1)
           by_cases c18 : x7_1 ≤ (l0.length : Int)
           ·rw [if_pos c18] at H
            have c18b0 := eq_true c18
            have c18b1 : decide (x7_1 ≤ (l0.length : Int)) = true := decide_eq_true c18
            clear c18
            obtain ⟨y130, hy130⟩ : ∃ y_ : List (S26), y_ = (l0.take (x7_1 : Int).toNat) := ⟨_, rfl⟩
            replace H : ((impl_xConflicts.f y130 ((rd_T26 l0 x7_1).f0) ((rd_T26 l0 x7_1).f1) ((rd_T26 l0 x7_1).f2) ((rd_T26 l0 x7_1).f3) ((rd_T26 l0 x7_1).f4) ((rd_T26 l0 x7_1).f5)).bind fun t134 => (if t134 = true then (some false) else (impl_ArePermits.l0 k1 l0 l0 (l0.length : Int) (wrap64 (x7_1 + 1))))) = some r := by first | (rw [hy130]; with_reducible exact H) | (have H2_ := (Option.bind_some _ _).symm.trans H; rw [hy130]; with_reducible exact H2_) | (have H2_ := (Option.bind_some _ _).symm.trans H; with_reducible exact H2_) | with_reducible exact H | (rw [hy130]; exact H) | exact H
            have Ny130 := Aside0.mk hy130
            clear hy130
            replace H := bA H
            obtain ⟨t134, A19, H⟩ := H
            rcases Bool.eq_false_or_eq_true t134 with rfl | rfl
            ·replace H := iT rfl H
             obtain rfl := Option.some.inj H
             have p126 : 0 ≤ (x7_1 : Int) := of_decide_eq_true asmB
             have q126 : x7_1 < (l0.length : Int) := of_decide_eq_true asmB
             obtain ⟨ad126, e126, hx126_0, hx126_1, hx126_2, hx126_3, hx126_4, hx126_5⟩ := at_T26 HR0.out x7_1 p126 q126
             cases e126
             replace hx126_0 := bx HB.out hx126_0
             replace hx126_1 := bx HB.out hx126_1
             replace hx126_2 := bx HB.out hx126_2
             replace hx126_3 := bx HB.out hx126_3
             replace hx126_4 := bx HB.out hx126_4
             replace hx126_5 := bx HB.out hx126_5
             replace p126 := eq_true p126
             replace q126 := eq_true q126
             try go_wp2_with (first | ((with_reducible refine gD 4 ?_); refine bxE 4 26 #[.int .i64 0, .string (⟨#[]⟩ : ByteArray), .int .i64 0, .int .i64 0, .int .i64 0, .int .i64 0] fun gb127 w21 hg hbox hb => ?_; have BK127 := Aside0.mk hbox; have GE127 := gB HB hg; replace HB := uB HB hb; clear hb hbox hg; have hcz22_0 := ci BK127.out 0 0 rfl; have hcz22_1 : w21.cell? ⟨gb127, 1, none⟩ = some (.string (⟨#[]⟩ : ByteArray)) := cb BK127 1; have hcz22_2 := ci BK127.out 2 0 rfl; have hcz22_3 := ci BK127.out 3 0 rfl; have hcz22_4 := ci BK127.out 4 0 rfl; have hcz22_5 := ci BK127.out 5 0 rfl; have hfz22_0 := fun j_ : Nat => blk_frozen BK127.out j_))
             have n0_ : Aside0 (((((((w21.setCell ⟨gb127, 0, none⟩ (.int .i64 ((rd_T26 l0 x7_1).f0))).setCell ⟨gb127, 1, none⟩ (.string ((rd_T26 l0 x7_1).f1))).setCell ⟨gb127, 2, none⟩ (.int .i64 ((rd_T26 l0 x7_1).f2))).setCell ⟨gb127, 3, none⟩ (.int .i64 ((rd_T26 l0 x7_1).f3))).setCell ⟨gb127, 4, none⟩ (.int .i64 ((rd_T26 l0 x7_1).f4))).setCell ⟨gb127, 5, none⟩ (.int .i64 ((rd_T26 l0 x7_1).f5))).heap[gb127]? = some (.cells #[.int .i64 ((rd_T26 l0 x7_1).f0), .string ((rd_T26 l0 x7_1).f1), .int .i64 ((rd_T26 l0 x7_1).f2), .int .i64 ((rd_T26 l0 x7_1).f3), .int .i64 ((rd_T26 l0 x7_1).f4), .int .i64 ((rd_T26 l0 x7_1).f5)] 26 (0, 0))) := ⟨by exact pW BK127⟩
             have n1_ : Aside0 (Below w.heap.size w ((((((w21.setCell ⟨gb127, 0, none⟩ (.int .i64 ((rd_T26 l0 x7_1).f0))).setCell ⟨gb127, 1, none⟩ (.string ((rd_T26 l0 x7_1).f1))).setCell ⟨gb127, 2, none⟩ (.int .i64 ((rd_T26 l0 x7_1).f2))).setCell ⟨gb127, 3, none⟩ (.int .i64 ((rd_T26 l0 x7_1).f3))).setCell ⟨gb127, 4, none⟩ (.int .i64 ((rd_T26 l0 x7_1).f4))).setCell ⟨gb127, 5, none⟩ (.int .i64 ((rd_T26 l0 x7_1).f5)))) := (aB HB)
             (try clear BK127)
             (try clear HB)
             generalize ((((((w21.setCell ⟨gb127, 0, none⟩ (.int .i64 ((rd_T26 l0 x7_1).f0))).setCell ⟨gb127, 1, none⟩ (.string ((rd_T26 l0 x7_1).f1))).setCell ⟨gb127, 2, none⟩ (.int .i64 ((rd_T26 l0 x7_1).f2))).setCell ⟨gb127, 3, none⟩ (.int .i64 ((rd_T26 l0 x7_1).f3))).setCell ⟨gb127, 4, none⟩ (.int .i64 ((rd_T26 l0 x7_1).f4))).setCell ⟨gb127, 5, none⟩ (.int .i64 ((rd_T26 l0 x7_1).f5))) = w23 at n0_ n1_ ⊢
             have BK127 := n0_
             have HB := n1_
             clear n0_ n1_
             replace BK127 := dK BK127
             replace HB := Aside0.mk (below_drew1 HB.out)
             have p129 : 0 ≤ ((ji8) : Int) := of_decide_eq_true asmB
             have q129 : (ji8) < (l0.length : Int) := of_decide_eq_true asmB
             obtain ⟨ad129, e129, hx129_0, hx129_1, hx129_2, hx129_3, hx129_4, hx129_5⟩ := at_T26 HR0.out (ji8) p129 q129
             have hw129_5 := hx129_5
             have hw129_4 := hx129_4
             have hw129_3 := hx129_3
             have hw129_2 := hx129_2
             have hw129_1 := hx129_1
             have hw129_0 := hx129_0
             obtain rfl : ad126 = ad129 := (by injection e129)
             replace hx129_0 := bx HB.out hx129_0
             replace hx129_1 := bx HB.out hx129_1
             replace hx129_2 := bx HB.out hx129_2
             replace hx129_3 := bx HB.out hx129_3
             replace hx129_4 := bx HB.out hx129_4
             replace hx129_5 := bx HB.out hx129_5
             replace p129 := eq_true p129
             replace q129 := eq_true q129
             refine sA (n := 25) (S := fun w' => w'.cell? ⟨gb127, 0, none⟩ = some (.int .i64 ((rd_T26 l0 x7_1).f0)) ∧ w'.cell? ⟨gb127, 1, none⟩ = some (.string ((rd_T26 l0 x7_1).f1)) ∧ w'.cell? ⟨gb127, 2, none⟩ = some (.int .i64 ((rd_T26 l0 x7_1).f2)) ∧ w'.cell? ⟨gb127, 3, none⟩ = some (.int .i64 ((rd_T26 l0 x7_1).f3)) ∧ w'.cell? ⟨gb127, 4, none⟩ = some (.int .i64 ((rd_T26 l0 x7_1).f4)) ∧ w'.cell? ⟨gb127, 5, none⟩ = some (.int .i64 ((rd_T26 l0 x7_1).f5)) ∧ w'.cell? (ad126.add (((ji8)).toNat * 6)) = some (.int .i64 ((rd_T26 l0 (ji8)).f0)) ∧ w'.cell? ⟨(ad126.add (((ji8)).toNat * 6)).block, (ad126.add (((ji8)).toNat * 6)).off + 1, none⟩ = some (.string ((rd_T26 l0 (ji8)).f1)) ∧ w'.cell? ⟨(ad126.add (((ji8)).toNat * 6)).block, (ad126.add (((ji8)).toNat * 6)).off + 2, none⟩ = some (.int .i64 ((rd_T26 l0 (ji8)).f2)) ∧ w'.cell? ⟨(ad126.add (((ji8)).toNat * 6)).block, (ad126.add (((ji8)).toNat * 6)).off + 3, none⟩ = some (.int .i64 ((rd_T26 l0 (ji8)).f3)) ∧ w'.cell? ⟨(ad126.add (((ji8)).toNat * 6)).block, (ad126.add (((ji8)).toNat * 6)).off + 4, none⟩ = some (.int .i64 ((rd_T26 l0 (ji8)).f4)) ∧ w'.cell? ⟨(ad126.add (((ji8)).toNat * 6)).block, (ad126.add (((ji8)).toNat * 6)).off + 5, none⟩ = some (.int .i64 ((rd_T26 l0 (ji8)).f5))) (ds := []) impl_ArePermits.tab4 impl_ArePermits.bits4 #[false, false, false, false, false, false, false, false, false, false, false, false, false, false, false, false, false, false, false, false, false, false, false, false, false] ⟨cb BK127 0, cb BK127 1, cb BK127 2, cb BK127 3, cb BK127 4, cb BK127 5, (bX HB hw129_0), (bX HB hw129_1), (bX HB hw129_2), (bX HB hw129_3), (bX HB hw129_4), (bX HB hw129_5)⟩ fun hHeld HT_ HW_ => ?_
             generalize w23.drew = w24 at BK127 HB hx129_0 hx129_1 hx129_2 hx129_3 hx129_4 hx129_5 hHeld ⊢
             refine tA 0 12 HT_ HW_ hHeld ?_
             refine oA 1 (some 13) HT_ fun K hK => ?_
             refine rA Tryd.func17 (impl_IsPermit.calls ((rd_T26 l0 x7_1).f0) ((rd_T26 l0 x7_1).f1) ((rd_T26 l0 x7_1).f2) ((rd_T26 l0 x7_1).f3) ((rd_T26 l0 x7_1).f4) ((rd_T26 l0 x7_1).f5) true _ A5.out) ?_
             intro w25 hb
             replace BK127 := uK BK127 hb
             replace HB := uB HB hb
             (try clear hb)
             have q26 : (x7_1 : Int) ≤ ((l0.length : Int) : Int) := of_decide_eq_true asmB
             obtain ⟨i026, hi026, _, hsz26, _⟩ := info_parts info26
             have hroom26 : l0.length ≤ c0 := HC0.out
             have hC26 : Kd.C k26 _ (some ad126) l0.length l0 := HR0.out
             have hcut26 := cut_to (P := Tryd.prog) 32 26 .i64 Tryd.underlying32 hi026 (some ad126) l0.length c0 x7_1 (of_decide_eq_true asmB) q26 hroom26
             have hr26 := Kd.C_take (m := (x7_1 : Int).toNat) hC26 (by omega)
             have hy26 : y130.length = (x7_1 : Int).toNat := (by rw [Ny130.out, List.length_take]; omega)
             rw [← Ny130.out] at hr26
             rw [← hy26] at hcut26
             have HR133 := Aside0.mk hr26
             have HC133 := Aside0.mk (show y130.length ≤ c0 from by omega)
             clear hr26 hC26 hroom26 hi026 hsz26
             have KY26 := Aside0.mk hy26
             clear hy26
             replace q26 := eq_true q26
             refine hK.out _ _ ⟨cb BK127 0, cb BK127 1, cb BK127 2, cb BK127 3, cb BK127 4, cb BK127 5, (bX HB hw129_0), (bX HB hw129_1), (bX HB hw129_2), (bX HB hw129_3), (bX HB hw129_4), (bX HB hw129_5)⟩ (fun hHeld => ?_)
             clear hK K
             refine nA ?_ (some 13)
             refine pA 2 14 HT_ ?_
             refine pA 3 15 HT_ ?_
             refine pA 4 16 HT_ ?_
             refine pA 5 17 HT_ ?_
             refine pA 6 18 HT_ ?_
             refine pA 7 19 HT_ ?_
             refine pA 8 20 HT_ ?_
             refine pA 9 21 HT_ ?_
             refine pA 10 22 HT_ ?_
             refine pA 11 23 HT_ ?_
             refine pA 13 25 HT_ ?_
             refine tA 12 24 HT_ HW_ hHeld ?_
             refine tA 14 26 HT_ HW_ hHeld ?_
             refine pA 15 27 HT_ ?_
             refine pA 16 28 HT_ ?_
             refine pA 17 29 HT_ ?_
             refine pA 18 30 HT_ ?_
             refine pA 19 31 HT_ ?_
             refine pA 20 32 HT_ ?_
             refine pA 21 33 HT_ ?_
             refine tA 22 34 HT_ HW_ hHeld ?_
             refine oA 23 (some 35) HT_ fun K hK => ?_
             refine rA Tryd.func59 (impl_xConflicts.calls _ _ y130 ((rd_T26 l0 x7_1).f0) ((rd_T26 l0 x7_1).f1) ((rd_T26 l0 x7_1).f2) ((rd_T26 l0 x7_1).f3) ((rd_T26 l0 x7_1).f4) ((rd_T26 l0 x7_1).f5) true _ ?side1 ?side2 A19.out) ?_
             (case side1 => repeat (first | exact (Kd.C_below HR133.out HB.out) | (with_reducible refine Kd.C_alloc ?_ _) | (with_reducible refine Kd.C_drewN ?_ _) | (with_reducible refine Kd.C_drew ?_)))
             (case side2 => exact HC133.out)
             intro w27 hb
             replace BK127 := uK BK127 hb
             replace HB := uB HB hb
             (try clear hb)
             refine hK.out _ _ ⟨cb BK127 0, cb BK127 1, cb BK127 2, cb BK127 3, cb BK127 4, cb BK127 5, (bX HB hw129_0), (bX HB hw129_1), (bX HB hw129_2), (bX HB hw129_3), (bX HB hw129_4), (bX HB hw129_5)⟩ (fun hHeld => ?_)
             clear hK K
             refine nA ?_ (some 35)
             refine pA 24 36 HT_ ?_
             refine done_ (done_of HT_.out (by kernel_rfl)) ?_
             try go_wp2
             go_ret
             exact ⟨by first | rfl | (simp [errW_none, errW_some] <;> rfl) | (simp only [← hji8]; first | rfl | (simp [errW_none, errW_some] <;> rfl)) | (simp [*, errW_none, errW_some] <;> rfl), (bW HB)⟩
            ·replace H := iF (by decide) H
             have H' := Aside0.mk H
             clear H
             have p126 : 0 ≤ (x7_1 : Int) := of_decide_eq_true asmB
             have q126 : x7_1 < (l0.length : Int) := of_decide_eq_true asmB
             obtain ⟨ad126, e126, hx126_0, hx126_1, hx126_2, hx126_3, hx126_4, hx126_5⟩ := at_T26 HR0.out x7_1 p126 q126
             cases e126
             replace hx126_0 := bx HB.out hx126_0
             replace hx126_1 := bx HB.out hx126_1
             replace hx126_2 := bx HB.out hx126_2
             replace hx126_3 := bx HB.out hx126_3
             replace hx126_4 := bx HB.out hx126_4
             replace hx126_5 := bx HB.out hx126_5
             replace p126 := eq_true p126
             replace q126 := eq_true q126
             try go_wp2_with (first | ((with_reducible refine gD 4 ?_); refine bxE 4 26 #[.int .i64 0, .string (⟨#[]⟩ : ByteArray), .int .i64 0, .int .i64 0, .int .i64 0, .int .i64 0] fun gb127 w28 hg hbox hb => ?_; have BK127 := Aside0.mk hbox; have GE127 := gB HB hg; replace HB := uB HB hb; clear hb hbox hg; have hcz29_0 := ci BK127.out 0 0 rfl; have hcz29_1 : w28.cell? ⟨gb127, 1, none⟩ = some (.string (⟨#[]⟩ : ByteArray)) := cb BK127 1; have hcz29_2 := ci BK127.out 2 0 rfl; have hcz29_3 := ci BK127.out 3 0 rfl; have hcz29_4 := ci BK127.out 4 0 rfl; have hcz29_5 := ci BK127.out 5 0 rfl; have hfz29_0 := fun j_ : Nat => blk_frozen BK127.out j_))
             have n0_ : Aside0 (((((((w28.setCell ⟨gb127, 0, none⟩ (.int .i64 ((rd_T26 l0 x7_1).f0))).setCell ⟨gb127, 1, none⟩ (.string ((rd_T26 l0 x7_1).f1))).setCell ⟨gb127, 2, none⟩ (.int .i64 ((rd_T26 l0 x7_1).f2))).setCell ⟨gb127, 3, none⟩ (.int .i64 ((rd_T26 l0 x7_1).f3))).setCell ⟨gb127, 4, none⟩ (.int .i64 ((rd_T26 l0 x7_1).f4))).setCell ⟨gb127, 5, none⟩ (.int .i64 ((rd_T26 l0 x7_1).f5))).heap[gb127]? = some (.cells #[.int .i64 ((rd_T26 l0 x7_1).f0), .string ((rd_T26 l0 x7_1).f1), .int .i64 ((rd_T26 l0 x7_1).f2), .int .i64 ((rd_T26 l0 x7_1).f3), .int .i64 ((rd_T26 l0 x7_1).f4), .int .i64 ((rd_T26 l0 x7_1).f5)] 26 (0, 0))) := ⟨by exact pW BK127⟩
             have n1_ : Aside0 (Below w.heap.size w ((((((w28.setCell ⟨gb127, 0, none⟩ (.int .i64 ((rd_T26 l0 x7_1).f0))).setCell ⟨gb127, 1, none⟩ (.string ((rd_T26 l0 x7_1).f1))).setCell ⟨gb127, 2, none⟩ (.int .i64 ((rd_T26 l0 x7_1).f2))).setCell ⟨gb127, 3, none⟩ (.int .i64 ((rd_T26 l0 x7_1).f3))).setCell ⟨gb127, 4, none⟩ (.int .i64 ((rd_T26 l0 x7_1).f4))).setCell ⟨gb127, 5, none⟩ (.int .i64 ((rd_T26 l0 x7_1).f5)))) := (aB HB)
             (try clear BK127)
             (try clear HB)
             generalize ((((((w28.setCell ⟨gb127, 0, none⟩ (.int .i64 ((rd_T26 l0 x7_1).f0))).setCell ⟨gb127, 1, none⟩ (.string ((rd_T26 l0 x7_1).f1))).setCell ⟨gb127, 2, none⟩ (.int .i64 ((rd_T26 l0 x7_1).f2))).setCell ⟨gb127, 3, none⟩ (.int .i64 ((rd_T26 l0 x7_1).f3))).setCell ⟨gb127, 4, none⟩ (.int .i64 ((rd_T26 l0 x7_1).f4))).setCell ⟨gb127, 5, none⟩ (.int .i64 ((rd_T26 l0 x7_1).f5))) = w30 at n0_ n1_ ⊢
             have BK127 := n0_
             have HB := n1_
             clear n0_ n1_
             replace BK127 := dK BK127
             replace HB := Aside0.mk (below_drew1 HB.out)
             have p129 : 0 ≤ ((ji8) : Int) := of_decide_eq_true asmB
             have q129 : (ji8) < (l0.length : Int) := of_decide_eq_true asmB
             obtain ⟨ad129, e129, hx129_0, hx129_1, hx129_2, hx129_3, hx129_4, hx129_5⟩ := at_T26 HR0.out (ji8) p129 q129
             have hw129_5 := hx129_5
             have hw129_4 := hx129_4
             have hw129_3 := hx129_3
             have hw129_2 := hx129_2
             have hw129_1 := hx129_1
             have hw129_0 := hx129_0
             obtain rfl : ad126 = ad129 := (by injection e129)
             replace hx129_0 := bx HB.out hx129_0
             replace hx129_1 := bx HB.out hx129_1
             replace hx129_2 := bx HB.out hx129_2
             replace hx129_3 := bx HB.out hx129_3
             replace hx129_4 := bx HB.out hx129_4
             replace hx129_5 := bx HB.out hx129_5
             replace p129 := eq_true p129
             replace q129 := eq_true q129
             refine sA (n := 25) (S := fun w' => w'.cell? ⟨gb127, 0, none⟩ = some (.int .i64 ((rd_T26 l0 x7_1).f0)) ∧ w'.cell? ⟨gb127, 1, none⟩ = some (.string ((rd_T26 l0 x7_1).f1)) ∧ w'.cell? ⟨gb127, 2, none⟩ = some (.int .i64 ((rd_T26 l0 x7_1).f2)) ∧ w'.cell? ⟨gb127, 3, none⟩ = some (.int .i64 ((rd_T26 l0 x7_1).f3)) ∧ w'.cell? ⟨gb127, 4, none⟩ = some (.int .i64 ((rd_T26 l0 x7_1).f4)) ∧ w'.cell? ⟨gb127, 5, none⟩ = some (.int .i64 ((rd_T26 l0 x7_1).f5)) ∧ w'.cell? (ad126.add (((ji8)).toNat * 6)) = some (.int .i64 ((rd_T26 l0 (ji8)).f0)) ∧ w'.cell? ⟨(ad126.add (((ji8)).toNat * 6)).block, (ad126.add (((ji8)).toNat * 6)).off + 1, none⟩ = some (.string ((rd_T26 l0 (ji8)).f1)) ∧ w'.cell? ⟨(ad126.add (((ji8)).toNat * 6)).block, (ad126.add (((ji8)).toNat * 6)).off + 2, none⟩ = some (.int .i64 ((rd_T26 l0 (ji8)).f2)) ∧ w'.cell? ⟨(ad126.add (((ji8)).toNat * 6)).block, (ad126.add (((ji8)).toNat * 6)).off + 3, none⟩ = some (.int .i64 ((rd_T26 l0 (ji8)).f3)) ∧ w'.cell? ⟨(ad126.add (((ji8)).toNat * 6)).block, (ad126.add (((ji8)).toNat * 6)).off + 4, none⟩ = some (.int .i64 ((rd_T26 l0 (ji8)).f4)) ∧ w'.cell? ⟨(ad126.add (((ji8)).toNat * 6)).block, (ad126.add (((ji8)).toNat * 6)).off + 5, none⟩ = some (.int .i64 ((rd_T26 l0 (ji8)).f5))) (ds := []) impl_ArePermits.tab4 impl_ArePermits.bits4 #[false, false, false, false, false, false, false, false, false, false, false, false, false, false, false, false, false, false, false, false, false, false, false, false, false] ⟨cb BK127 0, cb BK127 1, cb BK127 2, cb BK127 3, cb BK127 4, cb BK127 5, (bX HB hw129_0), (bX HB hw129_1), (bX HB hw129_2), (bX HB hw129_3), (bX HB hw129_4), (bX HB hw129_5)⟩ fun hHeld HT_ HW_ => ?_
             generalize w30.drew = w31 at BK127 HB hx129_0 hx129_1 hx129_2 hx129_3 hx129_4 hx129_5 hHeld ⊢
             refine tA 0 12 HT_ HW_ hHeld ?_
             refine oA 1 (some 13) HT_ fun K hK => ?_
             refine rA Tryd.func17 (impl_IsPermit.calls ((rd_T26 l0 x7_1).f0) ((rd_T26 l0 x7_1).f1) ((rd_T26 l0 x7_1).f2) ((rd_T26 l0 x7_1).f3) ((rd_T26 l0 x7_1).f4) ((rd_T26 l0 x7_1).f5) true _ A5.out) ?_
             intro w32 hb
             replace BK127 := uK BK127 hb
             replace HB := uB HB hb
             (try clear hb)
             have q33 : (x7_1 : Int) ≤ ((l0.length : Int) : Int) := of_decide_eq_true asmB
             obtain ⟨i033, hi033, _, hsz33, _⟩ := info_parts info26
             have hroom33 : l0.length ≤ c0 := HC0.out
             have hC33 : Kd.C k26 _ (some ad126) l0.length l0 := HR0.out
             have hcut33 := cut_to (P := Tryd.prog) 32 26 .i64 Tryd.underlying32 hi033 (some ad126) l0.length c0 x7_1 (of_decide_eq_true asmB) q33 hroom33
             have hr33 := Kd.C_take (m := (x7_1 : Int).toNat) hC33 (by omega)
             have hy33 : y130.length = (x7_1 : Int).toNat := (by rw [Ny130.out, List.length_take]; omega)
             rw [← Ny130.out] at hr33
             rw [← hy33] at hcut33
             have HR133 := Aside0.mk hr33
             have HC133 := Aside0.mk (show y130.length ≤ c0 from by omega)
             clear hr33 hC33 hroom33 hi033 hsz33
             have KY33 := Aside0.mk hy33
             clear hy33
             replace q33 := eq_true q33
             refine hK.out _ _ ⟨cb BK127 0, cb BK127 1, cb BK127 2, cb BK127 3, cb BK127 4, cb BK127 5, (bX HB hw129_0), (bX HB hw129_1), (bX HB hw129_2), (bX HB hw129_3), (bX HB hw129_4), (bX HB hw129_5)⟩ (fun hHeld => ?_)
             clear hK K
             refine nA ?_ (some 13)
             refine pA 2 14 HT_ ?_
             refine pA 3 15 HT_ ?_
             refine pA 4 16 HT_ ?_
             refine pA 5 17 HT_ ?_
             refine pA 6 18 HT_ ?_
             refine pA 7 19 HT_ ?_
             refine pA 8 20 HT_ ?_
             refine pA 9 21 HT_ ?_
             refine pA 10 22 HT_ ?_
             refine pA 11 23 HT_ ?_
             refine pA 13 25 HT_ ?_
             refine tA 12 24 HT_ HW_ hHeld ?_
             refine tA 14 26 HT_ HW_ hHeld ?_
             refine pA 15 27 HT_ ?_
             refine pA 16 28 HT_ ?_
             refine pA 17 29 HT_ ?_
             refine pA 18 30 HT_ ?_
             refine pA 19 31 HT_ ?_
             refine pA 20 32 HT_ ?_
             refine pA 21 33 HT_ ?_
             refine tA 22 34 HT_ HW_ hHeld ?_
             refine oA 23 (some 35) HT_ fun K hK => ?_
             refine rA Tryd.func59 (impl_xConflicts.calls _ _ y130 ((rd_T26 l0 x7_1).f0) ((rd_T26 l0 x7_1).f1) ((rd_T26 l0 x7_1).f2) ((rd_T26 l0 x7_1).f3) ((rd_T26 l0 x7_1).f4) ((rd_T26 l0 x7_1).f5) false _ ?side1 ?side2 A19.out) ?_
             (case side1 => repeat (first | exact (Kd.C_below HR133.out HB.out) | (with_reducible refine Kd.C_alloc ?_ _) | (with_reducible refine Kd.C_drewN ?_ _) | (with_reducible refine Kd.C_drew ?_)))
             (case side2 => exact HC133.out)
             intro w34 hb
             replace BK127 := uK BK127 hb
             replace HB := uB HB hb
             (try clear hb)
             refine hK.out _ _ ⟨cb BK127 0, cb BK127 1, cb BK127 2, cb BK127 3, cb BK127 4, cb BK127 5, (bX HB hw129_0), (bX HB hw129_1), (bX HB hw129_2), (bX HB hw129_3), (bX HB hw129_4), (bX HB hw129_5)⟩ (fun hHeld => ?_)
             clear hK K
             refine nA ?_ (some 35)
             refine pA 24 36 HT_ ?_
             refine done_ (done_of HT_.out (by kernel_rfl)) ?_
             try go_wp2
             go_roundg k1
             case measure => have := HK1.out; omega
             case rel => exact ⟨(wrap64 (x7_1 + 1)), rB, H', ⟨by have := HK1.out; omega⟩, (aB HB)⟩
           ·rw [if_neg c18] at H
            exact absurd H (by simp)
         ·rw [if_neg c10] at H
          exact absurd H (by simp)
        ·rw [if_neg c9] at H
         exact absurd H (by simp)
       ·have c35b0 := eq_true (of_decide_eq_true asmB : 0 ≤ x7_1)
        by_cases c36 : x7_1 ≤ (l0.length : Int)
        ·rw [if_pos c36] at H
         have c36b0 := eq_true c36
         have c36b1 : decide (x7_1 ≤ (l0.length : Int)) = true := decide_eq_true c36
         clear c36
         obtain ⟨y135, hy135⟩ : ∃ y_ : List (S26), y_ = (l0.take (x7_1 : Int).toNat) := ⟨_, rfl⟩
         replace H : ((impl_xConflicts.f y135 ((rd_T26 l0 x7_1).f0) ((rd_T26 l0 x7_1).f1) ((rd_T26 l0 x7_1).f2) ((rd_T26 l0 x7_1).f3) ((rd_T26 l0 x7_1).f4) ((rd_T26 l0 x7_1).f5)).bind fun t139 => (if t139 = true then (some false) else (impl_ArePermits.l0 k1 l0 l0 (l0.length : Int) (wrap64 (x7_1 + 1))))) = some r := by first | (rw [hy135]; with_reducible exact H) | (have H2_ := (Option.bind_some _ _).symm.trans H; rw [hy135]; with_reducible exact H2_) | (have H2_ := (Option.bind_some _ _).symm.trans H; with_reducible exact H2_) | with_reducible exact H | (rw [hy135]; exact H) | exact H
         have Ny135 := Aside0.mk hy135
         clear hy135
         replace H := bA H
         obtain ⟨t139, A37, H⟩ := H
         rcases Bool.eq_false_or_eq_true t139 with rfl | rfl
         ·replace H := iT rfl H
          obtain rfl := Option.some.inj H
          have p126 : 0 ≤ (x7_1 : Int) := of_decide_eq_true asmB
          have q126 : x7_1 < (l0.length : Int) := of_decide_eq_true asmB
          obtain ⟨ad126, e126, hx126_0, hx126_1, hx126_2, hx126_3, hx126_4, hx126_5⟩ := at_T26 HR0.out x7_1 p126 q126
          cases e126
          replace hx126_0 := bx HB.out hx126_0
          replace hx126_1 := bx HB.out hx126_1
          replace hx126_2 := bx HB.out hx126_2
          replace hx126_3 := bx HB.out hx126_3
          replace hx126_4 := bx HB.out hx126_4
          replace hx126_5 := bx HB.out hx126_5
          replace p126 := eq_true p126
          replace q126 := eq_true q126
          try go_wp2_with (first | ((with_reducible refine gD 4 ?_); refine bxE 4 26 #[.int .i64 0, .string (⟨#[]⟩ : ByteArray), .int .i64 0, .int .i64 0, .int .i64 0, .int .i64 0] fun gb127 w39 hg hbox hb => ?_; have BK127 := Aside0.mk hbox; have GE127 := gB HB hg; replace HB := uB HB hb; clear hb hbox hg; have hcz40_0 := ci BK127.out 0 0 rfl; have hcz40_1 : w39.cell? ⟨gb127, 1, none⟩ = some (.string (⟨#[]⟩ : ByteArray)) := cb BK127 1; have hcz40_2 := ci BK127.out 2 0 rfl; have hcz40_3 := ci BK127.out 3 0 rfl; have hcz40_4 := ci BK127.out 4 0 rfl; have hcz40_5 := ci BK127.out 5 0 rfl; have hfz40_0 := fun j_ : Nat => blk_frozen BK127.out j_))
          have n0_ : Aside0 (((((((w39.setCell ⟨gb127, 0, none⟩ (.int .i64 ((rd_T26 l0 x7_1).f0))).setCell ⟨gb127, 1, none⟩ (.string ((rd_T26 l0 x7_1).f1))).setCell ⟨gb127, 2, none⟩ (.int .i64 ((rd_T26 l0 x7_1).f2))).setCell ⟨gb127, 3, none⟩ (.int .i64 ((rd_T26 l0 x7_1).f3))).setCell ⟨gb127, 4, none⟩ (.int .i64 ((rd_T26 l0 x7_1).f4))).setCell ⟨gb127, 5, none⟩ (.int .i64 ((rd_T26 l0 x7_1).f5))).heap[gb127]? = some (.cells #[.int .i64 ((rd_T26 l0 x7_1).f0), .string ((rd_T26 l0 x7_1).f1), .int .i64 ((rd_T26 l0 x7_1).f2), .int .i64 ((rd_T26 l0 x7_1).f3), .int .i64 ((rd_T26 l0 x7_1).f4), .int .i64 ((rd_T26 l0 x7_1).f5)] 26 (0, 0))) := ⟨by exact pW BK127⟩
          have n1_ : Aside0 (Below w.heap.size w ((((((w39.setCell ⟨gb127, 0, none⟩ (.int .i64 ((rd_T26 l0 x7_1).f0))).setCell ⟨gb127, 1, none⟩ (.string ((rd_T26 l0 x7_1).f1))).setCell ⟨gb127, 2, none⟩ (.int .i64 ((rd_T26 l0 x7_1).f2))).setCell ⟨gb127, 3, none⟩ (.int .i64 ((rd_T26 l0 x7_1).f3))).setCell ⟨gb127, 4, none⟩ (.int .i64 ((rd_T26 l0 x7_1).f4))).setCell ⟨gb127, 5, none⟩ (.int .i64 ((rd_T26 l0 x7_1).f5)))) := (aB HB)
          (try clear BK127)
          (try clear HB)
          generalize ((((((w39.setCell ⟨gb127, 0, none⟩ (.int .i64 ((rd_T26 l0 x7_1).f0))).setCell ⟨gb127, 1, none⟩ (.string ((rd_T26 l0 x7_1).f1))).setCell ⟨gb127, 2, none⟩ (.int .i64 ((rd_T26 l0 x7_1).f2))).setCell ⟨gb127, 3, none⟩ (.int .i64 ((rd_T26 l0 x7_1).f3))).setCell ⟨gb127, 4, none⟩ (.int .i64 ((rd_T26 l0 x7_1).f4))).setCell ⟨gb127, 5, none⟩ (.int .i64 ((rd_T26 l0 x7_1).f5))) = w41 at n0_ n1_ ⊢
          have BK127 := n0_
          have HB := n1_
          clear n0_ n1_
          replace BK127 := dK BK127
          replace HB := Aside0.mk (below_drew1 HB.out)
          refine sA (n := 25) (S := fun w' => w'.cell? ⟨gb127, 0, none⟩ = some (.int .i64 ((rd_T26 l0 x7_1).f0)) ∧ w'.cell? ⟨gb127, 1, none⟩ = some (.string ((rd_T26 l0 x7_1).f1)) ∧ w'.cell? ⟨gb127, 2, none⟩ = some (.int .i64 ((rd_T26 l0 x7_1).f2)) ∧ w'.cell? ⟨gb127, 3, none⟩ = some (.int .i64 ((rd_T26 l0 x7_1).f3)) ∧ w'.cell? ⟨gb127, 4, none⟩ = some (.int .i64 ((rd_T26 l0 x7_1).f4)) ∧ w'.cell? ⟨gb127, 5, none⟩ = some (.int .i64 ((rd_T26 l0 x7_1).f5))) (ds := []) impl_ArePermits.tab4 impl_ArePermits.bits4 #[false, false, false, false, false, false, false, false, false, false, false, false, false, false, false, false, false, false, false, false, false, false, false, false, false] ⟨cb BK127 0, cb BK127 1, cb BK127 2, cb BK127 3, cb BK127 4, cb BK127 5⟩ fun hHeld HT_ HW_ => ?_
          generalize w41.drew = w42 at BK127 HB hHeld ⊢
          refine tA 0 12 HT_ HW_ hHeld ?_
          refine oA 1 (some 13) HT_ fun K hK => ?_
          refine rA Tryd.func17 (impl_IsPermit.calls ((rd_T26 l0 x7_1).f0) ((rd_T26 l0 x7_1).f1) ((rd_T26 l0 x7_1).f2) ((rd_T26 l0 x7_1).f3) ((rd_T26 l0 x7_1).f4) ((rd_T26 l0 x7_1).f5) true _ A5.out) ?_
          intro w43 hb
          replace BK127 := uK BK127 hb
          replace HB := uB HB hb
          (try clear hb)
          have q44 : (x7_1 : Int) ≤ ((l0.length : Int) : Int) := of_decide_eq_true asmB
          obtain ⟨i044, hi044, _, hsz44, _⟩ := info_parts info26
          have hroom44 : l0.length ≤ c0 := HC0.out
          have hC44 : Kd.C k26 _ (some ad126) l0.length l0 := HR0.out
          have hcut44 := cut_to (P := Tryd.prog) 32 26 .i64 Tryd.underlying32 hi044 (some ad126) l0.length c0 x7_1 (of_decide_eq_true asmB) q44 hroom44
          have hr44 := Kd.C_take (m := (x7_1 : Int).toNat) hC44 (by omega)
          have hy44 : y135.length = (x7_1 : Int).toNat := (by rw [Ny135.out, List.length_take]; omega)
          rw [← Ny135.out] at hr44
          rw [← hy44] at hcut44
          have HR138 := Aside0.mk hr44
          have HC138 := Aside0.mk (show y135.length ≤ c0 from by omega)
          clear hr44 hC44 hroom44 hi044 hsz44
          have KY44 := Aside0.mk hy44
          clear hy44
          replace q44 := eq_true q44
          refine hK.out _ _ ⟨cb BK127 0, cb BK127 1, cb BK127 2, cb BK127 3, cb BK127 4, cb BK127 5⟩ (fun hHeld => ?_)
          clear hK K
          refine nA ?_ (some 13)
          refine pA 2 14 HT_ ?_
          refine pA 3 15 HT_ ?_
          refine pA 4 16 HT_ ?_
          refine pA 5 17 HT_ ?_
          refine pA 6 18 HT_ ?_
          refine pU 7 19 HT_ ?_
          refine pU 8 20 HT_ ?_
          refine pU 9 21 HT_ ?_
          refine pU 10 22 HT_ ?_
          refine pU 11 23 HT_ ?_
          refine pU 12 24 HT_ ?_
          refine pU 13 25 HT_ ?_
          refine pU 14 26 HT_ ?_
          refine pU 15 27 HT_ ?_
          refine pA 16 28 HT_ ?_
          refine pA 17 29 HT_ ?_
          refine pA 18 30 HT_ ?_
          refine pA 19 31 HT_ ?_
          refine pA 20 32 HT_ ?_
          refine pA 21 33 HT_ ?_
          refine tA 22 34 HT_ HW_ hHeld ?_
          refine oA 23 (some 35) HT_ fun K hK => ?_
          refine rA Tryd.func59 (impl_xConflicts.calls _ _ y135 ((rd_T26 l0 x7_1).f0) ((rd_T26 l0 x7_1).f1) ((rd_T26 l0 x7_1).f2) ((rd_T26 l0 x7_1).f3) ((rd_T26 l0 x7_1).f4) ((rd_T26 l0 x7_1).f5) true _ ?side1 ?side2 A37.out) ?_
          (case side1 => repeat (first | exact (Kd.C_below HR138.out HB.out) | (with_reducible refine Kd.C_alloc ?_ _) | (with_reducible refine Kd.C_drewN ?_ _) | (with_reducible refine Kd.C_drew ?_)))
          (case side2 => exact HC138.out)
          intro w45 hb
          replace BK127 := uK BK127 hb
          replace HB := uB HB hb
          (try clear hb)
          refine hK.out _ _ ⟨cb BK127 0, cb BK127 1, cb BK127 2, cb BK127 3, cb BK127 4, cb BK127 5⟩ (fun hHeld => ?_)
          clear hK K
          refine nA ?_ (some 35)
          refine pA 24 36 HT_ ?_
          refine done_ (done_of HT_.out (by kernel_rfl)) ?_
          try go_wp2
          go_ret
          exact ⟨eB, (bW HB)⟩
         ·replace H := iF (by decide) H
          have H' := Aside0.mk H
          clear H
          have p126 : 0 ≤ (x7_1 : Int) := of_decide_eq_true asmB
          have q126 : x7_1 < (l0.length : Int) := of_decide_eq_true asmB
          obtain ⟨ad126, e126, hx126_0, hx126_1, hx126_2, hx126_3, hx126_4, hx126_5⟩ := at_T26 HR0.out x7_1 p126 q126
          cases e126
          replace hx126_0 := bx HB.out hx126_0
          replace hx126_1 := bx HB.out hx126_1
          replace hx126_2 := bx HB.out hx126_2
          replace hx126_3 := bx HB.out hx126_3
          replace hx126_4 := bx HB.out hx126_4
          replace hx126_5 := bx HB.out hx126_5
          replace p126 := eq_true p126
          replace q126 := eq_true q126
          try go_wp2_with (first | ((with_reducible refine gD 4 ?_); refine bxE 4 26 #[.int .i64 0, .string (⟨#[]⟩ : ByteArray), .int .i64 0, .int .i64 0, .int .i64 0, .int .i64 0] fun gb127 w46 hg hbox hb => ?_; have BK127 := Aside0.mk hbox; have GE127 := gB HB hg; replace HB := uB HB hb; clear hb hbox hg; have hcz47_0 := ci BK127.out 0 0 rfl; have hcz47_1 : w46.cell? ⟨gb127, 1, none⟩ = some (.string (⟨#[]⟩ : ByteArray)) := cb BK127 1; have hcz47_2 := ci BK127.out 2 0 rfl; have hcz47_3 := ci BK127.out 3 0 rfl; have hcz47_4 := ci BK127.out 4 0 rfl; have hcz47_5 := ci BK127.out 5 0 rfl; have hfz47_0 := fun j_ : Nat => blk_frozen BK127.out j_))
          have n0_ : Aside0 (((((((w46.setCell ⟨gb127, 0, none⟩ (.int .i64 ((rd_T26 l0 x7_1).f0))).setCell ⟨gb127, 1, none⟩ (.string ((rd_T26 l0 x7_1).f1))).setCell ⟨gb127, 2, none⟩ (.int .i64 ((rd_T26 l0 x7_1).f2))).setCell ⟨gb127, 3, none⟩ (.int .i64 ((rd_T26 l0 x7_1).f3))).setCell ⟨gb127, 4, none⟩ (.int .i64 ((rd_T26 l0 x7_1).f4))).setCell ⟨gb127, 5, none⟩ (.int .i64 ((rd_T26 l0 x7_1).f5))).heap[gb127]? = some (.cells #[.int .i64 ((rd_T26 l0 x7_1).f0), .string ((rd_T26 l0 x7_1).f1), .int .i64 ((rd_T26 l0 x7_1).f2), .int .i64 ((rd_T26 l0 x7_1).f3), .int .i64 ((rd_T26 l0 x7_1).f4), .int .i64 ((rd_T26 l0 x7_1).f5)] 26 (0, 0))) := ⟨by exact pW BK127⟩
          have n1_ : Aside0 (Below w.heap.size w ((((((w46.setCell ⟨gb127, 0, none⟩ (.int .i64 ((rd_T26 l0 x7_1).f0))).setCell ⟨gb127, 1, none⟩ (.string ((rd_T26 l0 x7_1).f1))).setCell ⟨gb127, 2, none⟩ (.int .i64 ((rd_T26 l0 x7_1).f2))).setCell ⟨gb127, 3, none⟩ (.int .i64 ((rd_T26 l0 x7_1).f3))).setCell ⟨gb127, 4, none⟩ (.int .i64 ((rd_T26 l0 x7_1).f4))).setCell ⟨gb127, 5, none⟩ (.int .i64 ((rd_T26 l0 x7_1).f5)))) := (aB HB)
          (try clear BK127)
          (try clear HB)
          generalize ((((((w46.setCell ⟨gb127, 0, none⟩ (.int .i64 ((rd_T26 l0 x7_1).f0))).setCell ⟨gb127, 1, none⟩ (.string ((rd_T26 l0 x7_1).f1))).setCell ⟨gb127, 2, none⟩ (.int .i64 ((rd_T26 l0 x7_1).f2))).setCell ⟨gb127, 3, none⟩ (.int .i64 ((rd_T26 l0 x7_1).f3))).setCell ⟨gb127, 4, none⟩ (.int .i64 ((rd_T26 l0 x7_1).f4))).setCell ⟨gb127, 5, none⟩ (.int .i64 ((rd_T26 l0 x7_1).f5))) = w48 at n0_ n1_ ⊢
          have BK127 := n0_
          have HB := n1_
          clear n0_ n1_
          replace BK127 := dK BK127
          replace HB := Aside0.mk (below_drew1 HB.out)
          refine sA (n := 25) (S := fun w' => w'.cell? ⟨gb127, 0, none⟩ = some (.int .i64 ((rd_T26 l0 x7_1).f0)) ∧ w'.cell? ⟨gb127, 1, none⟩ = some (.string ((rd_T26 l0 x7_1).f1)) ∧ w'.cell? ⟨gb127, 2, none⟩ = some (.int .i64 ((rd_T26 l0 x7_1).f2)) ∧ w'.cell? ⟨gb127, 3, none⟩ = some (.int .i64 ((rd_T26 l0 x7_1).f3)) ∧ w'.cell? ⟨gb127, 4, none⟩ = some (.int .i64 ((rd_T26 l0 x7_1).f4)) ∧ w'.cell? ⟨gb127, 5, none⟩ = some (.int .i64 ((rd_T26 l0 x7_1).f5))) (ds := []) impl_ArePermits.tab4 impl_ArePermits.bits4 #[false, false, false, false, false, false, false, false, false, false, false, false, false, false, false, false, false, false, false, false, false, false, false, false, false] ⟨cb BK127 0, cb BK127 1, cb BK127 2, cb BK127 3, cb BK127 4, cb BK127 5⟩ fun hHeld HT_ HW_ => ?_
          generalize w48.drew = w49 at BK127 HB hHeld ⊢
          refine tA 0 12 HT_ HW_ hHeld ?_
          refine oA 1 (some 13) HT_ fun K hK => ?_
          refine rA Tryd.func17 (impl_IsPermit.calls ((rd_T26 l0 x7_1).f0) ((rd_T26 l0 x7_1).f1) ((rd_T26 l0 x7_1).f2) ((rd_T26 l0 x7_1).f3) ((rd_T26 l0 x7_1).f4) ((rd_T26 l0 x7_1).f5) true _ A5.out) ?_
          intro w50 hb
          replace BK127 := uK BK127 hb
          replace HB := uB HB hb
          (try clear hb)
          have q51 : (x7_1 : Int) ≤ ((l0.length : Int) : Int) := of_decide_eq_true asmB
          obtain ⟨i051, hi051, _, hsz51, _⟩ := info_parts info26
          have hroom51 : l0.length ≤ c0 := HC0.out
          have hC51 : Kd.C k26 _ (some ad126) l0.length l0 := HR0.out
          have hcut51 := cut_to (P := Tryd.prog) 32 26 .i64 Tryd.underlying32 hi051 (some ad126) l0.length c0 x7_1 (of_decide_eq_true asmB) q51 hroom51
          have hr51 := Kd.C_take (m := (x7_1 : Int).toNat) hC51 (by omega)
          have hy51 : y135.length = (x7_1 : Int).toNat := (by rw [Ny135.out, List.length_take]; omega)
          rw [← Ny135.out] at hr51
          rw [← hy51] at hcut51
          have HR138 := Aside0.mk hr51
          have HC138 := Aside0.mk (show y135.length ≤ c0 from by omega)
          clear hr51 hC51 hroom51 hi051 hsz51
          have KY51 := Aside0.mk hy51
          clear hy51
          replace q51 := eq_true q51
          refine hK.out _ _ ⟨cb BK127 0, cb BK127 1, cb BK127 2, cb BK127 3, cb BK127 4, cb BK127 5⟩ (fun hHeld => ?_)
          clear hK K
          refine nA ?_ (some 13)
          refine pA 2 14 HT_ ?_
          refine pA 3 15 HT_ ?_
          refine pA 4 16 HT_ ?_
          refine pA 5 17 HT_ ?_
          refine pA 6 18 HT_ ?_
          refine pU 7 19 HT_ ?_
          refine pU 8 20 HT_ ?_
          refine pU 9 21 HT_ ?_
          refine pU 10 22 HT_ ?_
          refine pU 11 23 HT_ ?_
          refine pU 12 24 HT_ ?_
          refine pU 13 25 HT_ ?_
          refine pU 14 26 HT_ ?_
          refine pU 15 27 HT_ ?_
          refine pA 16 28 HT_ ?_
          refine pA 17 29 HT_ ?_
          refine pA 18 30 HT_ ?_
          refine pA 19 31 HT_ ?_
          refine pA 20 32 HT_ ?_
          refine pA 21 33 HT_ ?_
          refine tA 22 34 HT_ HW_ hHeld ?_
          refine oA 23 (some 35) HT_ fun K hK => ?_
          refine rA Tryd.func59 (impl_xConflicts.calls _ _ y135 ((rd_T26 l0 x7_1).f0) ((rd_T26 l0 x7_1).f1) ((rd_T26 l0 x7_1).f2) ((rd_T26 l0 x7_1).f3) ((rd_T26 l0 x7_1).f4) ((rd_T26 l0 x7_1).f5) false _ ?side1 ?side2 A37.out) ?_
          (case side1 => repeat (first | exact (Kd.C_below HR138.out HB.out) | (with_reducible refine Kd.C_alloc ?_ _) | (with_reducible refine Kd.C_drewN ?_ _) | (with_reducible refine Kd.C_drew ?_)))
          (case side2 => exact HC138.out)
          intro w52 hb
          replace BK127 := uK BK127 hb
          replace HB := uB HB hb
          (try clear hb)
          refine hK.out _ _ ⟨cb BK127 0, cb BK127 1, cb BK127 2, cb BK127 3, cb BK127 4, cb BK127 5⟩ (fun hHeld => ?_)
          clear hK K
          refine nA ?_ (some 35)
          refine pA 24 36 HT_ ?_
          refine done_ (done_of HT_.out (by kernel_rfl)) ?_
          try go_wp2
          go_roundg k1
          case measure => have := HK1.out; omega
          case rel => exact ⟨(wrap64 (x7_1 + 1)), rB, H', ⟨by have := HK1.out; omega⟩, (aB HB)⟩
        ·rw [if_neg c36] at H
         exact absurd H (by simp)
      ·replace H := iF (by decide) H
       obtain rfl := Option.some.inj H
       have p126 : 0 ≤ (x7_1 : Int) := of_decide_eq_true asmB
       have q126 : x7_1 < (l0.length : Int) := of_decide_eq_true asmB
       obtain ⟨ad126, e126, hx126_0, hx126_1, hx126_2, hx126_3, hx126_4, hx126_5⟩ := at_T26 HR0.out x7_1 p126 q126
       cases e126
       replace hx126_0 := bx HB.out hx126_0
       replace hx126_1 := bx HB.out hx126_1
       replace hx126_2 := bx HB.out hx126_2
       replace hx126_3 := bx HB.out hx126_3
       replace hx126_4 := bx HB.out hx126_4
       replace hx126_5 := bx HB.out hx126_5
       replace p126 := eq_true p126
       replace q126 := eq_true q126
       try go_wp2_with (first | ((with_reducible refine gD 4 ?_); refine bxE 4 26 #[.int .i64 0, .string (⟨#[]⟩ : ByteArray), .int .i64 0, .int .i64 0, .int .i64 0, .int .i64 0] fun gb127 w53 hg hbox hb => ?_; have BK127 := Aside0.mk hbox; have GE127 := gB HB hg; replace HB := uB HB hb; clear hb hbox hg; have hcz54_0 := ci BK127.out 0 0 rfl; have hcz54_1 : w53.cell? ⟨gb127, 1, none⟩ = some (.string (⟨#[]⟩ : ByteArray)) := cb BK127 1; have hcz54_2 := ci BK127.out 2 0 rfl; have hcz54_3 := ci BK127.out 3 0 rfl; have hcz54_4 := ci BK127.out 4 0 rfl; have hcz54_5 := ci BK127.out 5 0 rfl; have hfz54_0 := fun j_ : Nat => blk_frozen BK127.out j_))
       have n0_ : Aside0 (((((((w53.setCell ⟨gb127, 0, none⟩ (.int .i64 ((rd_T26 l0 x7_1).f0))).setCell ⟨gb127, 1, none⟩ (.string ((rd_T26 l0 x7_1).f1))).setCell ⟨gb127, 2, none⟩ (.int .i64 ((rd_T26 l0 x7_1).f2))).setCell ⟨gb127, 3, none⟩ (.int .i64 ((rd_T26 l0 x7_1).f3))).setCell ⟨gb127, 4, none⟩ (.int .i64 ((rd_T26 l0 x7_1).f4))).setCell ⟨gb127, 5, none⟩ (.int .i64 ((rd_T26 l0 x7_1).f5))).heap[gb127]? = some (.cells #[.int .i64 ((rd_T26 l0 x7_1).f0), .string ((rd_T26 l0 x7_1).f1), .int .i64 ((rd_T26 l0 x7_1).f2), .int .i64 ((rd_T26 l0 x7_1).f3), .int .i64 ((rd_T26 l0 x7_1).f4), .int .i64 ((rd_T26 l0 x7_1).f5)] 26 (0, 0))) := ⟨by exact pW BK127⟩
       have n1_ : Aside0 (Below w.heap.size w ((((((w53.setCell ⟨gb127, 0, none⟩ (.int .i64 ((rd_T26 l0 x7_1).f0))).setCell ⟨gb127, 1, none⟩ (.string ((rd_T26 l0 x7_1).f1))).setCell ⟨gb127, 2, none⟩ (.int .i64 ((rd_T26 l0 x7_1).f2))).setCell ⟨gb127, 3, none⟩ (.int .i64 ((rd_T26 l0 x7_1).f3))).setCell ⟨gb127, 4, none⟩ (.int .i64 ((rd_T26 l0 x7_1).f4))).setCell ⟨gb127, 5, none⟩ (.int .i64 ((rd_T26 l0 x7_1).f5)))) := (aB HB)
       (try clear BK127)
       (try clear HB)
       generalize ((((((w53.setCell ⟨gb127, 0, none⟩ (.int .i64 ((rd_T26 l0 x7_1).f0))).setCell ⟨gb127, 1, none⟩ (.string ((rd_T26 l0 x7_1).f1))).setCell ⟨gb127, 2, none⟩ (.int .i64 ((rd_T26 l0 x7_1).f2))).setCell ⟨gb127, 3, none⟩ (.int .i64 ((rd_T26 l0 x7_1).f3))).setCell ⟨gb127, 4, none⟩ (.int .i64 ((rd_T26 l0 x7_1).f4))).setCell ⟨gb127, 5, none⟩ (.int .i64 ((rd_T26 l0 x7_1).f5))) = w55 at n0_ n1_ ⊢
       have BK127 := n0_
       have HB := n1_
       clear n0_ n1_
       replace BK127 := dK BK127
       replace HB := Aside0.mk (below_drew1 HB.out)
       refine sA (n := 25) (S := fun w' => w'.cell? ⟨gb127, 0, none⟩ = some (.int .i64 ((rd_T26 l0 x7_1).f0)) ∧ w'.cell? ⟨gb127, 1, none⟩ = some (.string ((rd_T26 l0 x7_1).f1)) ∧ w'.cell? ⟨gb127, 2, none⟩ = some (.int .i64 ((rd_T26 l0 x7_1).f2)) ∧ w'.cell? ⟨gb127, 3, none⟩ = some (.int .i64 ((rd_T26 l0 x7_1).f3)) ∧ w'.cell? ⟨gb127, 4, none⟩ = some (.int .i64 ((rd_T26 l0 x7_1).f4)) ∧ w'.cell? ⟨gb127, 5, none⟩ = some (.int .i64 ((rd_T26 l0 x7_1).f5))) (ds := []) impl_ArePermits.tab4 impl_ArePermits.bits4 #[false, false, false, false, false, false, false, false, false, false, false, false, false, false, false, false, false, false, false, false, false, false, false, false, false] ⟨cb BK127 0, cb BK127 1, cb BK127 2, cb BK127 3, cb BK127 4, cb BK127 5⟩ fun hHeld HT_ HW_ => ?_
       generalize w55.drew = w56 at BK127 HB hHeld ⊢
       refine tA 0 12 HT_ HW_ hHeld ?_
       refine oA 1 (some 13) HT_ fun K hK => ?_
       refine rA Tryd.func17 (impl_IsPermit.calls ((rd_T26 l0 x7_1).f0) ((rd_T26 l0 x7_1).f1) ((rd_T26 l0 x7_1).f2) ((rd_T26 l0 x7_1).f3) ((rd_T26 l0 x7_1).f4) ((rd_T26 l0 x7_1).f5) false _ A5.out) ?_
       intro w57 hb
       replace BK127 := uK BK127 hb
       replace HB := uB HB hb
       (try clear hb)
       refine hK.out _ _ ⟨cb BK127 0, cb BK127 1, cb BK127 2, cb BK127 3, cb BK127 4, cb BK127 5⟩ (fun hHeld => ?_)
       clear hK K
       refine nA ?_ (some 13)
       refine pA 2 14 HT_ ?_
       refine pA 3 15 HT_ ?_
       refine pU 4 16 HT_ ?_
       refine pU 5 17 HT_ ?_
       refine pU 6 18 HT_ ?_
       refine pU 7 19 HT_ ?_
       refine pU 8 20 HT_ ?_
       refine pU 9 21 HT_ ?_
       refine pU 10 22 HT_ ?_
       refine pU 11 23 HT_ ?_
       refine pU 12 24 HT_ ?_
       refine pU 13 25 HT_ ?_
       refine pU 14 26 HT_ ?_
       refine pU 15 27 HT_ ?_
       refine pU 16 28 HT_ ?_
       refine pA 17 29 HT_ ?_
       refine pA 18 30 HT_ ?_
       refine pU 19 31 HT_ ?_
       refine pU 20 32 HT_ ?_
       refine pU 21 33 HT_ ?_
       refine pU 22 34 HT_ ?_
       refine pU 23 35 HT_ ?_
       refine pA 24 36 HT_ ?_
       refine done_ (done_of HT_.out (by kernel_rfl)) ?_
       try go_wp2
       go_ret
       exact ⟨eB, (bW HB)⟩
     ·rw [if_neg c4] at H
      exact absurd H (by simp)
    ·rw [if_neg c3] at H
     exact absurd H (by simp)
   ·obtain rfl := Option.some.inj H
    go_wp2
    go_ret
    exact ⟨eB, (bW HB)⟩

end Go.Proofs.YtgeioccfjgpijaaDoor.QFnPermitDays
