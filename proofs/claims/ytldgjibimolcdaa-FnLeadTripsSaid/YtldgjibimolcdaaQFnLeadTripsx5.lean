/- Contracts of Go functions that FnLeadTrips reaches: the call computes what the plain function says. No condition. -/
import Derived.Test.YtldgjibimolcdaaQFnLeadTripsx0
import Derived.Test.YtldgjibimolcdaaQFnLeadTripsx4
namespace Go.Proofs.Ytldgjibimolcdaa.QFnLeadTrips
open Go.RowKit Go.Proofs.YtldgjibimolcdaaW.PrintWords Go.Proofs.YtldgjibimolcdaaW.PrintLast Go.Proofs.YtldgjibimolcdaaW.PrintMore
attribute [local go_sem] max2_int min2_int max_two min_two max_three min_three max_four min_four   -- for this text's walks alone
set_option linter.unusedVariables false
set_option linter.unusedSimpArgs false

/-! ### impl_AreLeads: function 18 -/
def impl_AreLeads.l0 : Nat → List (S25) → List (S25) → Int → Int → Option (Bool)
 | 0, _, _, _, _ => none
 | k + 1, x0, x5, x6, x7 => if x7 < x6 then (if 0 ≤ x7 then (if x7 < (x5.length : Int) then ((impl_IsLead.f ((rd_T25 x5 x7).f0) ((rd_T25 x5 x7).f1) ((rd_T25 x5 x7).f2) ((rd_T25 x5 x7).f3) ((rd_T25 x5 x7).f4)).bind fun t145 => (if t145 = true then (if x7 > 0 then (if 0 ≤ (wrap64 (x7 - 1)) then (if (wrap64 (x7 - 1)) < (x0.length : Int) then (if ((rd_T25 x0 (wrap64 (x7 - 1))).f0) ≥ ((rd_T25 x5 x7).f0) then (some false) else (impl_AreLeads.l0 k x0 x5 x6 (wrap64 (x7 + 1)))) else (none)) else (none)) else (impl_AreLeads.l0 k x0 x5 x6 (wrap64 (x7 + 1)))) else (some false))) else (none)) else (none)) else (some (decide ((x0.length : Int) ≤ 12)))
def impl_AreLeads.f (k : Nat) (l0 : List (S25)) : Option (Bool) := impl_AreLeads.l0 k l0 l0 (l0.length : Int) 0
theorem impl_AreLeads.mono_l : ∀ k, (∀ y0 y1 y2 y3, LeO (impl_AreLeads.l0 k y0 y1 y2 y3) (impl_AreLeads.l0 (k + 1) y0 y1 y2 y3))
 | 0 => fun _ _ _ _ r h => by simp [impl_AreLeads.l0] at h
 | k + 1 => by
  have ih0 := impl_AreLeads.mono_l k
  ·intro y0 y1 y2 y3
   unfold impl_AreLeads.l0
   repeat' with_reducible first | apply ih0 | exact LeO.refl _ | exact LeO.none _ | refine LeO.ite ?_ ?_ | refine LeO.bind ?_ (fun _ => ?_)
theorem impl_AreLeads.mono : ∀ a0 k, LeO (impl_AreLeads.f k a0) (impl_AreLeads.f (k + 1) a0) := by
 intro a0 k
 have ih0 := impl_AreLeads.mono_l k
 unfold impl_AreLeads.f
 repeat' with_reducible first | apply ih0 | exact LeO.refl _ | exact LeO.none _ | refine LeO.ite ?_ ?_ | refine LeO.bind ?_ (fun _ => ?_)
def impl_AreLeads.T4 : Bool × List (List Nat × List Nat) := (true, [([], []), ([0], [0]), ([1], [1]), ([2, 1], [2]), ([3], [3]), ([4, 3], [3, 4]), ([5, 3, 3], [3, 5]), ([6], [6]), ([6], [6]), ([8, 6], [6, 8]), ([7, 9, 6], [6, 7, 9]), ([10, 6], [6, 10]), ([11, 6], [6, 11]), ([6], [6]), ([13, 6], [6, 13]), ([12, 14, 6], [6, 12, 14]), ([6, 15, 3], [3, 6, 15]), ([3, 16], [3, 16])])
def impl_AreLeads.B4 : List Nat := [0, 1, 3, 7, 15, 31, 63, 127, 127, 383, 1023, 2047, 4095, 127, 8319, 32767, 65535, 131071]
theorem impl_AreLeads.tab4 : rtab .any (opsOf Try.f18 4) = impl_AreLeads.T4 := by kernel_rfl
theorem impl_AreLeads.bits4 : waitsOk impl_AreLeads.T4.2 impl_AreLeads.B4 = true := by kernel_rfl
set_option maxHeartbeats 8000000 in
set_option maxRecDepth 100000 in
theorem impl_AreLeads.calls (k : Nat) (A0 : Option Addr) (c0 : Nat) (l0 : List (S25)) (r : Bool) (w : World) (hr0 : Kd.C k25 w A0 l0.length l0) (hc0 : l0.length ≤ c0) (h : impl_AreLeads.f k l0 = some r) :
  Calls Try.prog 18 #[.slice A0 l0.length c0] w fun e w' => e = .returned (.bool r) ∧ Below w.heap.size w w' := by
 have hu25 := Try.underlying25
 have HR0 := Aside0.mk hr0
 have HC0 := Aside0.mk hc0
 clear hr0 hc0
 have HB := Aside0.mk (Below.refl w.heap.size w)
 have H : (impl_AreLeads.l0 k l0 l0 (l0.length : Int) 0) = some r := h
 clear h
 have H' := Aside0.mk H
 clear H
 go_enter Try.func18, Try.ntmps18
 go_wp2
 go_loopg [7] k (fun kq v7 w' => ∃ (x7_1 : Int), v7 = .int .i64 x7_1 ∧ Aside0 (impl_AreLeads.l0 kq l0 l0 (l0.length : Int) x7_1 = some r) ∧ Aside0 (kq ≤ k) ∧ Aside0 (Below w.heap.size w w'))
 case atStart => exact ⟨(0), rB, H', ⟨Nat.le_refl _⟩, (aB HB)⟩
 case round =>
  clear H'
  obtain ⟨x7_1, rfl, HA, HK1, HB⟩ := hrel
  cases gk with
  | zero => exact absurd HA.out (by simp [impl_AreLeads.l0])
  | succ k1 =>
   have H := HA.out
   clear HA
   simp only [impl_AreLeads.l0] at H
   replace H := ifD H
   rcases H with ⟨H, -, c2b0⟩ | ⟨H, -, c2b0⟩
   ·by_cases c3 : 0 ≤ x7_1
    ·rw [if_pos c3] at H
     have c3b0 : decide (0 ≤ x7_1) = true := decide_eq_true c3
     clear c3
     by_cases c4 : x7_1 < (l0.length : Int)
     ·rw [if_pos c4] at H
      have c4b0 : decide (x7_1 < (l0.length : Int)) = true := decide_eq_true c4
      clear c4
      replace H := bA H
      obtain ⟨t145, A5, H⟩ := H
      rcases Bool.eq_false_or_eq_true t145 with rfl | rfl
      ·replace H := iT rfl H
       replace H := ifD H
       rcases H with ⟨H, -, c7b0⟩ | ⟨H, -, c7b0⟩
       ·obtain ⟨ji8, hji8⟩ : ∃ j_ : Int, (wrap64 (x7_1 - 1)) = j_ := ⟨_, rfl⟩
        replace H : (if 0 ≤ (ji8) then (if (ji8) < (l0.length : Int) then (if ((rd_T25 l0 (ji8)).f0) ≥ ((rd_T25 l0 x7_1).f0) then (some false) else (impl_AreLeads.l0 k1 l0 l0 (l0.length : Int) (wrap64 (x7_1 + 1)))) else (none)) else (none)) = some r := by first | (rw [hji8] at H; exact H) | (simp only [hji8] at H ⊢; exact H)
        (try rw [hji8] at A5)
        have hji8w : (IntKind.i64.wrap (x7_1 - 1)) = ji8 := (i64_w _).trans hji8
        by_cases c9 : 0 ≤ (ji8)
        ·rw [if_pos c9] at H
         have c9b0 : decide (0 ≤ (ji8)) = true := decide_eq_true c9
         clear c9
         by_cases c10 : (ji8) < (l0.length : Int)
         ·rw [if_pos c10] at H
          have c10b0 : decide ((ji8) < (l0.length : Int)) = true := decide_eq_true c10
          clear c10
          replace H := ifD H
          rcases H with ⟨H, -, c11b0⟩ | ⟨H, -, c11b0⟩
          ·obtain rfl := Option.some.inj H
           have p143 : 0 ≤ (x7_1 : Int) := of_decide_eq_true asmB
           have q143 : x7_1 < (l0.length : Int) := of_decide_eq_true asmB
           obtain ⟨ad143, e143, hx143_0, hx143_1, hx143_2, hx143_3, hx143_4⟩ := at_T25 HR0.out x7_1 p143 q143
           cases e143
           replace hx143_0 := bx HB.out hx143_0
           replace hx143_1 := bx HB.out hx143_1
           replace hx143_2 := bx HB.out hx143_2
           replace hx143_3 := bx HB.out hx143_3
           replace hx143_4 := bx HB.out hx143_4
           replace p143 := eq_true p143
           replace q143 := eq_true q143
           try go_wp2_with (first | ((with_reducible refine gD 4 ?_); refine bxE 4 25 #[.int .i64 0, .int .i64 0, .int .i64 0, .int .i64 0, .int .i64 0] fun gb144 w12 hg hbox hb => ?_; have BK144 := Aside0.mk hbox; have GE144 := gB HB hg; replace HB := uB HB hb; clear hb hbox hg; have ⟨hcz13_0, hcz13_1, hcz13_2, hcz13_3, hcz13_4, hfz13_0⟩ := cz5 BK144))
           have n0_ : Aside0 ((((((w12.setCell ⟨gb144, 0, none⟩ (.int .i64 ((rd_T25 l0 x7_1).f0))).setCell ⟨gb144, 1, none⟩ (.int .i64 ((rd_T25 l0 x7_1).f1))).setCell ⟨gb144, 2, none⟩ (.int .i64 ((rd_T25 l0 x7_1).f2))).setCell ⟨gb144, 3, none⟩ (.int .i64 ((rd_T25 l0 x7_1).f3))).setCell ⟨gb144, 4, none⟩ (.int .i64 ((rd_T25 l0 x7_1).f4))).heap[gb144]? = some (.cells #[.int .i64 ((rd_T25 l0 x7_1).f0), .int .i64 ((rd_T25 l0 x7_1).f1), .int .i64 ((rd_T25 l0 x7_1).f2), .int .i64 ((rd_T25 l0 x7_1).f3), .int .i64 ((rd_T25 l0 x7_1).f4)] 25 (0, 0))) := ⟨by exact pW BK144⟩
           have n1_ : Aside0 (Below w.heap.size w (((((w12.setCell ⟨gb144, 0, none⟩ (.int .i64 ((rd_T25 l0 x7_1).f0))).setCell ⟨gb144, 1, none⟩ (.int .i64 ((rd_T25 l0 x7_1).f1))).setCell ⟨gb144, 2, none⟩ (.int .i64 ((rd_T25 l0 x7_1).f2))).setCell ⟨gb144, 3, none⟩ (.int .i64 ((rd_T25 l0 x7_1).f3))).setCell ⟨gb144, 4, none⟩ (.int .i64 ((rd_T25 l0 x7_1).f4)))) := (aB HB)
           (try clear BK144)
           (try clear HB)
           generalize (((((w12.setCell ⟨gb144, 0, none⟩ (.int .i64 ((rd_T25 l0 x7_1).f0))).setCell ⟨gb144, 1, none⟩ (.int .i64 ((rd_T25 l0 x7_1).f1))).setCell ⟨gb144, 2, none⟩ (.int .i64 ((rd_T25 l0 x7_1).f2))).setCell ⟨gb144, 3, none⟩ (.int .i64 ((rd_T25 l0 x7_1).f3))).setCell ⟨gb144, 4, none⟩ (.int .i64 ((rd_T25 l0 x7_1).f4))) = w14 at n0_ n1_ ⊢
           have BK144 := n0_
           have HB := n1_
           clear n0_ n1_
           replace BK144 := dK BK144
           replace HB := Aside0.mk (below_drew1 HB.out)
           have p146 : 0 ≤ ((ji8) : Int) := of_decide_eq_true asmB
           have q146 : (ji8) < (l0.length : Int) := of_decide_eq_true asmB
           obtain ⟨ad146, e146, hx146_0, hx146_1, hx146_2, hx146_3, hx146_4⟩ := at_T25 HR0.out (ji8) p146 q146
           have hw146_4 := hx146_4
           have hw146_3 := hx146_3
           have hw146_2 := hx146_2
           have hw146_1 := hx146_1
           have hw146_0 := hx146_0
           obtain rfl : ad143 = ad146 := (by injection e146)
           replace hx146_0 := bx HB.out hx146_0
           replace hx146_1 := bx HB.out hx146_1
           replace hx146_2 := bx HB.out hx146_2
           replace hx146_3 := bx HB.out hx146_3
           replace hx146_4 := bx HB.out hx146_4
           replace p146 := eq_true p146
           replace q146 := eq_true q146
           refine sA (n := 18) (S := fun w' => w'.cell? ⟨gb144, 0, none⟩ = some (.int .i64 ((rd_T25 l0 x7_1).f0)) ∧ w'.cell? ⟨gb144, 1, none⟩ = some (.int .i64 ((rd_T25 l0 x7_1).f1)) ∧ w'.cell? ⟨gb144, 2, none⟩ = some (.int .i64 ((rd_T25 l0 x7_1).f2)) ∧ w'.cell? ⟨gb144, 3, none⟩ = some (.int .i64 ((rd_T25 l0 x7_1).f3)) ∧ w'.cell? ⟨gb144, 4, none⟩ = some (.int .i64 ((rd_T25 l0 x7_1).f4)) ∧ w'.cell? (ad143.add (((ji8)).toNat * 5)) = some (.int .i64 ((rd_T25 l0 (ji8)).f0)) ∧ w'.cell? ⟨(ad143.add (((ji8)).toNat * 5)).block, (ad143.add (((ji8)).toNat * 5)).off + 1, none⟩ = some (.int .i64 ((rd_T25 l0 (ji8)).f1)) ∧ w'.cell? ⟨(ad143.add (((ji8)).toNat * 5)).block, (ad143.add (((ji8)).toNat * 5)).off + 2, none⟩ = some (.int .i64 ((rd_T25 l0 (ji8)).f2)) ∧ w'.cell? ⟨(ad143.add (((ji8)).toNat * 5)).block, (ad143.add (((ji8)).toNat * 5)).off + 3, none⟩ = some (.int .i64 ((rd_T25 l0 (ji8)).f3)) ∧ w'.cell? ⟨(ad143.add (((ji8)).toNat * 5)).block, (ad143.add (((ji8)).toNat * 5)).off + 4, none⟩ = some (.int .i64 ((rd_T25 l0 (ji8)).f4))) (ds := []) impl_AreLeads.tab4 impl_AreLeads.bits4 #[false, false, false, false, false, false, false, false, false, false, false, false, false, false, false, false, false, false] ⟨cb BK144 0, cb BK144 1, cb BK144 2, cb BK144 3, cb BK144 4, (bX HB hw146_0), (bX HB hw146_1), (bX HB hw146_2), (bX HB hw146_3), (bX HB hw146_4)⟩ fun hHeld HT_ HW_ => ?_
           generalize w14.drew = w15 at BK144 HB hx146_0 hx146_1 hx146_2 hx146_3 hx146_4 hHeld ⊢
           refine tA 0 12 HT_ HW_ hHeld ?_
           refine oA 1 (some 13) HT_ fun K hK => ?_
           refine rA Try.func14 (impl_IsLead.calls ((rd_T25 l0 x7_1).f0) ((rd_T25 l0 x7_1).f1) ((rd_T25 l0 x7_1).f2) ((rd_T25 l0 x7_1).f3) ((rd_T25 l0 x7_1).f4) true _ A5.out) ?_
           intro w16 hb
           replace BK144 := uK BK144 hb
           replace HB := uB HB hb
           (try clear hb)
           refine hK.out _ _ ⟨cb BK144 0, cb BK144 1, cb BK144 2, cb BK144 3, cb BK144 4, (bX HB hw146_0), (bX HB hw146_1), (bX HB hw146_2), (bX HB hw146_3), (bX HB hw146_4)⟩ (fun hHeld => ?_)
           clear hK K
           refine nA ?_ (some 13)
           refine pA 2 14 HT_ ?_
           refine pA 3 15 HT_ ?_
           refine pA 4 16 HT_ ?_
           refine pA 5 17 HT_ ?_
           refine pA 6 18 HT_ ?_
           refine pA 7 19 HT_ ?_
           refine pA 8 20 HT_ ?_
           refine pA 9 21 HT_ ?_
           refine pA 10 22 HT_ ?_
           refine pA 11 23 HT_ ?_
           refine pA 13 25 HT_ ?_
           refine tA 12 24 HT_ HW_ hHeld ?_
           refine tA 14 26 HT_ HW_ hHeld ?_
           refine pA 15 27 HT_ ?_
           refine pA 16 28 HT_ ?_
           refine pA 17 29 HT_ ?_
           refine done_ (done_of HT_.out (by kernel_rfl)) ?_
           try go_wp2
           go_ret
           exact ⟨by first | rfl | (simp [errW_none, errW_some] <;> rfl) | (simp only [← hji8]; first | rfl | (simp [errW_none, errW_some] <;> rfl)) | (simp [*, errW_none, errW_some] <;> rfl), (bW HB)⟩
          ·have H' := Aside0.mk H
           clear H
           have p143 : 0 ≤ (x7_1 : Int) := of_decide_eq_true asmB
           have q143 : x7_1 < (l0.length : Int) := of_decide_eq_true asmB
           obtain ⟨ad143, e143, hx143_0, hx143_1, hx143_2, hx143_3, hx143_4⟩ := at_T25 HR0.out x7_1 p143 q143
           cases e143
           replace hx143_0 := bx HB.out hx143_0
           replace hx143_1 := bx HB.out hx143_1
           replace hx143_2 := bx HB.out hx143_2
           replace hx143_3 := bx HB.out hx143_3
           replace hx143_4 := bx HB.out hx143_4
           replace p143 := eq_true p143
           replace q143 := eq_true q143
           try go_wp2_with (first | ((with_reducible refine gD 4 ?_); refine bxE 4 25 #[.int .i64 0, .int .i64 0, .int .i64 0, .int .i64 0, .int .i64 0] fun gb144 w17 hg hbox hb => ?_; have BK144 := Aside0.mk hbox; have GE144 := gB HB hg; replace HB := uB HB hb; clear hb hbox hg; have ⟨hcz18_0, hcz18_1, hcz18_2, hcz18_3, hcz18_4, hfz18_0⟩ := cz5 BK144))
           have n0_ : Aside0 ((((((w17.setCell ⟨gb144, 0, none⟩ (.int .i64 ((rd_T25 l0 x7_1).f0))).setCell ⟨gb144, 1, none⟩ (.int .i64 ((rd_T25 l0 x7_1).f1))).setCell ⟨gb144, 2, none⟩ (.int .i64 ((rd_T25 l0 x7_1).f2))).setCell ⟨gb144, 3, none⟩ (.int .i64 ((rd_T25 l0 x7_1).f3))).setCell ⟨gb144, 4, none⟩ (.int .i64 ((rd_T25 l0 x7_1).f4))).heap[gb144]? = some (.cells #[.int .i64 ((rd_T25 l0 x7_1).f0), .int .i64 ((rd_T25 l0 x7_1).f1), .int .i64 ((rd_T25 l0 x7_1).f2), .int .i64 ((rd_T25 l0 x7_1).f3), .int .i64 ((rd_T25 l0 x7_1).f4)] 25 (0, 0))) := ⟨by exact pW BK144⟩
           have n1_ : Aside0 (Below w.heap.size w (((((w17.setCell ⟨gb144, 0, none⟩ (.int .i64 ((rd_T25 l0 x7_1).f0))).setCell ⟨gb144, 1, none⟩ (.int .i64 ((rd_T25 l0 x7_1).f1))).setCell ⟨gb144, 2, none⟩ (.int .i64 ((rd_T25 l0 x7_1).f2))).setCell ⟨gb144, 3, none⟩ (.int .i64 ((rd_T25 l0 x7_1).f3))).setCell ⟨gb144, 4, none⟩ (.int .i64 ((rd_T25 l0 x7_1).f4)))) := (aB HB)
           (try clear BK144)
           (try clear HB)
           generalize (((((w17.setCell ⟨gb144, 0, none⟩ (.int .i64 ((rd_T25 l0 x7_1).f0))).setCell ⟨gb144, 1, none⟩ (.int .i64 ((rd_T25 l0 x7_1).f1))).setCell ⟨gb144, 2, none⟩ (.int .i64 ((rd_T25 l0 x7_1).f2))).setCell ⟨gb144, 3, none⟩ (.int .i64 ((rd_T25 l0 x7_1).f3))).setCell ⟨gb144, 4, none⟩ (.int .i64 ((rd_T25 l0 x7_1).f4))) = w19 at n0_ n1_ ⊢
           have BK144 := n0_
           have HB := n1_
           clear n0_ n1_
           replace BK144 := dK BK144
           replace HB := Aside0.mk (below_drew1 HB.out)
           have p146 : 0 ≤ ((ji8) : Int) := of_decide_eq_true asmB
           have q146 : (ji8) < (l0.length : Int) := of_decide_eq_true asmB
           obtain ⟨ad146, e146, hx146_0, hx146_1, hx146_2, hx146_3, hx146_4⟩ := at_T25 HR0.out (ji8) p146 q146
           have hw146_4 := hx146_4
           have hw146_3 := hx146_3
           have hw146_2 := hx146_2
           have hw146_1 := hx146_1
           have hw146_0 := hx146_0
           obtain rfl : ad143 = ad146 := (by injection e146)
           replace hx146_0 := bx HB.out hx146_0
           replace hx146_1 := bx HB.out hx146_1
           replace hx146_2 := bx HB.out hx146_2
           replace hx146_3 := bx HB.out hx146_3
           replace hx146_4 := bx HB.out hx146_4
           replace p146 := eq_true p146
           replace q146 := eq_true q146
           refine sA (n := 18) (S := fun w' => w'.cell? ⟨gb144, 0, none⟩ = some (.int .i64 ((rd_T25 l0 x7_1).f0)) ∧ w'.cell? ⟨gb144, 1, none⟩ = some (.int .i64 ((rd_T25 l0 x7_1).f1)) ∧ w'.cell? ⟨gb144, 2, none⟩ = some (.int .i64 ((rd_T25 l0 x7_1).f2)) ∧ w'.cell? ⟨gb144, 3, none⟩ = some (.int .i64 ((rd_T25 l0 x7_1).f3)) ∧ w'.cell? ⟨gb144, 4, none⟩ = some (.int .i64 ((rd_T25 l0 x7_1).f4)) ∧ w'.cell? (ad143.add (((ji8)).toNat * 5)) = some (.int .i64 ((rd_T25 l0 (ji8)).f0)) ∧ w'.cell? ⟨(ad143.add (((ji8)).toNat * 5)).block, (ad143.add (((ji8)).toNat * 5)).off + 1, none⟩ = some (.int .i64 ((rd_T25 l0 (ji8)).f1)) ∧ w'.cell? ⟨(ad143.add (((ji8)).toNat * 5)).block, (ad143.add (((ji8)).toNat * 5)).off + 2, none⟩ = some (.int .i64 ((rd_T25 l0 (ji8)).f2)) ∧ w'.cell? ⟨(ad143.add (((ji8)).toNat * 5)).block, (ad143.add (((ji8)).toNat * 5)).off + 3, none⟩ = some (.int .i64 ((rd_T25 l0 (ji8)).f3)) ∧ w'.cell? ⟨(ad143.add (((ji8)).toNat * 5)).block, (ad143.add (((ji8)).toNat * 5)).off + 4, none⟩ = some (.int .i64 ((rd_T25 l0 (ji8)).f4))) (ds := []) impl_AreLeads.tab4 impl_AreLeads.bits4 #[false, false, false, false, false, false, false, false, false, false, false, false, false, false, false, false, false, false] ⟨cb BK144 0, cb BK144 1, cb BK144 2, cb BK144 3, cb BK144 4, (bX HB hw146_0), (bX HB hw146_1), (bX HB hw146_2), (bX HB hw146_3), (bX HB hw146_4)⟩ fun hHeld HT_ HW_ => ?_
           generalize w19.drew = w20 at BK144 HB hx146_0 hx146_1 hx146_2 hx146_3 hx146_4 hHeld ⊢
           refine tA 0 12 HT_ HW_ hHeld ?_
           refine oA 1 (some 13) HT_ fun K hK => ?_
           refine rA Try.func14 (impl_IsLead.calls ((rd_T25 l0 x7_1).f0) ((rd_T25 l0 x7_1).f1) ((rd_T25 l0 x7_1).f2) ((rd_T25 l0 x7_1).f3) ((rd_T25 l0 x7_1).f4) true _ A5.out) ?_
           intro w21 hb
           replace BK144 := uK BK144 hb
           replace HB := uB HB hb
           (try clear hb)
           refine hK.out _ _ ⟨cb BK144 0, cb BK144 1, cb BK144 2, cb BK144 3, cb BK144 4, (bX HB hw146_0), (bX HB hw146_1), (bX HB hw146_2), (bX HB hw146_3), (bX HB hw146_4)⟩ (fun hHeld => ?_)
           clear hK K
           refine nA ?_ (some 13)
           refine pA 2 14 HT_ ?_
           refine pA 3 15 HT_ ?_
           refine pA 4 16 HT_ ?_
           refine pA 5 17 HT_ ?_
           refine pA 6 18 HT_ ?_
           refine pA 7 19 HT_ ?_
           refine pA 8 20 HT_ ?_
           refine pA 9 21 HT_ ?_
           refine pA 10 22 HT_ ?_
           refine pA 11 23 HT_ ?_
           refine pA 13 25 HT_ ?_
           refine tA 12 24 HT_ HW_ hHeld ?_
           refine tA 14 26 HT_ HW_ hHeld ?_
           refine pA 15 27 HT_ ?_
           refine pA 16 28 HT_ ?_
           refine pA 17 29 HT_ ?_
           refine done_ (done_of HT_.out (by kernel_rfl)) ?_
           try go_wp2
           go_roundg k1
           case measure => have := HK1.out; omega
           case rel => exact ⟨(wrap64 (x7_1 + 1)), rB, H', ⟨by have := HK1.out; omega⟩, (aB HB)⟩
         ·rw [if_neg c10] at H
          exact absurd H (by simp)
        ·rw [if_neg c9] at H
         exact absurd H (by simp)
       ·have H' := Aside0.mk H
        clear H
        have p143 : 0 ≤ (x7_1 : Int) := of_decide_eq_true asmB
        have q143 : x7_1 < (l0.length : Int) := of_decide_eq_true asmB
        obtain ⟨ad143, e143, hx143_0, hx143_1, hx143_2, hx143_3, hx143_4⟩ := at_T25 HR0.out x7_1 p143 q143
        cases e143
        replace hx143_0 := bx HB.out hx143_0
        replace hx143_1 := bx HB.out hx143_1
        replace hx143_2 := bx HB.out hx143_2
        replace hx143_3 := bx HB.out hx143_3
        replace hx143_4 := bx HB.out hx143_4
        replace p143 := eq_true p143
        replace q143 := eq_true q143
        try go_wp2_with (first | ((with_reducible refine gD 4 ?_); refine bxE 4 25 #[.int .i64 0, .int .i64 0, .int .i64 0, .int .i64 0, .int .i64 0] fun gb144 w22 hg hbox hb => ?_; have BK144 := Aside0.mk hbox; have GE144 := gB HB hg; replace HB := uB HB hb; clear hb hbox hg; have ⟨hcz23_0, hcz23_1, hcz23_2, hcz23_3, hcz23_4, hfz23_0⟩ := cz5 BK144))
        have n0_ : Aside0 ((((((w22.setCell ⟨gb144, 0, none⟩ (.int .i64 ((rd_T25 l0 x7_1).f0))).setCell ⟨gb144, 1, none⟩ (.int .i64 ((rd_T25 l0 x7_1).f1))).setCell ⟨gb144, 2, none⟩ (.int .i64 ((rd_T25 l0 x7_1).f2))).setCell ⟨gb144, 3, none⟩ (.int .i64 ((rd_T25 l0 x7_1).f3))).setCell ⟨gb144, 4, none⟩ (.int .i64 ((rd_T25 l0 x7_1).f4))).heap[gb144]? = some (.cells #[.int .i64 ((rd_T25 l0 x7_1).f0), .int .i64 ((rd_T25 l0 x7_1).f1), .int .i64 ((rd_T25 l0 x7_1).f2), .int .i64 ((rd_T25 l0 x7_1).f3), .int .i64 ((rd_T25 l0 x7_1).f4)] 25 (0, 0))) := ⟨by exact pW BK144⟩
        have n1_ : Aside0 (Below w.heap.size w (((((w22.setCell ⟨gb144, 0, none⟩ (.int .i64 ((rd_T25 l0 x7_1).f0))).setCell ⟨gb144, 1, none⟩ (.int .i64 ((rd_T25 l0 x7_1).f1))).setCell ⟨gb144, 2, none⟩ (.int .i64 ((rd_T25 l0 x7_1).f2))).setCell ⟨gb144, 3, none⟩ (.int .i64 ((rd_T25 l0 x7_1).f3))).setCell ⟨gb144, 4, none⟩ (.int .i64 ((rd_T25 l0 x7_1).f4)))) := (aB HB)
        (try clear BK144)
        (try clear HB)
        generalize (((((w22.setCell ⟨gb144, 0, none⟩ (.int .i64 ((rd_T25 l0 x7_1).f0))).setCell ⟨gb144, 1, none⟩ (.int .i64 ((rd_T25 l0 x7_1).f1))).setCell ⟨gb144, 2, none⟩ (.int .i64 ((rd_T25 l0 x7_1).f2))).setCell ⟨gb144, 3, none⟩ (.int .i64 ((rd_T25 l0 x7_1).f3))).setCell ⟨gb144, 4, none⟩ (.int .i64 ((rd_T25 l0 x7_1).f4))) = w24 at n0_ n1_ ⊢
        have BK144 := n0_
        have HB := n1_
        clear n0_ n1_
        replace BK144 := dK BK144
        replace HB := Aside0.mk (below_drew1 HB.out)
        refine sA (n := 18) (S := fun w' => w'.cell? ⟨gb144, 0, none⟩ = some (.int .i64 ((rd_T25 l0 x7_1).f0)) ∧ w'.cell? ⟨gb144, 1, none⟩ = some (.int .i64 ((rd_T25 l0 x7_1).f1)) ∧ w'.cell? ⟨gb144, 2, none⟩ = some (.int .i64 ((rd_T25 l0 x7_1).f2)) ∧ w'.cell? ⟨gb144, 3, none⟩ = some (.int .i64 ((rd_T25 l0 x7_1).f3)) ∧ w'.cell? ⟨gb144, 4, none⟩ = some (.int .i64 ((rd_T25 l0 x7_1).f4))) (ds := []) impl_AreLeads.tab4 impl_AreLeads.bits4 #[false, false, false, false, false, false, false, false, false, false, false, false, false, false, false, false, false, false] ⟨cb BK144 0, cb BK144 1, cb BK144 2, cb BK144 3, cb BK144 4⟩ fun hHeld HT_ HW_ => ?_
        generalize w24.drew = w25 at BK144 HB hHeld ⊢
        refine tA 0 12 HT_ HW_ hHeld ?_
        refine oA 1 (some 13) HT_ fun K hK => ?_
        refine rA Try.func14 (impl_IsLead.calls ((rd_T25 l0 x7_1).f0) ((rd_T25 l0 x7_1).f1) ((rd_T25 l0 x7_1).f2) ((rd_T25 l0 x7_1).f3) ((rd_T25 l0 x7_1).f4) true _ A5.out) ?_
        intro w26 hb
        replace BK144 := uK BK144 hb
        replace HB := uB HB hb
        (try clear hb)
        refine hK.out _ _ ⟨cb BK144 0, cb BK144 1, cb BK144 2, cb BK144 3, cb BK144 4⟩ (fun hHeld => ?_)
        clear hK K
        refine nA ?_ (some 13)
        refine pA 2 14 HT_ ?_
        refine pA 3 15 HT_ ?_
        refine pA 4 16 HT_ ?_
        refine pA 5 17 HT_ ?_
        refine pA 6 18 HT_ ?_
        refine pU 7 19 HT_ ?_
        refine pU 8 20 HT_ ?_
        refine pU 9 21 HT_ ?_
        refine pU 10 22 HT_ ?_
        refine pU 11 23 HT_ ?_
        refine pU 12 24 HT_ ?_
        refine pU 13 25 HT_ ?_
        refine pU 14 26 HT_ ?_
        refine pU 15 27 HT_ ?_
        refine pA 16 28 HT_ ?_
        refine pA 17 29 HT_ ?_
        refine done_ (done_of HT_.out (by kernel_rfl)) ?_
        try go_wp2
        go_roundg k1
        case measure => have := HK1.out; omega
        case rel => exact ⟨(wrap64 (x7_1 + 1)), rB, H', ⟨by have := HK1.out; omega⟩, (aB HB)⟩
      ·replace H := iF (by decide) H
       obtain rfl := Option.some.inj H
       have p143 : 0 ≤ (x7_1 : Int) := of_decide_eq_true asmB
       have q143 : x7_1 < (l0.length : Int) := of_decide_eq_true asmB
       obtain ⟨ad143, e143, hx143_0, hx143_1, hx143_2, hx143_3, hx143_4⟩ := at_T25 HR0.out x7_1 p143 q143
       cases e143
       replace hx143_0 := bx HB.out hx143_0
       replace hx143_1 := bx HB.out hx143_1
       replace hx143_2 := bx HB.out hx143_2
       replace hx143_3 := bx HB.out hx143_3
       replace hx143_4 := bx HB.out hx143_4
       replace p143 := eq_true p143
       replace q143 := eq_true q143
       try go_wp2_with (first | ((with_reducible refine gD 4 ?_); refine bxE 4 25 #[.int .i64 0, .int .i64 0, .int .i64 0, .int .i64 0, .int .i64 0] fun gb144 w27 hg hbox hb => ?_; have BK144 := Aside0.mk hbox; have GE144 := gB HB hg; replace HB := uB HB hb; clear hb hbox hg; have ⟨hcz28_0, hcz28_1, hcz28_2, hcz28_3, hcz28_4, hfz28_0⟩ := cz5 BK144))
       have n0_ : Aside0 ((((((w27.setCell ⟨gb144, 0, none⟩ (.int .i64 ((rd_T25 l0 x7_1).f0))).setCell ⟨gb144, 1, none⟩ (.int .i64 ((rd_T25 l0 x7_1).f1))).setCell ⟨gb144, 2, none⟩ (.int .i64 ((rd_T25 l0 x7_1).f2))).setCell ⟨gb144, 3, none⟩ (.int .i64 ((rd_T25 l0 x7_1).f3))).setCell ⟨gb144, 4, none⟩ (.int .i64 ((rd_T25 l0 x7_1).f4))).heap[gb144]? = some (.cells #[.int .i64 ((rd_T25 l0 x7_1).f0), .int .i64 ((rd_T25 l0 x7_1).f1), .int .i64 ((rd_T25 l0 x7_1).f2), .int .i64 ((rd_T25 l0 x7_1).f3), .int .i64 ((rd_T25 l0 x7_1).f4)] 25 (0, 0))) := ⟨by exact pW BK144⟩
       have n1_ : Aside0 (Below w.heap.size w (((((w27.setCell ⟨gb144, 0, none⟩ (.int .i64 ((rd_T25 l0 x7_1).f0))).setCell ⟨gb144, 1, none⟩ (.int .i64 ((rd_T25 l0 x7_1).f1))).setCell ⟨gb144, 2, none⟩ (.int .i64 ((rd_T25 l0 x7_1).f2))).setCell ⟨gb144, 3, none⟩ (.int .i64 ((rd_T25 l0 x7_1).f3))).setCell ⟨gb144, 4, none⟩ (.int .i64 ((rd_T25 l0 x7_1).f4)))) := (aB HB)
       (try clear BK144)
       (try clear HB)
       generalize (((((w27.setCell ⟨gb144, 0, none⟩ (.int .i64 ((rd_T25 l0 x7_1).f0))).setCell ⟨gb144, 1, none⟩ (.int .i64 ((rd_T25 l0 x7_1).f1))).setCell ⟨gb144, 2, none⟩ (.int .i64 ((rd_T25 l0 x7_1).f2))).setCell ⟨gb144, 3, none⟩ (.int .i64 ((rd_T25 l0 x7_1).f3))).setCell ⟨gb144, 4, none⟩ (.int .i64 ((rd_T25 l0 x7_1).f4))) = w29 at n0_ n1_ ⊢
       have BK144 := n0_
       have HB := n1_
       clear n0_ n1_
       replace BK144 := dK BK144
       replace HB := Aside0.mk (below_drew1 HB.out)
       refine sA (n := 18) (S := fun w' => w'.cell? ⟨gb144, 0, none⟩ = some (.int .i64 ((rd_T25 l0 x7_1).f0)) ∧ w'.cell? ⟨gb144, 1, none⟩ = some (.int .i64 ((rd_T25 l0 x7_1).f1)) ∧ w'.cell? ⟨gb144, 2, none⟩ = some (.int .i64 ((rd_T25 l0 x7_1).f2)) ∧ w'.cell? ⟨gb144, 3, none⟩ = some (.int .i64 ((rd_T25 l0 x7_1).f3)) ∧ w'.cell? ⟨gb144, 4, none⟩ = some (.int .i64 ((rd_T25 l0 x7_1).f4))) (ds := []) impl_AreLeads.tab4 impl_AreLeads.bits4 #[false, false, false, false, false, false, false, false, false, false, false, false, false, false, false, false, false, false] ⟨cb BK144 0, cb BK144 1, cb BK144 2, cb BK144 3, cb BK144 4⟩ fun hHeld HT_ HW_ => ?_
       generalize w29.drew = w30 at BK144 HB hHeld ⊢
       refine tA 0 12 HT_ HW_ hHeld ?_
       refine oA 1 (some 13) HT_ fun K hK => ?_
       refine rA Try.func14 (impl_IsLead.calls ((rd_T25 l0 x7_1).f0) ((rd_T25 l0 x7_1).f1) ((rd_T25 l0 x7_1).f2) ((rd_T25 l0 x7_1).f3) ((rd_T25 l0 x7_1).f4) false _ A5.out) ?_
       intro w31 hb
       replace BK144 := uK BK144 hb
       replace HB := uB HB hb
       (try clear hb)
       refine hK.out _ _ ⟨cb BK144 0, cb BK144 1, cb BK144 2, cb BK144 3, cb BK144 4⟩ (fun hHeld => ?_)
       clear hK K
       refine nA ?_ (some 13)
       refine pA 2 14 HT_ ?_
       refine pA 3 15 HT_ ?_
       refine pU 4 16 HT_ ?_
       refine pU 5 17 HT_ ?_
       refine pU 6 18 HT_ ?_
       refine pU 7 19 HT_ ?_
       refine pU 8 20 HT_ ?_
       refine pU 9 21 HT_ ?_
       refine pU 10 22 HT_ ?_
       refine pU 11 23 HT_ ?_
       refine pU 12 24 HT_ ?_
       refine pU 13 25 HT_ ?_
       refine pU 14 26 HT_ ?_
       refine pU 15 27 HT_ ?_
       refine pU 16 28 HT_ ?_
       refine pA 17 29 HT_ ?_
       refine done_ (done_of HT_.out (by kernel_rfl)) ?_
       try go_wp2
       go_ret
       exact ⟨eB, (bW HB)⟩
     ·rw [if_neg c4] at H
      exact absurd H (by simp)
    ·rw [if_neg c3] at H
     exact absurd H (by simp)
   ·obtain rfl := Option.some.inj H
    go_wp2
    go_ret
    exact ⟨eB, (bW HB)⟩

/-! ### impl_ranked_1: function 67 -/
def impl_ranked_1.f (a0_0 a0_1 a0_2 a0_3 a0_4 : Int) : Option (Bool) := some (a0_4 != 0)
set_option maxHeartbeats 8000000 in
set_option maxRecDepth 100000 in
theorem impl_ranked_1.calls (a0_0 a0_1 a0_2 a0_3 a0_4 : Int) (r : Bool) (w : World) (h : impl_ranked_1.f a0_0 a0_1 a0_2 a0_3 a0_4 = some r) :
  Calls Try.prog 67 #[.agg #[.int .i64 a0_0, .int .i64 a0_1, .int .i64 a0_2, .int .i64 a0_3, .int .i64 a0_4]] w fun e w' => e = .returned (.bool r) ∧ Below w.heap.size w w' := by
 have hu25 := Try.underlying25
 have HB := Aside0.mk (Below.refl w.heap.size w)
 have H : (some (a0_4 != 0)) = some r := h
 clear h
 obtain rfl := Option.some.inj H
 go_enter Try.func67, Try.ntmps67
 go_wp2_with (first | ((with_reducible refine gD 1 ?_); refine bxE 1 25 #[.int .i64 a0_0, .int .i64 a0_1, .int .i64 a0_2, .int .i64 a0_3, .int .i64 a0_4] fun gb147 w2 hg hbox hb => ?_; have BK147 := Aside0.mk hbox; have GE147 := gB HB hg; replace HB := uB HB hb; clear hb hbox hg; have ⟨hcz3_0, hcz3_1, hcz3_2, hcz3_3, hcz3_4, hfz3_0⟩ := cz5 BK147))
 go_ret
 exact ⟨eB, (bW HB)⟩

end Go.Proofs.Ytldgjibimolcdaa.QFnLeadTrips
