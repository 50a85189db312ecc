/- Contracts of Go functions that FnPermits reaches: the call computes what the plain function says. No condition. -/
import Derived.Test.YtgeioccfjgpijaaDoorQFnPermitsx0
import Derived.Test.YtgeioccfjgpijaaDoorQFnPermitsx2
import Derived.Test.YtgeioccfjgpijaaDoorQFnPermitsx3
import Derived.Test.YtgeioccfjgpijaaDoorQFnPermitsx6
import Derived.Test.YtgeioccfjgpijaaDoorQFnPermitsx7
namespace Go.Proofs.YtgeioccfjgpijaaDoor.QFnPermits
open Go.RowKit Go.Proofs.YtgeioccfjgpijaaDoorW.PrintWords Go.Proofs.YtgeioccfjgpijaaDoorW.PrintLast Go.Proofs.YtgeioccfjgpijaaDoorW.PrintMore
attribute [local go_sem] max2_int min2_int max_two min_two max_three min_three max_four min_four   -- for this text's walks alone
set_option linter.unusedVariables false
set_option linter.unusedSimpArgs false

/-! ### spec_UsePermit: function 33 -/
def spec_UsePermit.f (k : Nat) (l0 : List (S26)) (a1 a2 a3 : Int) : Option ((List (S26)) × Bool) := (spec_l22Find.f k l0 a1).bind fun t210 => ((spec_l22Good.f k l0).bind fun t211 => (if t211 = true then (if t210 < 0 then (some ((([] : List (S26))), false)) else (if 0 ≤ t210 then (if t210 < (l0.length : Int) then ((spec_l22Holds.f ((rd_T26 l0 t210).f0) ((rd_T26 l0 t210).f1) ((rd_T26 l0 t210).f2) ((rd_T26 l0 t210).f3) ((rd_T26 l0 t210).f4) ((rd_T26 l0 t210).f5)).bind fun t216 => (if t216 = true then ((spec_l1In.f a2 ((rd_T26 l0 t210).f2) ((rd_T26 l0 t210).f3)).bind fun t219 => (if t219 = true then ((spec_l1In.f a3 1 ((rd_T26 l0 t210).f4)).bind fun t221 => (if t221 = true then ((spec_l22With.f l0 t210 3).bind fun t222 => (some (t222, true))) else (some ((([] : List (S26))), false)))) else (some ((([] : List (S26))), false)))) else (some ((([] : List (S26))), false)))) else (none)) else (none))) else (some ((([] : List (S26))), false))))
theorem spec_UsePermit.mono : ∀ a0 a1 a2 a3 k, LeO (spec_UsePermit.f k a0 a1 a2 a3) (spec_UsePermit.f (k + 1) a0 a1 a2 a3) := by
 intro a0 a1 a2 a3 k
 unfold spec_UsePermit.f
 repeat' with_reducible first | apply spec_l22Find.mono | apply spec_l22Good.mono | exact LeO.refl _ | exact LeO.none _ | refine LeO.ite ?_ ?_ | refine LeO.bind ?_ (fun _ => ?_)
def spec_UsePermit.T2 : Bool × List (List Nat × List Nat) := (true, [([], []), ([0], [0]), ([1], [1]), ([2, 1], [2]), ([3], [3]), ([4, 3], [3, 4]), ([3, 5], [3, 5]), ([6, 3], [6]), ([7], [7]), ([7], [7]), ([8, 9, 7], [7, 8, 9]), ([10, 7], [7, 10]), ([11, 7, 7], [7, 11]), ([12, 7], [7, 12]), ([7, 13], [7, 13]), ([14, 12], [14]), ([15], [15]), ([15], [15]), ([15], [15]), ([17, 18, 15], [15, 17, 18]), ([19, 15], [15, 19]), ([20, 15], [15, 20]), ([15], [15]), ([15], [15]), ([22, 23, 15], [15, 22, 23]), ([24, 15], [15, 24]), ([25, 15], [15, 25]), ([16, 21, 26, 15, 15], [15, 16, 21, 26]), ([27, 15], [15, 27]), ([15, 28], [15, 28]), ([29, 27], [29]), ([30], [30]), ([30], [30]), ([30], [30]), ([32, 33, 30], [30, 32, 33]), ([34, 30], [30, 34]), ([35, 30], [30, 35]), ([31, 36, 30, 30], [30, 31, 36]), ([37, 30], [30, 37]), ([30, 38], [30, 38])])
def spec_UsePermit.B2 : List Nat := [0, 1, 3, 7, 15, 31, 63, 127, 255, 255, 1023, 2047, 4095, 8191, 16383, 32767, 65535, 65535, 65535, 458751, 983039, 2031615, 65535, 65535, 12648447, 29425663, 62980095, 134217727, 268435455, 536870911, 1073741823, 2147483647, 2147483647, 2147483647, 15032385535, 32212254719, 66571993087, 137438953471, 274877906943, 549755813887]
theorem spec_UsePermit.tab2 : rtab .any (opsOf Tryd.f33 2) = spec_UsePermit.T2 := by kernel_rfl
theorem spec_UsePermit.bits2 : waitsOk spec_UsePermit.T2.2 spec_UsePermit.B2 = true := by kernel_rfl
set_option maxHeartbeats 8000000 in
set_option maxRecDepth 100000 in
theorem spec_UsePermit.calls (k : Nat) (A0 : Option Addr) (c0 : Nat) (l0 : List (S26)) (a1 a2 a3 : Int) (r1 : List (S26)) (r2 : Bool) (w : World) (hr0 : Kd.C k26 w A0 l0.length l0) (hc0 : l0.length ≤ c0) (h : spec_UsePermit.f k l0 a1 a2 a3 = some (r1, r2)) :
  Calls Tryd.prog 33 #[.slice A0 l0.length c0, .int .i64 a1, .int .i64 a2, .int .i64 a3] w fun e w' => ∃ v0_ : Value, e = .returned (.tuple #[v0_, .bool r2]) ∧ Kd.R k26 26 w' w.heap.size (fun _ => True) v0_ r1 ∧ Below w.heap.size w w' := by
 have hu26 := Tryd.underlying26
 have HR0 := Aside0.mk hr0
 have HC0 := Aside0.mk hc0
 clear hr0 hc0
 have HB := Aside0.mk (Below.refl w.heap.size w)
 have H := h
 clear h
 unfold spec_UsePermit.f at H
 replace H := bA H
 obtain ⟨t210, A5, H⟩ := H
 replace H := bA H
 obtain ⟨t211, A6, H⟩ := H
 rcases Bool.eq_false_or_eq_true t211 with rfl | rfl
 ·replace H := iT rfl H
  replace H := ifD H
  rcases H with ⟨H, -, c8b0⟩ | ⟨H, -, c8b0⟩
  ·obtain ⟨y212, hy212⟩ : ∃ y_ : List (S26), y_ = (([] : List (S26))) := ⟨_, rfl⟩
   replace H : (some (y212, false)) = some (r1, r2) := by first | (rw [hy212]; with_reducible exact H) | (have H2_ := (Option.bind_some _ _).symm.trans H; rw [hy212]; with_reducible exact H2_) | (have H2_ := (Option.bind_some _ _).symm.trans H; with_reducible exact H2_) | with_reducible exact H | (rw [hy212]; exact H) | exact H
   have Ny212 := Aside0.mk hy212
   clear hy212
   simp only [Option.some.injEq, Prod.mk.injEq] at H
   obtain ⟨rfl, rfl⟩ := H
   go_enter Tryd.func33, Tryd.ntmps33
   try go_wp2_with (first | ((with_reducible refine gC 73 ?_); refine lA (some 13) Tryd.func73 (spec_l22Find.calls k _ _ l0 a1 t210 _ ?side1 ?side2 A5.out) ?_; (case side1 => repeat (first | exact HR0.out | (with_reducible refine Kd.C_alloc ?_ _) | (with_reducible refine Kd.C_drewN ?_ _) | (with_reducible refine Kd.C_drew ?_))); (case side2 => exact HC0.out); rintro _ ⟨nd, rfl⟩))
   have HBn_ : Below w.heap.size w (w.drewN nd) := upB HB.out
   generalize w.drewN nd = wn_ at HBn_ ⊢
   clear HB
   have HB := Aside0.mk HBn_
   clear HBn_
   replace HB := Aside0.mk (below_drew1 HB.out)
   refine start_ (n := 40) (S := fun w' => True) (ds := []) #[false, false, false, false, false, false, false, false, false, false, false, false, false, false, false, false, false, false, false, false, false, false, false, false, false, false, false, false, false, false, false, false, false, false, false, false, false, false, false, false] (by kernel_rfl) rfl rfl trivial (fun hHeld => ?_); refine with_tabW spec_UsePermit.tab2 spec_UsePermit.bits2 (fun HT_ HW_ => ?_)
   generalize wn_.drew = w9 at HB hHeld ⊢
   refine pA 0 14 HT_ ?_
   refine oA 1 (some 15) HT_ fun K hK => ?_
   refine rA Tryd.func58 (spec_l22Good.calls k _ _ l0 true _ ?side1 ?side2 A6.out) ?_
   (case side1 => repeat (first | exact (Kd.C_below HR0.out HB.out) | (with_reducible refine Kd.C_alloc ?_ _) | (with_reducible refine Kd.C_drewN ?_ _) | (with_reducible refine Kd.C_drew ?_)))
   (case side2 => exact HC0.out)
   intro w10 hb
   replace HB := uB HB hb
   (try clear hb)
   refine hK.out _ _ trivial (fun hHeld => ?_)
   clear hK K
   refine nA ?_ (some 15)
   refine pA 2 16 HT_ ?_
   refine pA 3 17 HT_ ?_
   refine pA 4 18 HT_ ?_
   refine pA 5 19 HT_ ?_
   refine pA 6 20 HT_ ?_
   refine pA 7 21 HT_ ?_
   refine pU 8 22 HT_ ?_
   refine pU 9 23 HT_ ?_
   refine pU 10 24 HT_ ?_
   refine pU 11 25 HT_ ?_
   refine pU 12 26 HT_ ?_
   refine pU 13 27 HT_ ?_
   refine pA 14 28 HT_ ?_
   refine pA 15 29 HT_ ?_
   refine pU 16 30 HT_ ?_
   refine pU 17 31 HT_ ?_
   refine pU 18 32 HT_ ?_
   refine pU 19 33 HT_ ?_
   refine pU 20 34 HT_ ?_
   refine pU 21 35 HT_ ?_
   refine pU 22 36 HT_ ?_
   refine pU 23 37 HT_ ?_
   refine pU 24 38 HT_ ?_
   refine pU 25 39 HT_ ?_
   refine pU 26 40 HT_ ?_
   refine pU 27 41 HT_ ?_
   refine pU 28 42 HT_ ?_
   refine pA 29 43 HT_ ?_
   refine pA 30 44 HT_ ?_
   refine pU 31 45 HT_ ?_
   refine pU 32 46 HT_ ?_
   refine pU 33 47 HT_ ?_
   refine pU 34 48 HT_ ?_
   refine pU 35 49 HT_ ?_
   refine pU 36 50 HT_ ?_
   refine pU 37 51 HT_ ?_
   refine pU 38 52 HT_ ?_
   refine pA 39 53 HT_ ?_
   refine done_ (done_of HT_.out (by kernel_rfl)) ?_
   try go_wp2_with (first | ((with_reducible refine gate_dst (N := 54) rfl ?_); refine Kd.R_lit k26 _ 26 ?hg (N := 54) ?hd (xs := ([] : List (S26))) (inner := []) (ok := fun _ => True) (okp := fun _ => True) ?hr ?hp (fun _ hk => hk) trivial (Below.refl _ _) (Nat.le_refl _) (by simp) ?_; (case hd => rfl); (case hg => rfl); (case hr => first | (go_simp; done) | (go_simp; rfl)); (case hp => exact (Reps.none _ _)); intro v213 w11 ho12 hb hg_ hnew_; clear hg_ hnew_; (first | rw [← Ny212.out] at ho12 | (simp only [Int.reduceToNat] at ho12; rw [← Ny212.out] at ho12)); have HO214 := Aside0.mk (Kd.R_lower ho12 (below_size (bW HB))); replace HB := uB HB hb; clear hb ho12))
   go_ret2
   exact ⟨_, eB, upR HO214.out, (bW HB)⟩
  ·by_cases c13 : 0 ≤ t210
   ·rw [if_pos c13] at H
    have c13b0 : decide (0 ≤ t210) = true := decide_eq_true c13
    clear c13
    by_cases c14 : t210 < (l0.length : Int)
    ·rw [if_pos c14] at H
     have c14b0 : decide (t210 < (l0.length : Int)) = true := decide_eq_true c14
     clear c14
     replace H := bA H
     obtain ⟨t216, A15, H⟩ := H
     rcases Bool.eq_false_or_eq_true t216 with rfl | rfl
     ·replace H := iT rfl H
      replace H := bA H
      obtain ⟨t219, A17, H⟩ := H
      rcases Bool.eq_false_or_eq_true t219 with rfl | rfl
      ·replace H := iT rfl H
       replace H := bA H
       obtain ⟨t221, A19, H⟩ := H
       rcases Bool.eq_false_or_eq_true t221 with rfl | rfl
       ·replace H := iT rfl H
        replace H := bA H
        obtain ⟨t222, A21, H⟩ := H
        simp only [Option.some.injEq, Prod.mk.injEq] at H
        obtain ⟨rfl, rfl⟩ := H
        go_enter Tryd.func33, Tryd.ntmps33
        try go_wp2_with (first | ((with_reducible refine gC 73 ?_); refine lA (some 13) Tryd.func73 (spec_l22Find.calls k _ _ l0 a1 t210 _ ?side1 ?side2 A5.out) ?_; (case side1 => repeat (first | exact HR0.out | (with_reducible refine Kd.C_alloc ?_ _) | (with_reducible refine Kd.C_drewN ?_ _) | (with_reducible refine Kd.C_drew ?_))); (case side2 => exact HC0.out); rintro _ ⟨nd, rfl⟩))
        have HBn_ : Below w.heap.size w (w.drewN nd) := upB HB.out
        generalize w.drewN nd = wn_ at HBn_ ⊢
        clear HB
        have HB := Aside0.mk HBn_
        clear HBn_
        replace HB := Aside0.mk (below_drew1 HB.out)
        have p215 : 0 ≤ (t210 : Int) := of_decide_eq_true asmB
        have q215 : t210 < (l0.length : Int) := of_decide_eq_true asmB
        obtain ⟨ad215, e215, hx215_0, hx215_1, hx215_2, hx215_3, hx215_4, hx215_5⟩ := at_T26 HR0.out t210 p215 q215
        have hw215_5 := hx215_5
        have hw215_4 := hx215_4
        have hw215_3 := hx215_3
        have hw215_2 := hx215_2
        have hw215_1 := hx215_1
        have hw215_0 := hx215_0
        cases e215
        replace hx215_0 := bx HB.out hx215_0
        replace hx215_1 := bx HB.out hx215_1
        replace hx215_2 := bx HB.out hx215_2
        replace hx215_3 := bx HB.out hx215_3
        replace hx215_4 := bx HB.out hx215_4
        replace hx215_5 := bx HB.out hx215_5
        replace p215 := eq_true p215
        replace q215 := eq_true q215
        have p217 : 0 ≤ (t210 : Int) := of_decide_eq_true asmB
        have q217 : t210 < (l0.length : Int) := of_decide_eq_true asmB
        obtain ⟨ad217, e217, hx217_0, hx217_1, hx217_2, hx217_3, hx217_4, hx217_5⟩ := at_T26 HR0.out t210 p217 q217
        have hw217_5 := hx217_5
        have hw217_4 := hx217_4
        have hw217_3 := hx217_3
        have hw217_2 := hx217_2
        have hw217_1 := hx217_1
        have hw217_0 := hx217_0
        obtain rfl : ad215 = ad217 := (by injection e217)
        replace hx217_0 := bx HB.out hx217_0
        replace hx217_1 := bx HB.out hx217_1
        replace hx217_2 := bx HB.out hx217_2
        replace hx217_3 := bx HB.out hx217_3
        replace hx217_4 := bx HB.out hx217_4
        replace hx217_5 := bx HB.out hx217_5
        replace p217 := eq_true p217
        replace q217 := eq_true q217
        have p218 : 0 ≤ (t210 : Int) := of_decide_eq_true asmB
        have q218 : t210 < (l0.length : Int) := of_decide_eq_true asmB
        obtain ⟨ad218, e218, hx218_0, hx218_1, hx218_2, hx218_3, hx218_4, hx218_5⟩ := at_T26 HR0.out t210 p218 q218
        have hw218_5 := hx218_5
        have hw218_4 := hx218_4
        have hw218_3 := hx218_3
        have hw218_2 := hx218_2
        have hw218_1 := hx218_1
        have hw218_0 := hx218_0
        obtain rfl : ad215 = ad218 := (by injection e218)
        replace hx218_0 := bx HB.out hx218_0
        replace hx218_1 := bx HB.out hx218_1
        replace hx218_2 := bx HB.out hx218_2
        replace hx218_3 := bx HB.out hx218_3
        replace hx218_4 := bx HB.out hx218_4
        replace hx218_5 := bx HB.out hx218_5
        replace p218 := eq_true p218
        replace q218 := eq_true q218
        have p220 : 0 ≤ (t210 : Int) := of_decide_eq_true asmB
        have q220 : t210 < (l0.length : Int) := of_decide_eq_true asmB
        obtain ⟨ad220, e220, hx220_0, hx220_1, hx220_2, hx220_3, hx220_4, hx220_5⟩ := at_T26 HR0.out t210 p220 q220
        have hw220_5 := hx220_5
        have hw220_4 := hx220_4
        have hw220_3 := hx220_3
        have hw220_2 := hx220_2
        have hw220_1 := hx220_1
        have hw220_0 := hx220_0
        obtain rfl : ad215 = ad220 := (by injection e220)
        replace hx220_0 := bx HB.out hx220_0
        replace hx220_1 := bx HB.out hx220_1
        replace hx220_2 := bx HB.out hx220_2
        replace hx220_3 := bx HB.out hx220_3
        replace hx220_4 := bx HB.out hx220_4
        replace hx220_5 := bx HB.out hx220_5
        replace p220 := eq_true p220
        replace q220 := eq_true q220
        refine sA (n := 40) (S := fun w' => w'.cell? (ad215.add ((t210).toNat * 6)) = some (.int .i64 ((rd_T26 l0 t210).f0)) ∧ w'.cell? ⟨(ad215.add ((t210).toNat * 6)).block, (ad215.add ((t210).toNat * 6)).off + 1, none⟩ = some (.string ((rd_T26 l0 t210).f1)) ∧ w'.cell? ⟨(ad215.add ((t210).toNat * 6)).block, (ad215.add ((t210).toNat * 6)).off + 2, none⟩ = some (.int .i64 ((rd_T26 l0 t210).f2)) ∧ w'.cell? ⟨(ad215.add ((t210).toNat * 6)).block, (ad215.add ((t210).toNat * 6)).off + 3, none⟩ = some (.int .i64 ((rd_T26 l0 t210).f3)) ∧ w'.cell? ⟨(ad215.add ((t210).toNat * 6)).block, (ad215.add ((t210).toNat * 6)).off + 4, none⟩ = some (.int .i64 ((rd_T26 l0 t210).f4)) ∧ w'.cell? ⟨(ad215.add ((t210).toNat * 6)).block, (ad215.add ((t210).toNat * 6)).off + 5, none⟩ = some (.int .i64 ((rd_T26 l0 t210).f5)) ∧ w'.cell? (ad215.add ((t210).toNat * 6)) = some (.int .i64 ((rd_T26 l0 t210).f0)) ∧ w'.cell? ⟨(ad215.add ((t210).toNat * 6)).block, (ad215.add ((t210).toNat * 6)).off + 1, none⟩ = some (.string ((rd_T26 l0 t210).f1)) ∧ w'.cell? ⟨(ad215.add ((t210).toNat * 6)).block, (ad215.add ((t210).toNat * 6)).off + 2, none⟩ = some (.int .i64 ((rd_T26 l0 t210).f2)) ∧ w'.cell? ⟨(ad215.add ((t210).toNat * 6)).block, (ad215.add ((t210).toNat * 6)).off + 3, none⟩ = some (.int .i64 ((rd_T26 l0 t210).f3)) ∧ w'.cell? ⟨(ad215.add ((t210).toNat * 6)).block, (ad215.add ((t210).toNat * 6)).off + 4, none⟩ = some (.int .i64 ((rd_T26 l0 t210).f4)) ∧ w'.cell? ⟨(ad215.add ((t210).toNat * 6)).block, (ad215.add ((t210).toNat * 6)).off + 5, none⟩ = some (.int .i64 ((rd_T26 l0 t210).f5)) ∧ w'.cell? (ad215.add ((t210).toNat * 6)) = some (.int .i64 ((rd_T26 l0 t210).f0)) ∧ w'.cell? ⟨(ad215.add ((t210).toNat * 6)).block, (ad215.add ((t210).toNat * 6)).off + 1, none⟩ = some (.string ((rd_T26 l0 t210).f1)) ∧ w'.cell? ⟨(ad215.add ((t210).toNat * 6)).block, (ad215.add ((t210).toNat * 6)).off + 2, none⟩ = some (.int .i64 ((rd_T26 l0 t210).f2)) ∧ w'.cell? ⟨(ad215.add ((t210).toNat * 6)).block, (ad215.add ((t210).toNat * 6)).off + 3, none⟩ = some (.int .i64 ((rd_T26 l0 t210).f3)) ∧ w'.cell? ⟨(ad215.add ((t210).toNat * 6)).block, (ad215.add ((t210).toNat * 6)).off + 4, none⟩ = some (.int .i64 ((rd_T26 l0 t210).f4)) ∧ w'.cell? ⟨(ad215.add ((t210).toNat * 6)).block, (ad215.add ((t210).toNat * 6)).off + 5, none⟩ = some (.int .i64 ((rd_T26 l0 t210).f5)) ∧ w'.cell? (ad215.add ((t210).toNat * 6)) = some (.int .i64 ((rd_T26 l0 t210).f0)) ∧ w'.cell? ⟨(ad215.add ((t210).toNat * 6)).block, (ad215.add ((t210).toNat * 6)).off + 1, none⟩ = some (.string ((rd_T26 l0 t210).f1)) ∧ w'.cell? ⟨(ad215.add ((t210).toNat * 6)).block, (ad215.add ((t210).toNat * 6)).off + 2, none⟩ = some (.int .i64 ((rd_T26 l0 t210).f2)) ∧ w'.cell? ⟨(ad215.add ((t210).toNat * 6)).block, (ad215.add ((t210).toNat * 6)).off + 3, none⟩ = some (.int .i64 ((rd_T26 l0 t210).f3)) ∧ w'.cell? ⟨(ad215.add ((t210).toNat * 6)).block, (ad215.add ((t210).toNat * 6)).off + 4, none⟩ = some (.int .i64 ((rd_T26 l0 t210).f4)) ∧ w'.cell? ⟨(ad215.add ((t210).toNat * 6)).block, (ad215.add ((t210).toNat * 6)).off + 5, none⟩ = some (.int .i64 ((rd_T26 l0 t210).f5))) (ds := []) spec_UsePermit.tab2 spec_UsePermit.bits2 #[false, false, false, false, false, false, false, false, false, false, false, false, false, false, false, false, false, false, false, false, false, false, false, false, false, false, false, false, false, false, false, false, false, false, false, false, false, false, false, false] ⟨(bX HB hw215_0), (bX HB hw215_1), (bX HB hw215_2), (bX HB hw215_3), (bX HB hw215_4), (bX HB hw215_5), (bX HB hw217_0), (bX HB hw217_1), (bX HB hw217_2), (bX HB hw217_3), (bX HB hw217_4), (bX HB hw217_5), (bX HB hw218_0), (bX HB hw218_1), (bX HB hw218_2), (bX HB hw218_3), (bX HB hw218_4), (bX HB hw218_5), (bX HB hw220_0), (bX HB hw220_1), (bX HB hw220_2), (bX HB hw220_3), (bX HB hw220_4), (bX HB hw220_5)⟩ fun hHeld HT_ HW_ => ?_
        generalize wn_.drew = w22 at HB hx215_0 hx215_1 hx215_2 hx215_3 hx215_4 hx215_5 hx217_0 hx217_1 hx217_2 hx217_3 hx217_4 hx217_5 hx218_0 hx218_1 hx218_2 hx218_3 hx218_4 hx218_5 hx220_0 hx220_1 hx220_2 hx220_3 hx220_4 hx220_5 hHeld ⊢
        refine pA 0 14 HT_ ?_
        refine oA 1 (some 15) HT_ fun K hK => ?_
        refine rA Tryd.func58 (spec_l22Good.calls k _ _ l0 true _ ?side1 ?side2 A6.out) ?_
        (case side1 => repeat (first | exact (Kd.C_below HR0.out HB.out) | (with_reducible refine Kd.C_alloc ?_ _) | (with_reducible refine Kd.C_drewN ?_ _) | (with_reducible refine Kd.C_drew ?_)))
        (case side2 => exact HC0.out)
        intro w23 hb
        replace HB := uB HB hb
        (try clear hb)
        refine hK.out _ _ ⟨(bX HB hw215_0), (bX HB hw215_1), (bX HB hw215_2), (bX HB hw215_3), (bX HB hw215_4), (bX HB hw215_5), (bX HB hw217_0), (bX HB hw217_1), (bX HB hw217_2), (bX HB hw217_3), (bX HB hw217_4), (bX HB hw217_5), (bX HB hw218_0), (bX HB hw218_1), (bX HB hw218_2), (bX HB hw218_3), (bX HB hw218_4), (bX HB hw218_5), (bX HB hw220_0), (bX HB hw220_1), (bX HB hw220_2), (bX HB hw220_3), (bX HB hw220_4), (bX HB hw220_5)⟩ (fun hHeld => ?_)
        clear hK K
        refine nA ?_ (some 15)
        refine pA 2 16 HT_ ?_
        refine pA 3 17 HT_ ?_
        refine pA 4 18 HT_ ?_
        refine pA 5 19 HT_ ?_
        refine pA 6 20 HT_ ?_
        refine pA 7 21 HT_ ?_
        refine pA 8 22 HT_ ?_
        refine pA 9 23 HT_ ?_
        refine pA 10 24 HT_ ?_
        refine tA 11 25 HT_ HW_ hHeld ?_
        refine oA 12 (some 26) HT_ fun K hK => ?_
        refine rA Tryd.func70 (spec_l22Holds.calls ((rd_T26 l0 t210).f0) ((rd_T26 l0 t210).f1) ((rd_T26 l0 t210).f2) ((rd_T26 l0 t210).f3) ((rd_T26 l0 t210).f4) ((rd_T26 l0 t210).f5) true _ A15.out) ?_
        intro w24 hb
        replace HB := uB HB hb
        (try clear hb)
        refine hK.out _ _ ⟨(bX HB hw215_0), (bX HB hw215_1), (bX HB hw215_2), (bX HB hw215_3), (bX HB hw215_4), (bX HB hw215_5), (bX HB hw217_0), (bX HB hw217_1), (bX HB hw217_2), (bX HB hw217_3), (bX HB hw217_4), (bX HB hw217_5), (bX HB hw218_0), (bX HB hw218_1), (bX HB hw218_2), (bX HB hw218_3), (bX HB hw218_4), (bX HB hw218_5), (bX HB hw220_0), (bX HB hw220_1), (bX HB hw220_2), (bX HB hw220_3), (bX HB hw220_4), (bX HB hw220_5)⟩ (fun hHeld => ?_)
        clear hK K
        refine nA ?_ (some 26)
        refine pA 13 27 HT_ ?_
        refine pA 14 28 HT_ ?_
        refine pA 15 29 HT_ ?_
        refine pA 16 30 HT_ ?_
        refine pA 17 31 HT_ ?_
        refine pA 18 32 HT_ ?_
        refine pA 19 33 HT_ ?_
        refine pA 20 34 HT_ ?_
        refine pA 22 36 HT_ ?_
        refine pA 23 37 HT_ ?_
        refine pA 24 38 HT_ ?_
        refine pA 25 39 HT_ ?_
        refine tA 21 35 HT_ HW_ hHeld ?_
        refine tA 26 40 HT_ HW_ hHeld ?_
        refine oA 27 (some 41) HT_ fun K hK => ?_
        refine rA Tryd.func67 (spec_l1In.calls a2 ((rd_T26 l0 t210).f2) ((rd_T26 l0 t210).f3) true _ A17.out) ?_
        rintro _ ⟨nd, rfl⟩
        refine hK.out _ _ ⟨(bXn HB hw215_0), (bXn HB hw215_1), (bXn HB hw215_2), (bXn HB hw215_3), (bXn HB hw215_4), (bXn HB hw215_5), (bXn HB hw217_0), (bXn HB hw217_1), (bXn HB hw217_2), (bXn HB hw217_3), (bXn HB hw217_4), (bXn HB hw217_5), (bXn HB hw218_0), (bXn HB hw218_1), (bXn HB hw218_2), (bXn HB hw218_3), (bXn HB hw218_4), (bXn HB hw218_5), (bXn HB hw220_0), (bXn HB hw220_1), (bXn HB hw220_2), (bXn HB hw220_3), (bXn HB hw220_4), (bXn HB hw220_5)⟩ (fun hHeld => ?_)
        clear hK K
        refine nA ?_ (some 41)
        refine pA 28 42 HT_ ?_
        refine pA 29 43 HT_ ?_
        refine pA 30 44 HT_ ?_
        refine pA 31 45 HT_ ?_
        refine pA 32 46 HT_ ?_
        refine pA 33 47 HT_ ?_
        refine pA 34 48 HT_ ?_
        refine pA 35 49 HT_ ?_
        refine tA 36 50 HT_ HW_ hHeld ?_
        refine oA 37 (some 51) HT_ fun K hK => ?_
        refine rA Tryd.func67 (spec_l1In.calls a3 1 ((rd_T26 l0 t210).f4) true _ A19.out) ?_
        rintro _ ⟨nd, rfl⟩
        refine hK.out _ _ ⟨(bXn HB hw215_0), (bXn HB hw215_1), (bXn HB hw215_2), (bXn HB hw215_3), (bXn HB hw215_4), (bXn HB hw215_5), (bXn HB hw217_0), (bXn HB hw217_1), (bXn HB hw217_2), (bXn HB hw217_3), (bXn HB hw217_4), (bXn HB hw217_5), (bXn HB hw218_0), (bXn HB hw218_1), (bXn HB hw218_2), (bXn HB hw218_3), (bXn HB hw218_4), (bXn HB hw218_5), (bXn HB hw220_0), (bXn HB hw220_1), (bXn HB hw220_2), (bXn HB hw220_3), (bXn HB hw220_4), (bXn HB hw220_5)⟩ (fun hHeld => ?_)
        clear hK K
        refine nA ?_ (some 51)
        refine pA 38 52 HT_ ?_
        refine pA 39 53 HT_ ?_
        refine done_ (done_of HT_.out (by kernel_rfl)) ?_
        try go_wp2_with (first | ((with_reducible refine gate_callee (f := 71) rfl ?_); refine goesL_ (some 57) rfl rfl Tryd.func71 (by kernel_rfl) rfl #[.slice (some ad215) l0.length c0, .int .i64 t210, .int .i64 3] rfl argsB ?_; (with_reducible refine (spec_l22With.calls _ _ l0 t210 3 t222 _ ?side1 ?side2 A21.out).mono ?_); (case side1 => repeat (first | exact (Kd.C_below HR0.out (bW HB)) | (with_reducible refine Kd.C_alloc ?_ _) | (with_reducible refine Kd.C_drewN ?_ _) | (with_reducible refine Kd.C_drew ?_))); (case side2 => exact HC0.out); rintro e w25 ⟨v223, rfl, ho0, hb⟩; refine ⟨_, rfl, ?_⟩; have HO224 := Aside0.mk (Kd.R_lower ho0 (below_size (bW HB))); replace HB := uB HB hb; (try clear hb); (try clear hk); (try clear ho0)))
        go_ret2
        exact ⟨_, eB, upR HO224.out, (bW HB)⟩
       ·replace H := iF (by decide) H
        obtain ⟨y225, hy225⟩ : ∃ y_ : List (S26), y_ = (([] : List (S26))) := ⟨_, rfl⟩
        replace H : (some (y225, false)) = some (r1, r2) := by first | (rw [hy225]; with_reducible exact H) | (have H2_ := (Option.bind_some _ _).symm.trans H; rw [hy225]; with_reducible exact H2_) | (have H2_ := (Option.bind_some _ _).symm.trans H; with_reducible exact H2_) | with_reducible exact H | (rw [hy225]; exact H) | exact H
        have Ny225 := Aside0.mk hy225
        clear hy225
        simp only [Option.some.injEq, Prod.mk.injEq] at H
        obtain ⟨rfl, rfl⟩ := H
        go_enter Tryd.func33, Tryd.ntmps33
        try go_wp2_with (first | ((with_reducible refine gC 73 ?_); refine lA (some 13) Tryd.func73 (spec_l22Find.calls k _ _ l0 a1 t210 _ ?side1 ?side2 A5.out) ?_; (case side1 => repeat (first | exact HR0.out | (with_reducible refine Kd.C_alloc ?_ _) | (with_reducible refine Kd.C_drewN ?_ _) | (with_reducible refine Kd.C_drew ?_))); (case side2 => exact HC0.out); rintro _ ⟨nd, rfl⟩))
        have HBn_ : Below w.heap.size w (w.drewN nd) := upB HB.out
        generalize w.drewN nd = wn_ at HBn_ ⊢
        clear HB
        have HB := Aside0.mk HBn_
        clear HBn_
        replace HB := Aside0.mk (below_drew1 HB.out)
        have p215 : 0 ≤ (t210 : Int) := of_decide_eq_true asmB
        have q215 : t210 < (l0.length : Int) := of_decide_eq_true asmB
        obtain ⟨ad215, e215, hx215_0, hx215_1, hx215_2, hx215_3, hx215_4, hx215_5⟩ := at_T26 HR0.out t210 p215 q215
        have hw215_5 := hx215_5
        have hw215_4 := hx215_4
        have hw215_3 := hx215_3
        have hw215_2 := hx215_2
        have hw215_1 := hx215_1
        have hw215_0 := hx215_0
        cases e215
        replace hx215_0 := bx HB.out hx215_0
        replace hx215_1 := bx HB.out hx215_1
        replace hx215_2 := bx HB.out hx215_2
        replace hx215_3 := bx HB.out hx215_3
        replace hx215_4 := bx HB.out hx215_4
        replace hx215_5 := bx HB.out hx215_5
        replace p215 := eq_true p215
        replace q215 := eq_true q215
        have p217 : 0 ≤ (t210 : Int) := of_decide_eq_true asmB
        have q217 : t210 < (l0.length : Int) := of_decide_eq_true asmB
        obtain ⟨ad217, e217, hx217_0, hx217_1, hx217_2, hx217_3, hx217_4, hx217_5⟩ := at_T26 HR0.out t210 p217 q217
        have hw217_5 := hx217_5
        have hw217_4 := hx217_4
        have hw217_3 := hx217_3
        have hw217_2 := hx217_2
        have hw217_1 := hx217_1
        have hw217_0 := hx217_0
        obtain rfl : ad215 = ad217 := (by injection e217)
        replace hx217_0 := bx HB.out hx217_0
        replace hx217_1 := bx HB.out hx217_1
        replace hx217_2 := bx HB.out hx217_2
        replace hx217_3 := bx HB.out hx217_3
        replace hx217_4 := bx HB.out hx217_4
        replace hx217_5 := bx HB.out hx217_5
        replace p217 := eq_true p217
        replace q217 := eq_true q217
        have p218 : 0 ≤ (t210 : Int) := of_decide_eq_true asmB
        have q218 : t210 < (l0.length : Int) := of_decide_eq_true asmB
        obtain ⟨ad218, e218, hx218_0, hx218_1, hx218_2, hx218_3, hx218_4, hx218_5⟩ := at_T26 HR0.out t210 p218 q218
        have hw218_5 := hx218_5
        have hw218_4 := hx218_4
        have hw218_3 := hx218_3
        have hw218_2 := hx218_2
        have hw218_1 := hx218_1
        have hw218_0 := hx218_0
        obtain rfl : ad215 = ad218 := (by injection e218)
        replace hx218_0 := bx HB.out hx218_0
        replace hx218_1 := bx HB.out hx218_1
        replace hx218_2 := bx HB.out hx218_2
        replace hx218_3 := bx HB.out hx218_3
        replace hx218_4 := bx HB.out hx218_4
        replace hx218_5 := bx HB.out hx218_5
        replace p218 := eq_true p218
        replace q218 := eq_true q218
        have p220 : 0 ≤ (t210 : Int) := of_decide_eq_true asmB
        have q220 : t210 < (l0.length : Int) := of_decide_eq_true asmB
        obtain ⟨ad220, e220, hx220_0, hx220_1, hx220_2, hx220_3, hx220_4, hx220_5⟩ := at_T26 HR0.out t210 p220 q220
        have hw220_5 := hx220_5
        have hw220_4 := hx220_4
        have hw220_3 := hx220_3
        have hw220_2 := hx220_2
        have hw220_1 := hx220_1
        have hw220_0 := hx220_0
        obtain rfl : ad215 = ad220 := (by injection e220)
        replace hx220_0 := bx HB.out hx220_0
        replace hx220_1 := bx HB.out hx220_1
        replace hx220_2 := bx HB.out hx220_2
        replace hx220_3 := bx HB.out hx220_3
        replace hx220_4 := bx HB.out hx220_4
        replace hx220_5 := bx HB.out hx220_5
        replace p220 := eq_true p220
        replace q220 := eq_true q220
        refine sA (n := 40) (S := fun w' => w'.cell? (ad215.add ((t210).toNat * 6)) = some (.int .i64 ((rd_T26 l0 t210).f0)) ∧ w'.cell? ⟨(ad215.add ((t210).toNat * 6)).block, (ad215.add ((t210).toNat * 6)).off + 1, none⟩ = some (.string ((rd_T26 l0 t210).f1)) ∧ w'.cell? ⟨(ad215.add ((t210).toNat * 6)).block, (ad215.add ((t210).toNat * 6)).off + 2, none⟩ = some (.int .i64 ((rd_T26 l0 t210).f2)) ∧ w'.cell? ⟨(ad215.add ((t210).toNat * 6)).block, (ad215.add ((t210).toNat * 6)).off + 3, none⟩ = some (.int .i64 ((rd_T26 l0 t210).f3)) ∧ w'.cell? ⟨(ad215.add ((t210).toNat * 6)).block, (ad215.add ((t210).toNat * 6)).off + 4, none⟩ = some (.int .i64 ((rd_T26 l0 t210).f4)) ∧ w'.cell? ⟨(ad215.add ((t210).toNat * 6)).block, (ad215.add ((t210).toNat * 6)).off + 5, none⟩ = some (.int .i64 ((rd_T26 l0 t210).f5)) ∧ w'.cell? (ad215.add ((t210).toNat * 6)) = some (.int .i64 ((rd_T26 l0 t210).f0)) ∧ w'.cell? ⟨(ad215.add ((t210).toNat * 6)).block, (ad215.add ((t210).toNat * 6)).off + 1, none⟩ = some (.string ((rd_T26 l0 t210).f1)) ∧ w'.cell? ⟨(ad215.add ((t210).toNat * 6)).block, (ad215.add ((t210).toNat * 6)).off + 2, none⟩ = some (.int .i64 ((rd_T26 l0 t210).f2)) ∧ w'.cell? ⟨(ad215.add ((t210).toNat * 6)).block, (ad215.add ((t210).toNat * 6)).off + 3, none⟩ = some (.int .i64 ((rd_T26 l0 t210).f3)) ∧ w'.cell? ⟨(ad215.add ((t210).toNat * 6)).block, (ad215.add ((t210).toNat * 6)).off + 4, none⟩ = some (.int .i64 ((rd_T26 l0 t210).f4)) ∧ w'.cell? ⟨(ad215.add ((t210).toNat * 6)).block, (ad215.add ((t210).toNat * 6)).off + 5, none⟩ = some (.int .i64 ((rd_T26 l0 t210).f5)) ∧ w'.cell? (ad215.add ((t210).toNat * 6)) = some (.int .i64 ((rd_T26 l0 t210).f0)) ∧ w'.cell? ⟨(ad215.add ((t210).toNat * 6)).block, (ad215.add ((t210).toNat * 6)).off + 1, none⟩ = some (.string ((rd_T26 l0 t210).f1)) ∧ w'.cell? ⟨(ad215.add ((t210).toNat * 6)).block, (ad215.add ((t210).toNat * 6)).off + 2, none⟩ = some (.int .i64 ((rd_T26 l0 t210).f2)) ∧ w'.cell? ⟨(ad215.add ((t210).toNat * 6)).block, (ad215.add ((t210).toNat * 6)).off + 3, none⟩ = some (.int .i64 ((rd_T26 l0 t210).f3)) ∧ w'.cell? ⟨(ad215.add ((t210).toNat * 6)).block, (ad215.add ((t210).toNat * 6)).off + 4, none⟩ = some (.int .i64 ((rd_T26 l0 t210).f4)) ∧ w'.cell? ⟨(ad215.add ((t210).toNat * 6)).block, (ad215.add ((t210).toNat * 6)).off + 5, none⟩ = some (.int .i64 ((rd_T26 l0 t210).f5)) ∧ w'.cell? (ad215.add ((t210).toNat * 6)) = some (.int .i64 ((rd_T26 l0 t210).f0)) ∧ w'.cell? ⟨(ad215.add ((t210).toNat * 6)).block, (ad215.add ((t210).toNat * 6)).off + 1, none⟩ = some (.string ((rd_T26 l0 t210).f1)) ∧ w'.cell? ⟨(ad215.add ((t210).toNat * 6)).block, (ad215.add ((t210).toNat * 6)).off + 2, none⟩ = some (.int .i64 ((rd_T26 l0 t210).f2)) ∧ w'.cell? ⟨(ad215.add ((t210).toNat * 6)).block, (ad215.add ((t210).toNat * 6)).off + 3, none⟩ = some (.int .i64 ((rd_T26 l0 t210).f3)) ∧ w'.cell? ⟨(ad215.add ((t210).toNat * 6)).block, (ad215.add ((t210).toNat * 6)).off + 4, none⟩ = some (.int .i64 ((rd_T26 l0 t210).f4)) ∧ w'.cell? ⟨(ad215.add ((t210).toNat * 6)).block, (ad215.add ((t210).toNat * 6)).off + 5, none⟩ = some (.int .i64 ((rd_T26 l0 t210).f5))) (ds := []) spec_UsePermit.tab2 spec_UsePermit.bits2 #[false, false, false, false, false, false, false, false, false, false, false, false, false, false, false, false, false, false, false, false, false, false, false, false, false, false, false, false, false, false, false, false, false, false, false, false, false, false, false, false] ⟨(bX HB hw215_0), (bX HB hw215_1), (bX HB hw215_2), (bX HB hw215_3), (bX HB hw215_4), (bX HB hw215_5), (bX HB hw217_0), (bX HB hw217_1), (bX HB hw217_2), (bX HB hw217_3), (bX HB hw217_4), (bX HB hw217_5), (bX HB hw218_0), (bX HB hw218_1), (bX HB hw218_2), (bX HB hw218_3), (bX HB hw218_4), (bX HB hw218_5), (bX HB hw220_0), (bX HB hw220_1), (bX HB hw220_2), (bX HB hw220_3), (bX HB hw220_4), (bX HB hw220_5)⟩ fun hHeld HT_ HW_ => ?_
        generalize wn_.drew = w26 at HB hx215_0 hx215_1 hx215_2 hx215_3 hx215_4 hx215_5 hx217_0 hx217_1 hx217_2 hx217_3 hx217_4 hx217_5 hx218_0 hx218_1 hx218_2 hx218_3 hx218_4 hx218_5 hx220_0 hx220_1 hx220_2 hx220_3 hx220_4 hx220_5 hHeld ⊢
        refine pA 0 14 HT_ ?_
        refine oA 1 (some 15) HT_ fun K hK => ?_
        refine rA Tryd.func58 (spec_l22Good.calls k _ _ l0 true _ ?side1 ?side2 A6.out) ?_
        (case side1 => repeat (first | exact (Kd.C_below HR0.out HB.out) | (with_reducible refine Kd.C_alloc ?_ _) | (with_reducible refine Kd.C_drewN ?_ _) | (with_reducible refine Kd.C_drew ?_)))
        (case side2 => exact HC0.out)
        intro w27 hb
        replace HB := uB HB hb
        (try clear hb)
        refine hK.out _ _ ⟨(bX HB hw215_0), (bX HB hw215_1), (bX HB hw215_2), (bX HB hw215_3), (bX HB hw215_4), (bX HB hw215_5), (bX HB hw217_0), (bX HB hw217_1), (bX HB hw217_2), (bX HB hw217_3), (bX HB hw217_4), (bX HB hw217_5), (bX HB hw218_0), (bX HB hw218_1), (bX HB hw218_2), (bX HB hw218_3), (bX HB hw218_4), (bX HB hw218_5), (bX HB hw220_0), (bX HB hw220_1), (bX HB hw220_2), (bX HB hw220_3), (bX HB hw220_4), (bX HB hw220_5)⟩ (fun hHeld => ?_)
        clear hK K
        refine nA ?_ (some 15)
        refine pA 2 16 HT_ ?_
        refine pA 3 17 HT_ ?_
        refine pA 4 18 HT_ ?_
        refine pA 5 19 HT_ ?_
        refine pA 6 20 HT_ ?_
        refine pA 7 21 HT_ ?_
        refine pA 8 22 HT_ ?_
        refine pA 9 23 HT_ ?_
        refine pA 10 24 HT_ ?_
        refine tA 11 25 HT_ HW_ hHeld ?_
        refine oA 12 (some 26) HT_ fun K hK => ?_
        refine rA Tryd.func70 (spec_l22Holds.calls ((rd_T26 l0 t210).f0) ((rd_T26 l0 t210).f1) ((rd_T26 l0 t210).f2) ((rd_T26 l0 t210).f3) ((rd_T26 l0 t210).f4) ((rd_T26 l0 t210).f5) true _ A15.out) ?_
        intro w28 hb
        replace HB := uB HB hb
        (try clear hb)
        refine hK.out _ _ ⟨(bX HB hw215_0), (bX HB hw215_1), (bX HB hw215_2), (bX HB hw215_3), (bX HB hw215_4), (bX HB hw215_5), (bX HB hw217_0), (bX HB hw217_1), (bX HB hw217_2), (bX HB hw217_3), (bX HB hw217_4), (bX HB hw217_5), (bX HB hw218_0), (bX HB hw218_1), (bX HB hw218_2), (bX HB hw218_3), (bX HB hw218_4), (bX HB hw218_5), (bX HB hw220_0), (bX HB hw220_1), (bX HB hw220_2), (bX HB hw220_3), (bX HB hw220_4), (bX HB hw220_5)⟩ (fun hHeld => ?_)
        clear hK K
        refine nA ?_ (some 26)
        refine pA 13 27 HT_ ?_
        refine pA 14 28 HT_ ?_
        refine pA 15 29 HT_ ?_
        refine pA 16 30 HT_ ?_
        refine pA 17 31 HT_ ?_
        refine pA 18 32 HT_ ?_
        refine pA 19 33 HT_ ?_
        refine pA 20 34 HT_ ?_
        refine pA 22 36 HT_ ?_
        refine pA 23 37 HT_ ?_
        refine pA 24 38 HT_ ?_
        refine pA 25 39 HT_ ?_
        refine tA 21 35 HT_ HW_ hHeld ?_
        refine tA 26 40 HT_ HW_ hHeld ?_
        refine oA 27 (some 41) HT_ fun K hK => ?_
        refine rA Tryd.func67 (spec_l1In.calls a2 ((rd_T26 l0 t210).f2) ((rd_T26 l0 t210).f3) true _ A17.out) ?_
        rintro _ ⟨nd, rfl⟩
        refine hK.out _ _ ⟨(bXn HB hw215_0), (bXn HB hw215_1), (bXn HB hw215_2), (bXn HB hw215_3), (bXn HB hw215_4), (bXn HB hw215_5), (bXn HB hw217_0), (bXn HB hw217_1), (bXn HB hw217_2), (bXn HB hw217_3), (bXn HB hw217_4), (bXn HB hw217_5), (bXn HB hw218_0), (bXn HB hw218_1), (bXn HB hw218_2), (bXn HB hw218_3), (bXn HB hw218_4), (bXn HB hw218_5), (bXn HB hw220_0), (bXn HB hw220_1), (bXn HB hw220_2), (bXn HB hw220_3), (bXn HB hw220_4), (bXn HB hw220_5)⟩ (fun hHeld => ?_)
        clear hK K
        refine nA ?_ (some 41)
        refine pA 28 42 HT_ ?_
        refine pA 29 43 HT_ ?_
        refine pA 30 44 HT_ ?_
        refine pA 31 45 HT_ ?_
        refine pA 32 46 HT_ ?_
        refine pA 33 47 HT_ ?_
        refine pA 34 48 HT_ ?_
        refine pA 35 49 HT_ ?_
        refine tA 36 50 HT_ HW_ hHeld ?_
        refine oA 37 (some 51) HT_ fun K hK => ?_
        refine rA Tryd.func67 (spec_l1In.calls a3 1 ((rd_T26 l0 t210).f4) false _ A19.out) ?_
        rintro _ ⟨nd, rfl⟩
        refine hK.out _ _ ⟨(bXn HB hw215_0), (bXn HB hw215_1), (bXn HB hw215_2), (bXn HB hw215_3), (bXn HB hw215_4), (bXn HB hw215_5), (bXn HB hw217_0), (bXn HB hw217_1), (bXn HB hw217_2), (bXn HB hw217_3), (bXn HB hw217_4), (bXn HB hw217_5), (bXn HB hw218_0), (bXn HB hw218_1), (bXn HB hw218_2), (bXn HB hw218_3), (bXn HB hw218_4), (bXn HB hw218_5), (bXn HB hw220_0), (bXn HB hw220_1), (bXn HB hw220_2), (bXn HB hw220_3), (bXn HB hw220_4), (bXn HB hw220_5)⟩ (fun hHeld => ?_)
        clear hK K
        refine nA ?_ (some 51)
        refine pA 38 52 HT_ ?_
        refine pA 39 53 HT_ ?_
        refine done_ (done_of HT_.out (by kernel_rfl)) ?_
        try go_wp2_with (first | ((with_reducible refine gate_dst (N := 54) rfl ?_); refine Kd.R_lit k26 _ 26 ?hg (N := 54) ?hd (xs := ([] : List (S26))) (inner := []) (ok := fun _ => True) (okp := fun _ => True) ?hr ?hp (fun _ hk => hk) trivial (Below.refl _ _) (Nat.le_refl _) (by simp) ?_; (case hd => rfl); (case hg => rfl); (case hr => first | (go_simp; done) | (go_simp; rfl)); (case hp => exact (Reps.none _ _)); intro v226 w29 ho30 hb hg_ hnew_; clear hg_ hnew_; (first | rw [← Ny225.out] at ho30 | (simp only [Int.reduceToNat] at ho30; rw [← Ny225.out] at ho30)); have HO227 := Aside0.mk (Kd.R_lower ho30 (below_size (bW HB))); replace HB := uB HB hb; clear hb ho30))
        go_ret2
        exact ⟨_, eB, upR HO227.out, (bW HB)⟩
      ·replace H := iF (by decide) H
       obtain ⟨y228, hy228⟩ : ∃ y_ : List (S26), y_ = (([] : List (S26))) := ⟨_, rfl⟩
       replace H : (some (y228, false)) = some (r1, r2) := by first | (rw [hy228]; with_reducible exact H) | (have H2_ := (Option.bind_some _ _).symm.trans H; rw [hy228]; with_reducible exact H2_) | (have H2_ := (Option.bind_some _ _).symm.trans H; with_reducible exact H2_) | with_reducible exact H | (rw [hy228]; exact H) | exact H
       have Ny228 := Aside0.mk hy228
       clear hy228
       simp only [Option.some.injEq, Prod.mk.injEq] at H
       obtain ⟨rfl, rfl⟩ := H
       go_enter Tryd.func33, Tryd.ntmps33
       try go_wp2_with (first | ((with_reducible refine gC 73 ?_); refine lA (some 13) Tryd.func73 (spec_l22Find.calls k _ _ l0 a1 t210 _ ?side1 ?side2 A5.out) ?_; (case side1 => repeat (first | exact HR0.out | (with_reducible refine Kd.C_alloc ?_ _) | (with_reducible refine Kd.C_drewN ?_ _) | (with_reducible refine Kd.C_drew ?_))); (case side2 => exact HC0.out); rintro _ ⟨nd, rfl⟩))
       have HBn_ : Below w.heap.size w (w.drewN nd) := upB HB.out
       generalize w.drewN nd = wn_ at HBn_ ⊢
       clear HB
       have HB := Aside0.mk HBn_
       clear HBn_
       replace HB := Aside0.mk (below_drew1 HB.out)
       have p215 : 0 ≤ (t210 : Int) := of_decide_eq_true asmB
       have q215 : t210 < (l0.length : Int) := of_decide_eq_true asmB
       obtain ⟨ad215, e215, hx215_0, hx215_1, hx215_2, hx215_3, hx215_4, hx215_5⟩ := at_T26 HR0.out t210 p215 q215
       have hw215_5 := hx215_5
       have hw215_4 := hx215_4
       have hw215_3 := hx215_3
       have hw215_2 := hx215_2
       have hw215_1 := hx215_1
       have hw215_0 := hx215_0
       cases e215
       replace hx215_0 := bx HB.out hx215_0
       replace hx215_1 := bx HB.out hx215_1
       replace hx215_2 := bx HB.out hx215_2
       replace hx215_3 := bx HB.out hx215_3
       replace hx215_4 := bx HB.out hx215_4
       replace hx215_5 := bx HB.out hx215_5
       replace p215 := eq_true p215
       replace q215 := eq_true q215
       have p217 : 0 ≤ (t210 : Int) := of_decide_eq_true asmB
       have q217 : t210 < (l0.length : Int) := of_decide_eq_true asmB
       obtain ⟨ad217, e217, hx217_0, hx217_1, hx217_2, hx217_3, hx217_4, hx217_5⟩ := at_T26 HR0.out t210 p217 q217
       have hw217_5 := hx217_5
       have hw217_4 := hx217_4
       have hw217_3 := hx217_3
       have hw217_2 := hx217_2
       have hw217_1 := hx217_1
       have hw217_0 := hx217_0
       obtain rfl : ad215 = ad217 := (by injection e217)
       replace hx217_0 := bx HB.out hx217_0
       replace hx217_1 := bx HB.out hx217_1
       replace hx217_2 := bx HB.out hx217_2
       replace hx217_3 := bx HB.out hx217_3
       replace hx217_4 := bx HB.out hx217_4
       replace hx217_5 := bx HB.out hx217_5
       replace p217 := eq_true p217
       replace q217 := eq_true q217
       have p218 : 0 ≤ (t210 : Int) := of_decide_eq_true asmB
       have q218 : t210 < (l0.length : Int) := of_decide_eq_true asmB
       obtain ⟨ad218, e218, hx218_0, hx218_1, hx218_2, hx218_3, hx218_4, hx218_5⟩ := at_T26 HR0.out t210 p218 q218
       have hw218_5 := hx218_5
       have hw218_4 := hx218_4
       have hw218_3 := hx218_3
       have hw218_2 := hx218_2
       have hw218_1 := hx218_1
       have hw218_0 := hx218_0
       obtain rfl : ad215 = ad218 := (by injection e218)
       replace hx218_0 := bx HB.out hx218_0
       replace hx218_1 := bx HB.out hx218_1
       replace hx218_2 := bx HB.out hx218_2
       replace hx218_3 := bx HB.out hx218_3
       replace hx218_4 := bx HB.out hx218_4
       replace hx218_5 := bx HB.out hx218_5
       replace p218 := eq_true p218
       replace q218 := eq_true q218
       refine sA (n := 40) (S := fun w' => w'.cell? (ad215.add ((t210).toNat * 6)) = some (.int .i64 ((rd_T26 l0 t210).f0)) ∧ w'.cell? ⟨(ad215.add ((t210).toNat * 6)).block, (ad215.add ((t210).toNat * 6)).off + 1, none⟩ = some (.string ((rd_T26 l0 t210).f1)) ∧ w'.cell? ⟨(ad215.add ((t210).toNat * 6)).block, (ad215.add ((t210).toNat * 6)).off + 2, none⟩ = some (.int .i64 ((rd_T26 l0 t210).f2)) ∧ w'.cell? ⟨(ad215.add ((t210).toNat * 6)).block, (ad215.add ((t210).toNat * 6)).off + 3, none⟩ = some (.int .i64 ((rd_T26 l0 t210).f3)) ∧ w'.cell? ⟨(ad215.add ((t210).toNat * 6)).block, (ad215.add ((t210).toNat * 6)).off + 4, none⟩ = some (.int .i64 ((rd_T26 l0 t210).f4)) ∧ w'.cell? ⟨(ad215.add ((t210).toNat * 6)).block, (ad215.add ((t210).toNat * 6)).off + 5, none⟩ = some (.int .i64 ((rd_T26 l0 t210).f5)) ∧ w'.cell? (ad215.add ((t210).toNat * 6)) = some (.int .i64 ((rd_T26 l0 t210).f0)) ∧ w'.cell? ⟨(ad215.add ((t210).toNat * 6)).block, (ad215.add ((t210).toNat * 6)).off + 1, none⟩ = some (.string ((rd_T26 l0 t210).f1)) ∧ w'.cell? ⟨(ad215.add ((t210).toNat * 6)).block, (ad215.add ((t210).toNat * 6)).off + 2, none⟩ = some (.int .i64 ((rd_T26 l0 t210).f2)) ∧ w'.cell? ⟨(ad215.add ((t210).toNat * 6)).block, (ad215.add ((t210).toNat * 6)).off + 3, none⟩ = some (.int .i64 ((rd_T26 l0 t210).f3)) ∧ w'.cell? ⟨(ad215.add ((t210).toNat * 6)).block, (ad215.add ((t210).toNat * 6)).off + 4, none⟩ = some (.int .i64 ((rd_T26 l0 t210).f4)) ∧ w'.cell? ⟨(ad215.add ((t210).toNat * 6)).block, (ad215.add ((t210).toNat * 6)).off + 5, none⟩ = some (.int .i64 ((rd_T26 l0 t210).f5)) ∧ w'.cell? (ad215.add ((t210).toNat * 6)) = some (.int .i64 ((rd_T26 l0 t210).f0)) ∧ w'.cell? ⟨(ad215.add ((t210).toNat * 6)).block, (ad215.add ((t210).toNat * 6)).off + 1, none⟩ = some (.string ((rd_T26 l0 t210).f1)) ∧ w'.cell? ⟨(ad215.add ((t210).toNat * 6)).block, (ad215.add ((t210).toNat * 6)).off + 2, none⟩ = some (.int .i64 ((rd_T26 l0 t210).f2)) ∧ w'.cell? ⟨(ad215.add ((t210).toNat * 6)).block, (ad215.add ((t210).toNat * 6)).off + 3, none⟩ = some (.int .i64 ((rd_T26 l0 t210).f3)) ∧ w'.cell? ⟨(ad215.add ((t210).toNat * 6)).block, (ad215.add ((t210).toNat * 6)).off + 4, none⟩ = some (.int .i64 ((rd_T26 l0 t210).f4)) ∧ w'.cell? ⟨(ad215.add ((t210).toNat * 6)).block, (ad215.add ((t210).toNat * 6)).off + 5, none⟩ = some (.int .i64 ((rd_T26 l0 t210).f5))) (ds := []) spec_UsePermit.tab2 spec_UsePermit.bits2 #[false, false, false, false, false, false, false, false, false, false, false, false, false, false, false, false, false, false, false, false, false, false, false, false, false, false, false, false, false, false, false, false, false, false, false, false, false, false, false, false] ⟨(bX HB hw215_0), (bX HB hw215_1), (bX HB hw215_2), (bX HB hw215_3), (bX HB hw215_4), (bX HB hw215_5), (bX HB hw217_0), (bX HB hw217_1), (bX HB hw217_2), (bX HB hw217_3), (bX HB hw217_4), (bX HB hw217_5), (bX HB hw218_0), (bX HB hw218_1), (bX HB hw218_2), (bX HB hw218_3), (bX HB hw218_4), (bX HB hw218_5)⟩ fun hHeld HT_ HW_ => ?_
       generalize wn_.drew = w31 at HB hx215_0 hx215_1 hx215_2 hx215_3 hx215_4 hx215_5 hx217_0 hx217_1 hx217_2 hx217_3 hx217_4 hx217_5 hx218_0 hx218_1 hx218_2 hx218_3 hx218_4 hx218_5 hHeld ⊢
       refine pA 0 14 HT_ ?_
       refine oA 1 (some 15) HT_ fun K hK => ?_
       refine rA Tryd.func58 (spec_l22Good.calls k _ _ l0 true _ ?side1 ?side2 A6.out) ?_
       (case side1 => repeat (first | exact (Kd.C_below HR0.out HB.out) | (with_reducible refine Kd.C_alloc ?_ _) | (with_reducible refine Kd.C_drewN ?_ _) | (with_reducible refine Kd.C_drew ?_)))
       (case side2 => exact HC0.out)
       intro w32 hb
       replace HB := uB HB hb
       (try clear hb)
       refine hK.out _ _ ⟨(bX HB hw215_0), (bX HB hw215_1), (bX HB hw215_2), (bX HB hw215_3), (bX HB hw215_4), (bX HB hw215_5), (bX HB hw217_0), (bX HB hw217_1), (bX HB hw217_2), (bX HB hw217_3), (bX HB hw217_4), (bX HB hw217_5), (bX HB hw218_0), (bX HB hw218_1), (bX HB hw218_2), (bX HB hw218_3), (bX HB hw218_4), (bX HB hw218_5)⟩ (fun hHeld => ?_)
       clear hK K
       refine nA ?_ (some 15)
       refine pA 2 16 HT_ ?_
       refine pA 3 17 HT_ ?_
       refine pA 4 18 HT_ ?_
       refine pA 5 19 HT_ ?_
       refine pA 6 20 HT_ ?_
       refine pA 7 21 HT_ ?_
       refine pA 8 22 HT_ ?_
       refine pA 9 23 HT_ ?_
       refine pA 10 24 HT_ ?_
       refine tA 11 25 HT_ HW_ hHeld ?_
       refine oA 12 (some 26) HT_ fun K hK => ?_
       refine rA Tryd.func70 (spec_l22Holds.calls ((rd_T26 l0 t210).f0) ((rd_T26 l0 t210).f1) ((rd_T26 l0 t210).f2) ((rd_T26 l0 t210).f3) ((rd_T26 l0 t210).f4) ((rd_T26 l0 t210).f5) true _ A15.out) ?_
       intro w33 hb
       replace HB := uB HB hb
       (try clear hb)
       refine hK.out _ _ ⟨(bX HB hw215_0), (bX HB hw215_1), (bX HB hw215_2), (bX HB hw215_3), (bX HB hw215_4), (bX HB hw215_5), (bX HB hw217_0), (bX HB hw217_1), (bX HB hw217_2), (bX HB hw217_3), (bX HB hw217_4), (bX HB hw217_5), (bX HB hw218_0), (bX HB hw218_1), (bX HB hw218_2), (bX HB hw218_3), (bX HB hw218_4), (bX HB hw218_5)⟩ (fun hHeld => ?_)
       clear hK K
       refine nA ?_ (some 26)
       refine pA 13 27 HT_ ?_
       refine pA 14 28 HT_ ?_
       refine pA 15 29 HT_ ?_
       refine pA 16 30 HT_ ?_
       refine pA 17 31 HT_ ?_
       refine pA 18 32 HT_ ?_
       refine pA 19 33 HT_ ?_
       refine pA 20 34 HT_ ?_
       refine pA 22 36 HT_ ?_
       refine pA 23 37 HT_ ?_
       refine pA 24 38 HT_ ?_
       refine pA 25 39 HT_ ?_
       refine tA 21 35 HT_ HW_ hHeld ?_
       refine tA 26 40 HT_ HW_ hHeld ?_
       refine oA 27 (some 41) HT_ fun K hK => ?_
       refine rA Tryd.func67 (spec_l1In.calls a2 ((rd_T26 l0 t210).f2) ((rd_T26 l0 t210).f3) false _ A17.out) ?_
       rintro _ ⟨nd, rfl⟩
       refine hK.out _ _ ⟨(bXn HB hw215_0), (bXn HB hw215_1), (bXn HB hw215_2), (bXn HB hw215_3), (bXn HB hw215_4), (bXn HB hw215_5), (bXn HB hw217_0), (bXn HB hw217_1), (bXn HB hw217_2), (bXn HB hw217_3), (bXn HB hw217_4), (bXn HB hw217_5), (bXn HB hw218_0), (bXn HB hw218_1), (bXn HB hw218_2), (bXn HB hw218_3), (bXn HB hw218_4), (bXn HB hw218_5)⟩ (fun hHeld => ?_)
       clear hK K
       refine nA ?_ (some 41)
       refine pA 28 42 HT_ ?_
       refine pA 29 43 HT_ ?_
       refine pA 30 44 HT_ ?_
       refine pU 31 45 HT_ ?_
       refine pU 32 46 HT_ ?_
       refine pU 33 47 HT_ ?_
       refine pU 34 48 HT_ ?_
       refine pU 35 49 HT_ ?_
       refine pU 36 50 HT_ ?_
       refine pU 37 51 HT_ ?_
       refine pU 38 52 HT_ ?_
       refine pA 39 53 HT_ ?_
       refine done_ (done_of HT_.out (by kernel_rfl)) ?_
       try go_wp2_with (first | ((with_reducible refine gate_dst (N := 54) rfl ?_); refine Kd.R_lit k26 _ 26 ?hg (N := 54) ?hd (xs := ([] : List (S26))) (inner := []) (ok := fun _ => True) (okp := fun _ => True) ?hr ?hp (fun _ hk => hk) trivial (Below.refl _ _) (Nat.le_refl _) (by simp) ?_; (case hd => rfl); (case hg => rfl); (case hr => first | (go_simp; done) | (go_simp; rfl)); (case hp => exact (Reps.none _ _)); intro v229 w34 ho35 hb hg_ hnew_; clear hg_ hnew_; (first | rw [← Ny228.out] at ho35 | (simp only [Int.reduceToNat] at ho35; rw [← Ny228.out] at ho35)); have HO230 := Aside0.mk (Kd.R_lower ho35 (below_size (bW HB))); replace HB := uB HB hb; clear hb ho35))
       go_ret2
       exact ⟨_, eB, upR HO230.out, (bW HB)⟩
     ·replace H := iF (by decide) H
      obtain ⟨y231, hy231⟩ : ∃ y_ : List (S26), y_ = (([] : List (S26))) := ⟨_, rfl⟩
      replace H : (some (y231, false)) = some (r1, r2) := by first | (rw [hy231]; with_reducible exact H) | (have H2_ := (Option.bind_some _ _).symm.trans H; rw [hy231]; with_reducible exact H2_) | (have H2_ := (Option.bind_some _ _).symm.trans H; with_reducible exact H2_) | with_reducible exact H | (rw [hy231]; exact H) | exact H
      have Ny231 := Aside0.mk hy231
      clear hy231
      simp only [Option.some.injEq, Prod.mk.injEq] at H
      obtain ⟨rfl, rfl⟩ := H
      go_enter Tryd.func33, Tryd.ntmps33
      try go_wp2_with (first | ((with_reducible refine gC 73 ?_); refine lA (some 13) Tryd.func73 (spec_l22Find.calls k _ _ l0 a1 t210 _ ?side1 ?side2 A5.out) ?_; (case side1 => repeat (first | exact HR0.out | (with_reducible refine Kd.C_alloc ?_ _) | (with_reducible refine Kd.C_drewN ?_ _) | (with_reducible refine Kd.C_drew ?_))); (case side2 => exact HC0.out); rintro _ ⟨nd, rfl⟩))
      have HBn_ : Below w.heap.size w (w.drewN nd) := upB HB.out
      generalize w.drewN nd = wn_ at HBn_ ⊢
      clear HB
      have HB := Aside0.mk HBn_
      clear HBn_
      replace HB := Aside0.mk (below_drew1 HB.out)
      have p215 : 0 ≤ (t210 : Int) := of_decide_eq_true asmB
      have q215 : t210 < (l0.length : Int) := of_decide_eq_true asmB
      obtain ⟨ad215, e215, hx215_0, hx215_1, hx215_2, hx215_3, hx215_4, hx215_5⟩ := at_T26 HR0.out t210 p215 q215
      have hw215_5 := hx215_5
      have hw215_4 := hx215_4
      have hw215_3 := hx215_3
      have hw215_2 := hx215_2
      have hw215_1 := hx215_1
      have hw215_0 := hx215_0
      cases e215
      replace hx215_0 := bx HB.out hx215_0
      replace hx215_1 := bx HB.out hx215_1
      replace hx215_2 := bx HB.out hx215_2
      replace hx215_3 := bx HB.out hx215_3
      replace hx215_4 := bx HB.out hx215_4
      replace hx215_5 := bx HB.out hx215_5
      replace p215 := eq_true p215
      replace q215 := eq_true q215
      refine sA (n := 40) (S := fun w' => w'.cell? (ad215.add ((t210).toNat * 6)) = some (.int .i64 ((rd_T26 l0 t210).f0)) ∧ w'.cell? ⟨(ad215.add ((t210).toNat * 6)).block, (ad215.add ((t210).toNat * 6)).off + 1, none⟩ = some (.string ((rd_T26 l0 t210).f1)) ∧ w'.cell? ⟨(ad215.add ((t210).toNat * 6)).block, (ad215.add ((t210).toNat * 6)).off + 2, none⟩ = some (.int .i64 ((rd_T26 l0 t210).f2)) ∧ w'.cell? ⟨(ad215.add ((t210).toNat * 6)).block, (ad215.add ((t210).toNat * 6)).off + 3, none⟩ = some (.int .i64 ((rd_T26 l0 t210).f3)) ∧ w'.cell? ⟨(ad215.add ((t210).toNat * 6)).block, (ad215.add ((t210).toNat * 6)).off + 4, none⟩ = some (.int .i64 ((rd_T26 l0 t210).f4)) ∧ w'.cell? ⟨(ad215.add ((t210).toNat * 6)).block, (ad215.add ((t210).toNat * 6)).off + 5, none⟩ = some (.int .i64 ((rd_T26 l0 t210).f5))) (ds := []) spec_UsePermit.tab2 spec_UsePermit.bits2 #[false, false, false, false, false, false, false, false, false, false, false, false, false, false, false, false, false, false, false, false, false, false, false, false, false, false, false, false, false, false, false, false, false, false, false, false, false, false, false, false] ⟨(bX HB hw215_0), (bX HB hw215_1), (bX HB hw215_2), (bX HB hw215_3), (bX HB hw215_4), (bX HB hw215_5)⟩ fun hHeld HT_ HW_ => ?_
      generalize wn_.drew = w36 at HB hx215_0 hx215_1 hx215_2 hx215_3 hx215_4 hx215_5 hHeld ⊢
      refine pA 0 14 HT_ ?_
      refine oA 1 (some 15) HT_ fun K hK => ?_
      refine rA Tryd.func58 (spec_l22Good.calls k _ _ l0 true _ ?side1 ?side2 A6.out) ?_
      (case side1 => repeat (first | exact (Kd.C_below HR0.out HB.out) | (with_reducible refine Kd.C_alloc ?_ _) | (with_reducible refine Kd.C_drewN ?_ _) | (with_reducible refine Kd.C_drew ?_)))
      (case side2 => exact HC0.out)
      intro w37 hb
      replace HB := uB HB hb
      (try clear hb)
      refine hK.out _ _ ⟨(bX HB hw215_0), (bX HB hw215_1), (bX HB hw215_2), (bX HB hw215_3), (bX HB hw215_4), (bX HB hw215_5)⟩ (fun hHeld => ?_)
      clear hK K
      refine nA ?_ (some 15)
      refine pA 2 16 HT_ ?_
      refine pA 3 17 HT_ ?_
      refine pA 4 18 HT_ ?_
      refine pA 5 19 HT_ ?_
      refine pA 6 20 HT_ ?_
      refine pA 7 21 HT_ ?_
      refine pA 8 22 HT_ ?_
      refine pA 9 23 HT_ ?_
      refine pA 10 24 HT_ ?_
      refine tA 11 25 HT_ HW_ hHeld ?_
      refine oA 12 (some 26) HT_ fun K hK => ?_
      refine rA Tryd.func70 (spec_l22Holds.calls ((rd_T26 l0 t210).f0) ((rd_T26 l0 t210).f1) ((rd_T26 l0 t210).f2) ((rd_T26 l0 t210).f3) ((rd_T26 l0 t210).f4) ((rd_T26 l0 t210).f5) false _ A15.out) ?_
      intro w38 hb
      replace HB := uB HB hb
      (try clear hb)
      refine hK.out _ _ ⟨(bX HB hw215_0), (bX HB hw215_1), (bX HB hw215_2), (bX HB hw215_3), (bX HB hw215_4), (bX HB hw215_5)⟩ (fun hHeld => ?_)
      clear hK K
      refine nA ?_ (some 26)
      refine pA 13 27 HT_ ?_
      refine pA 14 28 HT_ ?_
      refine pA 15 29 HT_ ?_
      refine pU 16 30 HT_ ?_
      refine pU 17 31 HT_ ?_
      refine pU 18 32 HT_ ?_
      refine pU 19 33 HT_ ?_
      refine pU 20 34 HT_ ?_
      refine pU 21 35 HT_ ?_
      refine pU 22 36 HT_ ?_
      refine pU 23 37 HT_ ?_
      refine pU 24 38 HT_ ?_
      refine pU 25 39 HT_ ?_
      refine pU 26 40 HT_ ?_
      refine pU 27 41 HT_ ?_
      refine pU 28 42 HT_ ?_
      refine pA 29 43 HT_ ?_
      refine pA 30 44 HT_ ?_
      refine pU 31 45 HT_ ?_
      refine pU 32 46 HT_ ?_
      refine pU 33 47 HT_ ?_
      refine pU 34 48 HT_ ?_
      refine pU 35 49 HT_ ?_
      refine pU 36 50 HT_ ?_
      refine pU 37 51 HT_ ?_
      refine pU 38 52 HT_ ?_
      refine pA 39 53 HT_ ?_
      refine done_ (done_of HT_.out (by kernel_rfl)) ?_
      try go_wp2_with (first | ((with_reducible refine gate_dst (N := 54) rfl ?_); refine Kd.R_lit k26 _ 26 ?hg (N := 54) ?hd (xs := ([] : List (S26))) (inner := []) (ok := fun _ => True) (okp := fun _ => True) ?hr ?hp (fun _ hk => hk) trivial (Below.refl _ _) (Nat.le_refl _) (by simp) ?_; (case hd => rfl); (case hg => rfl); (case hr => first | (go_simp; done) | (go_simp; rfl)); (case hp => exact (Reps.none _ _)); intro v232 w39 ho40 hb hg_ hnew_; clear hg_ hnew_; (first | rw [← Ny231.out] at ho40 | (simp only [Int.reduceToNat] at ho40; rw [← Ny231.out] at ho40)); have HO233 := Aside0.mk (Kd.R_lower ho40 (below_size (bW HB))); replace HB := uB HB hb; clear hb ho40))
      go_ret2
      exact ⟨_, eB, upR HO233.out, (bW HB)⟩
    ·rw [if_neg c14] at H
     exact absurd H (by simp)
   ·rw [if_neg c13] at H
    exact absurd H (by simp)
 ·replace H := iF (by decide) H
  obtain ⟨y234, hy234⟩ : ∃ y_ : List (S26), y_ = (([] : List (S26))) := ⟨_, rfl⟩
  replace H : (some (y234, false)) = some (r1, r2) := by first | (rw [hy234]; with_reducible exact H) | (have H2_ := (Option.bind_some _ _).symm.trans H; rw [hy234]; with_reducible exact H2_) | (have H2_ := (Option.bind_some _ _).symm.trans H; with_reducible exact H2_) | with_reducible exact H | (rw [hy234]; exact H) | exact H
  have Ny234 := Aside0.mk hy234
  clear hy234
  simp only [Option.some.injEq, Prod.mk.injEq] at H
  obtain ⟨rfl, rfl⟩ := H
  go_enter Tryd.func33, Tryd.ntmps33
  try go_wp2_with (first | ((with_reducible refine gC 73 ?_); refine lA (some 13) Tryd.func73 (spec_l22Find.calls k _ _ l0 a1 t210 _ ?side1 ?side2 A5.out) ?_; (case side1 => repeat (first | exact HR0.out | (with_reducible refine Kd.C_alloc ?_ _) | (with_reducible refine Kd.C_drewN ?_ _) | (with_reducible refine Kd.C_drew ?_))); (case side2 => exact HC0.out); rintro _ ⟨nd, rfl⟩))
  have HBn_ : Below w.heap.size w (w.drewN nd) := upB HB.out
  generalize w.drewN nd = wn_ at HBn_ ⊢
  clear HB
  have HB := Aside0.mk HBn_
  clear HBn_
  replace HB := Aside0.mk (below_drew1 HB.out)
  refine start_ (n := 40) (S := fun w' => True) (ds := []) #[false, false, false, false, false, false, false, false, false, false, false, false, false, false, false, false, false, false, false, false, false, false, false, false, false, false, false, false, false, false, false, false, false, false, false, false, false, false, false, false] (by kernel_rfl) rfl rfl trivial (fun hHeld => ?_); refine with_tabW spec_UsePermit.tab2 spec_UsePermit.bits2 (fun HT_ HW_ => ?_)
  generalize wn_.drew = w41 at HB hHeld ⊢
  refine pA 0 14 HT_ ?_
  refine oA 1 (some 15) HT_ fun K hK => ?_
  refine rA Tryd.func58 (spec_l22Good.calls k _ _ l0 false _ ?side1 ?side2 A6.out) ?_
  (case side1 => repeat (first | exact (Kd.C_below HR0.out HB.out) | (with_reducible refine Kd.C_alloc ?_ _) | (with_reducible refine Kd.C_drewN ?_ _) | (with_reducible refine Kd.C_drew ?_)))
  (case side2 => exact HC0.out)
  intro w42 hb
  replace HB := uB HB hb
  (try clear hb)
  refine hK.out _ _ trivial (fun hHeld => ?_)
  clear hK K
  refine nA ?_ (some 15)
  refine pA 2 16 HT_ ?_
  refine pA 3 17 HT_ ?_
  refine pU 4 18 HT_ ?_
  refine pU 5 19 HT_ ?_
  refine pA 6 20 HT_ ?_
  refine pA 7 21 HT_ ?_
  refine pU 8 22 HT_ ?_
  refine pU 9 23 HT_ ?_
  refine pU 10 24 HT_ ?_
  refine pU 11 25 HT_ ?_
  refine pU 12 26 HT_ ?_
  refine pU 13 27 HT_ ?_
  refine pA 14 28 HT_ ?_
  refine pA 15 29 HT_ ?_
  refine pU 16 30 HT_ ?_
  refine pU 17 31 HT_ ?_
  refine pU 18 32 HT_ ?_
  refine pU 19 33 HT_ ?_
  refine pU 20 34 HT_ ?_
  refine pU 21 35 HT_ ?_
  refine pU 22 36 HT_ ?_
  refine pU 23 37 HT_ ?_
  refine pU 24 38 HT_ ?_
  refine pU 25 39 HT_ ?_
  refine pU 26 40 HT_ ?_
  refine pU 27 41 HT_ ?_
  refine pU 28 42 HT_ ?_
  refine pA 29 43 HT_ ?_
  refine pA 30 44 HT_ ?_
  refine pU 31 45 HT_ ?_
  refine pU 32 46 HT_ ?_
  refine pU 33 47 HT_ ?_
  refine pU 34 48 HT_ ?_
  refine pU 35 49 HT_ ?_
  refine pU 36 50 HT_ ?_
  refine pU 37 51 HT_ ?_
  refine pU 38 52 HT_ ?_
  refine pA 39 53 HT_ ?_
  refine done_ (done_of HT_.out (by kernel_rfl)) ?_
  try go_wp2_with (first | ((with_reducible refine gate_dst (N := 54) rfl ?_); refine Kd.R_lit k26 _ 26 ?hg (N := 54) ?hd (xs := ([] : List (S26))) (inner := []) (ok := fun _ => True) (okp := fun _ => True) ?hr ?hp (fun _ hk => hk) trivial (Below.refl _ _) (Nat.le_refl _) (by simp) ?_; (case hd => rfl); (case hg => rfl); (case hr => first | (go_simp; done) | (go_simp; rfl)); (case hp => exact (Reps.none _ _)); intro v235 w43 ho44 hb hg_ hnew_; clear hg_ hnew_; (first | rw [← Ny234.out] at ho44 | (simp only [Int.reduceToNat] at ho44; rw [← Ny234.out] at ho44)); have HO236 := Aside0.mk (Kd.R_lower ho44 (below_size (bW HB))); replace HB := uB HB hb; clear hb ho44))
  go_ret2
  exact ⟨_, eB, upR HO236.out, (bW HB)⟩

end Go.Proofs.YtgeioccfjgpijaaDoor.QFnPermits
