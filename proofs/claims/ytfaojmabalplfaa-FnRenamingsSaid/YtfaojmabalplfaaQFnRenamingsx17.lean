/- Contracts of Go functions that FnRenamings reaches: the call computes what the plain function says. No condition. -/
import Derived.Test.YtfaojmabalplfaaQFnRenamingsx0
import Derived.Test.YtfaojmabalplfaaQFnRenamingsx2
import Derived.Test.YtfaojmabalplfaaQFnRenamingsx3
import Derived.Test.YtfaojmabalplfaaQFnRenamingsx4
import Derived.Test.YtfaojmabalplfaaQFnRenamingsx6
import Derived.Test.YtfaojmabalplfaaQFnRenamingsx7
import Derived.Test.YtfaojmabalplfaaQFnRenamingsx8
import Derived.Test.YtfaojmabalplfaaQFnRenamingsx9
import Derived.Test.YtfaojmabalplfaaQFnRenamingsx14
import Derived.Test.YtfaojmabalplfaaQFnRenamingsx15
import Derived.Test.YtfaojmabalplfaaQFnRenamingsx16
namespace Go.Proofs.Ytfaojmabalplfaa.QFnRenamings
open Go.RowKit Go.Proofs.YtfaojmabalplfaaW.PrintWords Go.Proofs.YtfaojmabalplfaaW.PrintLast Go.Proofs.YtfaojmabalplfaaW.PrintMore
attribute [local go_sem] max2_int min2_int max_two min_two max_three min_three max_four min_four   -- for this text's walks alone
set_option linter.unusedVariables false
set_option linter.unusedSimpArgs false

/-! ### laws_FnRenamings: function 12 -/
mutual
def laws_FnRenamings.j0 : Nat → List Int → List (S70) → List Int → List (S70) → Bool → Bool → Option (Bool)
 | 0, _, _, _, _, _, _ => none
 | k + 1, x0, x3, x4, x5, x6, x70 => if x70 = true then (some false) else ((impl_InverseRenaming.f k x4).bind fun bt698 => ((spec_InverseRenaming.f k x4).bind fun bt702 => (if (bt698.2 != bt702.2) = true then (laws_FnRenamings.j1 k x0 x3 x4 x5 x6 bt698.1 true) else ((impl_IsRenaming.f k x4).bind fun t706 => (if (bt698.2 != t706) = true then (laws_FnRenamings.j1 k x0 x3 x4 x5 x6 bt698.1 true) else ((laws_vInts.f k bt698.1 bt702.1).bind fun t707 => (laws_FnRenamings.j1 k x0 x3 x4 x5 x6 bt698.1 (!t707))))))))
def laws_FnRenamings.j1 : Nat → List Int → List (S70) → List Int → List (S70) → Bool → List Int → Bool → Option (Bool)
 | 0, _, _, _, _, _, _, _ => none
 | k + 1, x0, x3, x4, x5, x6, x9, x95 => if x95 = true then (some false) else (if x6 = true then ((impl_RenameLegs.f k x5 x9).bind fun bt708 => ((impl_ThenRenaming.f k x4 x9).bind fun bt712 => (if bt708.2 = true then ((laws_vLegs.f k bt708.1 x3).bind fun t716 => (if t716 = true then (if bt712.2 = true then ((laws_vInts.f k bt712.1 (([0, 1, 2, 3, 4, 5, 6, 7] : List Int))).bind fun t720 => (if t720 = true then (laws_FnRenamings.j2 k x0) else (some false))) else (some false)) else (some false))) else (some false)))) else (laws_FnRenamings.j2 k x0))
def laws_FnRenamings.j2 : Nat → List Int → Option (Bool)
 | 0, _ => none
 | k + 1, x0 => (spec_DrawThenRenaming.f k x0).bind fun bt721 => ((impl_ThenRenaming.f k bt721.1 bt721.2).bind fun bt727 => ((spec_ThenRenaming.f k bt721.1 bt721.2).bind fun bt731 => (if (bt727.2 != bt731.2) = true then (laws_FnRenamings.j3 k x0 true) else ((laws_vInts.f k bt727.1 bt731.1).bind fun t735 => (laws_FnRenamings.j3 k x0 (!t735))))))
def laws_FnRenamings.j3 : Nat → List Int → Bool → Option (Bool)
 | 0, _, _ => none
 | k + 1, x0, x152 => if x152 = true then (some false) else ((spec_DrawImproveRenaming.f k x0).bind fun bt736 => ((impl_ImproveRenaming.f k bt736.1 bt736.2.1 bt736.2.2).bind fun bt745 => ((spec_ImproveRenaming.f k bt736.1 bt736.2.1 bt736.2.2).bind fun bt750 => (if (bt745.2.2 != bt750.2.2) = true then (laws_FnRenamings.j4 k x0 bt736.1 bt736.2.1 bt736.2.2 bt745.1 bt745.2.1 bt745.2.2 true) else (if bt745.2.1 = bt750.2.1 then ((laws_vInts.f k bt745.1 bt750.1).bind fun t755 => (laws_FnRenamings.j4 k x0 bt736.1 bt736.2.1 bt736.2.2 bt745.1 bt745.2.1 bt745.2.2 (!t755))) else (laws_FnRenamings.j4 k x0 bt736.1 bt736.2.1 bt736.2.2 bt745.1 bt745.2.1 bt745.2.2 true))))))
def laws_FnRenamings.j4 : Nat → List Int → List (S70) → List (S70) → List Int → List Int → Int → Bool → Bool → Option (Bool)
 | 0, _, _, _, _, _, _, _, _ => none
 | k + 1, x0, x23, x24, x25, x26, x27, x28, x188 => if x188 = true then (some false) else (if x28 = true then ((impl_MatchScore.f k x23 x24 x25).bind fun bt756 => ((impl_MatchScore.f k x23 x24 x26).bind fun bt758 => (if bt756.2 = true then (if bt758.2 = true then (if bt758.1 = x27 then (if bt756.1 > x27 then (laws_FnRenamings.j5 k x0 true) else (laws_FnRenamings.j5 k x0 (decide (x27 > (x24.length : Int))))) else (laws_FnRenamings.j5 k x0 true)) else (laws_FnRenamings.j5 k x0 true)) else (laws_FnRenamings.j5 k x0 true)))) else ((spec_DrawMatchScore.f k x0).bind fun bt773 => ((impl_MatchScore.f k bt773.1 bt773.2.1 bt773.2.2).bind fun bt782 => ((spec_MatchScore.f k bt773.1 bt773.2.1 bt773.2.2).bind fun bt784 => (if bt782.1 = bt784.1 then (some (bt782.2 == bt784.2)) else (some false))))))
def laws_FnRenamings.j5 : Nat → List Int → Bool → Option (Bool)
 | 0, _, _ => none
 | k + 1, x0, x225 => if x225 = true then (some false) else ((spec_DrawMatchScore.f k x0).bind fun bt760 => ((impl_MatchScore.f k bt760.1 bt760.2.1 bt760.2.2).bind fun bt769 => ((spec_MatchScore.f k bt760.1 bt760.2.1 bt760.2.2).bind fun bt771 => (if bt769.1 = bt771.1 then (some (bt769.2 == bt771.2)) else (some false)))))
end
def laws_FnRenamings.f (k : Nat) (l0 : List Int) : Option (Bool) := (laws_vBig.f l0).bind fun t682 => (if t682 = true then (some true) else ((spec_DrawRenameLegs.f k l0).bind fun bt683 => ((impl_RenameLegs.f k bt683.1 bt683.2).bind fun bt689 => ((spec_RenameLegs.f k bt683.1 bt683.2).bind fun bt693 => (if (bt689.2 != bt693.2) = true then (laws_FnRenamings.j0 k l0 bt683.1 bt683.2 bt689.1 bt689.2 true) else ((laws_vLegs.f k bt689.1 bt693.1).bind fun t697 => (laws_FnRenamings.j0 k l0 bt683.1 bt683.2 bt689.1 bt689.2 (!t697))))))))
theorem laws_FnRenamings.mono_l : ∀ k, (∀ y0 y1 y2 y3 y4 y5, LeO (laws_FnRenamings.j0 k y0 y1 y2 y3 y4 y5) (laws_FnRenamings.j0 (k + 1) y0 y1 y2 y3 y4 y5)) ∧ (∀ y0 y1 y2 y3 y4 y5 y6, LeO (laws_FnRenamings.j1 k y0 y1 y2 y3 y4 y5 y6) (laws_FnRenamings.j1 (k + 1) y0 y1 y2 y3 y4 y5 y6)) ∧ (∀ y0, LeO (laws_FnRenamings.j2 k y0) (laws_FnRenamings.j2 (k + 1) y0)) ∧ (∀ y0 y1, LeO (laws_FnRenamings.j3 k y0 y1) (laws_FnRenamings.j3 (k + 1) y0 y1)) ∧ (∀ y0 y1 y2 y3 y4 y5 y6 y7, LeO (laws_FnRenamings.j4 k y0 y1 y2 y3 y4 y5 y6 y7) (laws_FnRenamings.j4 (k + 1) y0 y1 y2 y3 y4 y5 y6 y7)) ∧ (∀ y0 y1, LeO (laws_FnRenamings.j5 k y0 y1) (laws_FnRenamings.j5 (k + 1) y0 y1))
 | 0 => ⟨fun _ _ _ _ _ _ r h => by simp [laws_FnRenamings.j0] at h, fun _ _ _ _ _ _ _ r h => by simp [laws_FnRenamings.j1] at h, fun _ r h => by simp [laws_FnRenamings.j2] at h, fun _ _ r h => by simp [laws_FnRenamings.j3] at h, fun _ _ _ _ _ _ _ _ r h => by simp [laws_FnRenamings.j4] at h, fun _ _ r h => by simp [laws_FnRenamings.j5] at h⟩
 | k + 1 => by
  obtain ⟨ih0, ih1, ih2, ih3, ih4, ih5⟩ := laws_FnRenamings.mono_l k
  refine ⟨?_, ?_, ?_, ?_, ?_, ?_⟩
  ·intro y0 y1 y2 y3 y4 y5
   unfold laws_FnRenamings.j0
   repeat' with_reducible first | apply ih0 | apply ih1 | apply ih2 | apply ih3 | apply ih4 | apply ih5 | apply impl_ImproveRenaming.mono | apply impl_InverseRenaming.mono | apply impl_IsRenaming.mono | apply impl_MatchScore.mono | apply impl_RenameLegs.mono | apply impl_ThenRenaming.mono | apply laws_vInts.mono | apply laws_vLegs.mono | apply spec_DrawImproveRenaming.mono | apply spec_DrawMatchScore.mono | apply spec_DrawRenameLegs.mono | apply spec_DrawThenRenaming.mono | apply spec_ImproveRenaming.mono | apply spec_InverseRenaming.mono | apply spec_MatchScore.mono | apply spec_RenameLegs.mono | apply spec_ThenRenaming.mono | exact LeO.refl _ | exact LeO.none _ | refine LeO.ite ?_ ?_ | refine LeO.bind ?_ (fun _ => ?_)
  ·intro y0 y1 y2 y3 y4 y5 y6
   unfold laws_FnRenamings.j1
   repeat' with_reducible first | apply ih0 | apply ih1 | apply ih2 | apply ih3 | apply ih4 | apply ih5 | apply impl_ImproveRenaming.mono | apply impl_InverseRenaming.mono | apply impl_IsRenaming.mono | apply impl_MatchScore.mono | apply impl_RenameLegs.mono | apply impl_ThenRenaming.mono | apply laws_vInts.mono | apply laws_vLegs.mono | apply spec_DrawImproveRenaming.mono | apply spec_DrawMatchScore.mono | apply spec_DrawRenameLegs.mono | apply spec_DrawThenRenaming.mono | apply spec_ImproveRenaming.mono | apply spec_InverseRenaming.mono | apply spec_MatchScore.mono | apply spec_RenameLegs.mono | apply spec_ThenRenaming.mono | exact LeO.refl _ | exact LeO.none _ | refine LeO.ite ?_ ?_ | refine LeO.bind ?_ (fun _ => ?_)
  ·intro y0
   unfold laws_FnRenamings.j2
   repeat' with_reducible first | apply ih0 | apply ih1 | apply ih2 | apply ih3 | apply ih4 | apply ih5 | apply impl_ImproveRenaming.mono | apply impl_InverseRenaming.mono | apply impl_IsRenaming.mono | apply impl_MatchScore.mono | apply impl_RenameLegs.mono | apply impl_ThenRenaming.mono | apply laws_vInts.mono | apply laws_vLegs.mono | apply spec_DrawImproveRenaming.mono | apply spec_DrawMatchScore.mono | apply spec_DrawRenameLegs.mono | apply spec_DrawThenRenaming.mono | apply spec_ImproveRenaming.mono | apply spec_InverseRenaming.mono | apply spec_MatchScore.mono | apply spec_RenameLegs.mono | apply spec_ThenRenaming.mono | exact LeO.refl _ | exact LeO.none _ | refine LeO.ite ?_ ?_ | refine LeO.bind ?_ (fun _ => ?_)
  ·intro y0 y1
   unfold laws_FnRenamings.j3
   repeat' with_reducible first | apply ih0 | apply ih1 | apply ih2 | apply ih3 | apply ih4 | apply ih5 | apply impl_ImproveRenaming.mono | apply impl_InverseRenaming.mono | apply impl_IsRenaming.mono | apply impl_MatchScore.mono | apply impl_RenameLegs.mono | apply impl_ThenRenaming.mono | apply laws_vInts.mono | apply laws_vLegs.mono | apply spec_DrawImproveRenaming.mono | apply spec_DrawMatchScore.mono | apply spec_DrawRenameLegs.mono | apply spec_DrawThenRenaming.mono | apply spec_ImproveRenaming.mono | apply spec_InverseRenaming.mono | apply spec_MatchScore.mono | apply spec_RenameLegs.mono | apply spec_ThenRenaming.mono | exact LeO.refl _ | exact LeO.none _ | refine LeO.ite ?_ ?_ | refine LeO.bind ?_ (fun _ => ?_)
  ·intro y0 y1 y2 y3 y4 y5 y6 y7
   unfold laws_FnRenamings.j4
   repeat' with_reducible first | apply ih0 | apply ih1 | apply ih2 | apply ih3 | apply ih4 | apply ih5 | apply impl_ImproveRenaming.mono | apply impl_InverseRenaming.mono | apply impl_IsRenaming.mono | apply impl_MatchScore.mono | apply impl_RenameLegs.mono | apply impl_ThenRenaming.mono | apply laws_vInts.mono | apply laws_vLegs.mono | apply spec_DrawImproveRenaming.mono | apply spec_DrawMatchScore.mono | apply spec_DrawRenameLegs.mono | apply spec_DrawThenRenaming.mono | apply spec_ImproveRenaming.mono | apply spec_InverseRenaming.mono | apply spec_MatchScore.mono | apply spec_RenameLegs.mono | apply spec_ThenRenaming.mono | exact LeO.refl _ | exact LeO.none _ | refine LeO.ite ?_ ?_ | refine LeO.bind ?_ (fun _ => ?_)
  ·intro y0 y1
   unfold laws_FnRenamings.j5
   repeat' with_reducible first | apply ih0 | apply ih1 | apply ih2 | apply ih3 | apply ih4 | apply ih5 | apply impl_ImproveRenaming.mono | apply impl_InverseRenaming.mono | apply impl_IsRenaming.mono | apply impl_MatchScore.mono | apply impl_RenameLegs.mono | apply impl_ThenRenaming.mono | apply laws_vInts.mono | apply laws_vLegs.mono | apply spec_DrawImproveRenaming.mono | apply spec_DrawMatchScore.mono | apply spec_DrawRenameLegs.mono | apply spec_DrawThenRenaming.mono | apply spec_ImproveRenaming.mono | apply spec_InverseRenaming.mono | apply spec_MatchScore.mono | apply spec_RenameLegs.mono | apply spec_ThenRenaming.mono | exact LeO.refl _ | exact LeO.none _ | refine LeO.ite ?_ ?_ | refine LeO.bind ?_ (fun _ => ?_)
theorem laws_FnRenamings.mono : ∀ a0 k, LeO (laws_FnRenamings.f k a0) (laws_FnRenamings.f (k + 1) a0) := by
 intro a0 k
 obtain ⟨ih0, ih1, ih2, ih3, ih4, ih5⟩ := laws_FnRenamings.mono_l k
 unfold laws_FnRenamings.f
 repeat' with_reducible first | apply ih0 | apply ih1 | apply ih2 | apply ih3 | apply ih4 | apply ih5 | apply impl_ImproveRenaming.mono | apply impl_InverseRenaming.mono | apply impl_IsRenaming.mono | apply impl_MatchScore.mono | apply impl_RenameLegs.mono | apply impl_ThenRenaming.mono | apply laws_vInts.mono | apply laws_vLegs.mono | apply spec_DrawImproveRenaming.mono | apply spec_DrawMatchScore.mono | apply spec_DrawRenameLegs.mono | apply spec_DrawThenRenaming.mono | apply spec_ImproveRenaming.mono | apply spec_InverseRenaming.mono | apply spec_MatchScore.mono | apply spec_RenameLegs.mono | apply spec_ThenRenaming.mono | exact LeO.refl _ | exact LeO.none _ | refine LeO.ite ?_ ?_ | refine LeO.bind ?_ (fun _ => ?_)
set_option maxHeartbeats 8000000 in
set_option maxRecDepth 100000 in
theorem laws_FnRenamings.calls (k : Nat) (A0 : Option Addr) (c0 : Nat) (l0 : List Int) (r : Bool) (w : World) (hr0 : Kd.C (Kd.int .u8) w A0 l0.length l0) (hc0 : l0.length ≤ c0) (h : laws_FnRenamings.f k l0 = some r) (hT : r = true) :
  Calls Try.prog 12 #[.slice A0 l0.length c0] w fun e w' => e = .returned (.bool r) ∧ Below w.heap.size w w' := by
 have HR0 := Aside0.mk hr0
 have HC0 := Aside0.mk hc0
 clear hr0 hc0
 have HB := Aside0.mk (Below.refl w.heap.size w)
 have H := h
 clear h
 unfold laws_FnRenamings.f at H
 replace H := bA H
 obtain ⟨t682, A2, H⟩ := H
 rcases Bool.eq_false_or_eq_true t682 with rfl | rfl
 ·replace H := iT rfl H
  obtain rfl := (Option.some.inj H)
  go_enter Try.func12, Try.ntmps12
  go_wp2_with (first | ((with_reducible refine gC 44 ?_); refine lA (some 44) Try.func44 (laws_vBig.calls _ _ l0 true _ ?side1 ?side2 A2.out) ?_; (case side1 => repeat (first | exact HR0.out | (with_reducible refine Kd.C_alloc ?_ _) | (with_reducible refine Kd.C_drewN ?_ _) | (with_reducible refine Kd.C_drew ?_))); (case side2 => exact HC0.out); rintro _ ⟨nd, rfl⟩))
  go_ret
  exact ⟨eB, (bW HB)⟩
 ·replace H := iF (by decide) H
  replace H := Option.bind_eq_some_iff.mp H
  obtain ⟨⟨t683, t684⟩, A40, H⟩ := H
  replace H : ((impl_RenameLegs.f k t683 t684).bind fun bt689 => ((spec_RenameLegs.f k t683 t684).bind fun bt693 => (if (bt689.2 != bt693.2) = true then (laws_FnRenamings.j0 k l0 t683 t684 bt689.1 bt689.2 true) else ((laws_vLegs.f k bt689.1 bt693.1).bind fun t697 => (laws_FnRenamings.j0 k l0 t683 t684 bt689.1 bt689.2 (!t697)))))) = some r := H
  have A4 := Aside0.mk A40
  clear A40
  replace H := Option.bind_eq_some_iff.mp H
  obtain ⟨⟨t689, t690⟩, A50, H⟩ := H
  replace H : ((spec_RenameLegs.f k t683 t684).bind fun bt693 => (if (t690 != bt693.2) = true then (laws_FnRenamings.j0 k l0 t683 t684 t689 t690 true) else ((laws_vLegs.f k t689 bt693.1).bind fun t697 => (laws_FnRenamings.j0 k l0 t683 t684 t689 t690 (!t697))))) = some r := H
  have A5 := Aside0.mk A50
  clear A50
  replace H := Option.bind_eq_some_iff.mp H
  obtain ⟨⟨t693, t694⟩, A60, H⟩ := H
  replace H : (if (t690 != t694) = true then (laws_FnRenamings.j0 k l0 t683 t684 t689 t690 true) else ((laws_vLegs.f k t689 t693).bind fun t697 => (laws_FnRenamings.j0 k l0 t683 t684 t689 t690 (!t697)))) = some r := H
  have A6 := Aside0.mk A60
  clear A60
  have HC7 := Aside0.mk H
  clear H
  go_enter Try.func12, Try.ntmps12
  go_upto_region 6 with (first | ((with_reducible refine gC 44 ?_); refine lA (some 44) Try.func44 (laws_vBig.calls _ _ l0 false _ ?side1 ?side2 A2.out) ?_; (case side1 => repeat (first | exact HR0.out | (with_reducible refine Kd.C_alloc ?_ _) | (with_reducible refine Kd.C_drewN ?_ _) | (with_reducible refine Kd.C_drew ?_))); (case side2 => exact HC0.out); rintro _ ⟨nd, rfl⟩) | ((with_reducible refine gate_callee (f := 45) rfl ?_); refine goesL_ (some 47) rfl rfl Try.func45 (by kernel_rfl) rfl #[.slice A0 l0.length c0] rfl argsB ?_; (with_reducible refine (spec_DrawRenameLegs.calls k _ _ l0 t683 t684 _ ?side1 ?side2 A4.out).mono ?_); (case side1 => repeat (first | exact HR0.out | (with_reducible refine Kd.C_alloc ?_ _) | (with_reducible refine Kd.C_drewN ?_ _) | (with_reducible refine Kd.C_drew ?_))); (case side2 => exact HC0.out); rintro e w8 ⟨v685, v687, rfl, ho0, ho1, hb⟩; refine ⟨_, rfl, ?_⟩; have HO686 := Aside0.mk (Kd.R_lower ho0 (below_size (bW HB))); have HO688 := Aside0.mk (Kd.R_lower ho1 (below_size (bW HB))); replace HB := uB HB hb; (try clear hb); (try clear hk); (try clear ho0); (try clear ho1); obtain ⟨Ao9, co9, eo9⟩ := Kd.R_slice HO686.out; subst eo9; obtain ⟨Ao10, co10, eo10⟩ := Kd.R_slice HO688.out; subst eo10) | ((with_reducible refine gate_callee (f := 37) rfl ?_); refine goesL_ (some 53) rfl rfl Try.func37 (by kernel_rfl) rfl #[.slice Ao9 t683.length co9, .slice Ao10 t684.length co10] rfl argsB ?_; (with_reducible refine (impl_RenameLegs.calls k _ _ t683 _ _ t684 t689 t690 _ ?side1 ?side2 ?side3 ?side4 A5.out).mono ?_); (case side1 => repeat (first | exact (Kd.R_reads' HO686.out).2.2 | (with_reducible refine Kd.C_alloc ?_ _) | (with_reducible refine Kd.C_drewN ?_ _) | (with_reducible refine Kd.C_drew ?_))); (case side2 => exact (Kd.R_reads' HO686.out).2.1); (case side3 => repeat (first | exact (Kd.R_reads' HO688.out).2.2 | (with_reducible refine Kd.C_alloc ?_ _) | (with_reducible refine Kd.C_drewN ?_ _) | (with_reducible refine Kd.C_drew ?_))); (case side4 => exact (Kd.R_reads' HO688.out).2.1); rintro e w11 ⟨v691, rfl, ho0, hb⟩; refine ⟨_, rfl, ?_⟩; have HO692 := Aside0.mk (Kd.R_lower (Kd.R_new' ho0 (Kd.R_lt (upR HO686.out))) (below_size (bW HB))); replace HO686 := Aside0.mk (Kd.R_elder' (upR HO686.out) (Kd.R_base ho0) hb); replace HO688 := uR HO688 hb; replace HB := uB HB hb; (try clear hb); (try clear hk); (try clear ho0)) | ((with_reducible refine gate_callee (f := 36) rfl ?_); refine goesL_ (some 59) rfl rfl Try.func36 (by kernel_rfl) rfl #[.slice Ao9 t683.length co9, .slice Ao10 t684.length co10] rfl argsB ?_; (with_reducible refine (spec_RenameLegs.calls k _ _ t683 _ _ t684 t693 t694 _ ?side1 ?side2 ?side3 ?side4 A6.out).mono ?_); (case side1 => repeat (first | exact (Kd.R_reads' HO686.out).2.2 | (with_reducible refine Kd.C_alloc ?_ _) | (with_reducible refine Kd.C_drewN ?_ _) | (with_reducible refine Kd.C_drew ?_))); (case side2 => exact (Kd.R_reads' HO686.out).2.1); (case side3 => repeat (first | exact (Kd.R_reads' HO688.out).2.2 | (with_reducible refine Kd.C_alloc ?_ _) | (with_reducible refine Kd.C_drewN ?_ _) | (with_reducible refine Kd.C_drew ?_))); (case side4 => exact (Kd.R_reads' HO688.out).2.1); rintro e w12 ⟨v695, rfl, ho0, hb⟩; refine ⟨_, rfl, ?_⟩; have HO696 := Aside0.mk (Kd.R_lower (Kd.R_new' (Kd.R_new' ho0 (Kd.R_lt (upR HO686.out))) (Kd.R_lt (upR HO692.out))) (below_size (bW HB))); replace HO686 := Aside0.mk (Kd.R_elder' (upR HO686.out) (Kd.R_base ho0) hb); replace HO688 := uR HO688 hb; replace HO692 := Aside0.mk (Kd.R_elder' (upR HO692.out) (Kd.R_base ho0) hb); replace HB := uB HB hb; (try clear hb); (try clear hk); (try clear ho0)))
  (try simp only [Act.put, List.setIfInBounds_toArray, List.set_cons_zero, List.set_cons_succ])
  go_cut [70] (fun v70 wc => ∃ (kq : Nat) (x70_6 : Bool), v70 = .bool x70_6 ∧ Aside0 (laws_FnRenamings.j0 kq l0 t683 t684 t689 t690 x70_6 = some r) ∧ Aside0 (kq ≤ k) ∧ Aside0 (Kd.R k70 70 wc w.heap.size (fun k_ => some k_ ≠ (v691 : Value).ownBlock) (.slice Ao9 t683.length co9) t683) ∧ Aside0 (Kd.R (Kd.int .i64) 3 wc w.heap.size (fun _ => True) (.slice Ao10 t684.length co10) t684) ∧ Aside0 (Kd.R k70 70 wc w.heap.size (fun k_ => some k_ ≠ ((.slice Ao9 t683.length co9) : Value).ownBlock) v691 t689) ∧ Aside0 (Below w.heap.size w wc))
  case first =>
   have H := HC7.out
   clear HC7
   by_cases c13 : (t690 != t694) = true
   ·rw [if_pos c13] at H
    have c13b0 : (t690 != t694) = true := c13
    (try (have c13b1 : decide (t690 = t694) = false := by simpa using c13))
    (try (have c13b2 : (t690 == t694) = false := by simpa using c13))
    (try (have c13b3 : ¬ (t690 = t694) := by simpa using c13))
    clear c13
    (first | rw [c13b0] | (simp only [i64_w, i32_w]; rw [c13b0]) | skip)
    have H' := Aside0.mk H
    clear H
    go_wp2
    go_meet
    case rel => exact ⟨_, (true), rB, H', leB, ⟨by (with_reducible repeat (first | apply Kd.R_alloc | apply Kd.R_drewN | apply Kd.R_drew)); exact Kd.R_mono HO686.out (fun _ hk => hk.1.2)⟩, ⟨upR HO688.out⟩, ⟨by (with_reducible repeat (first | apply Kd.R_alloc | apply Kd.R_drewN | apply Kd.R_drew)); exact Kd.R_mono HO692.out (fun _ hk => hk.1.2)⟩, (aB HB)⟩
   ·rw [if_neg c13] at H
    have c13b0 : (t690 != t694) = false := by simpa using c13
    (try (have c13b1 : decide (t690 = t694) = true := by simpa using c13))
    (try (have c13b2 : (t690 == t694) = true := by simpa using c13))
    clear c13
    (first | rw [c13b0] | (simp only [i64_w, i32_w]; rw [c13b0]) | skip)
    replace H := bA H
    obtain ⟨t697, A14, H⟩ := H
    have H' := Aside0.mk H
    clear H
    obtain ⟨Ao15, co15, eo15⟩ := Kd.R_slice HO692.out
    subst eo15
    obtain ⟨Ao16, co16, eo16⟩ := Kd.R_slice HO696.out
    subst eo16
    go_wp2_with (first | (go_at_call 46; (with_reducible refine (laws_vLegs.calls k _ _ t689 _ _ t693 t697 _ ?side1 ?side2 ?side3 ?side4 A14.out).mono ?_); (case side1 => repeat (first | exact (Kd.R_reads' HO692.out).2.2 | (with_reducible refine Kd.C_alloc ?_ _) | (with_reducible refine Kd.C_drewN ?_ _) | (with_reducible refine Kd.C_drew ?_))); (case side2 => exact (Kd.R_reads' HO692.out).2.1); (case side3 => repeat (first | exact (Kd.R_reads' HO696.out).2.2 | (with_reducible refine Kd.C_alloc ?_ _) | (with_reducible refine Kd.C_drewN ?_ _) | (with_reducible refine Kd.C_drew ?_))); (case side4 => exact (Kd.R_reads' HO696.out).2.1); rintro e w' ⟨rfl, ⟨nd, rfl⟩⟩))
    go_meet
    case rel => exact ⟨_, (!t697), rB, H', leB, ⟨by (with_reducible repeat (first | apply Kd.R_alloc | apply Kd.R_drewN | apply Kd.R_drew)); exact Kd.R_mono HO686.out (fun _ hk => hk.1.2)⟩, ⟨upR HO688.out⟩, ⟨by (with_reducible repeat (first | apply Kd.R_alloc | apply Kd.R_drewN | apply Kd.R_drew)); exact Kd.R_mono HO692.out (fun _ hk => hk.1.2)⟩, (aB HB)⟩
  case rest =>
   apply Classical.byContradiction
   intro hn_
   letI h_ : (0 : Nat) = 1 := (hn_ (by
    clear hn_
    clear HC7
    obtain ⟨kq, x70_6, rfl, HA, HJ6, HO_3, HO_4, HO_5, HB⟩ := hcut
    cases kq with
    | zero => exact absurd HA.out (by simp [laws_FnRenamings.j0])
    | succ kj6 =>
     have H := HA.out
     clear HA
     simp only [laws_FnRenamings.j0] at H
     rcases Bool.eq_false_or_eq_true x70_6 with rfl | rfl
     ·replace H := iT rfl H
      exact absurd (Option.some.inj H) (by rw [hT]; decide)
     ·replace H := iF (by decide) H
      replace H := Option.bind_eq_some_iff.mp H
      obtain ⟨⟨t698, t699⟩, A180, H⟩ := H
      replace H : ((spec_InverseRenaming.f kj6 t684).bind fun bt702 => (if (t699 != bt702.2) = true then (laws_FnRenamings.j1 kj6 l0 t683 t684 t689 t690 t698 true) else ((impl_IsRenaming.f kj6 t684).bind fun t706 => (if (t699 != t706) = true then (laws_FnRenamings.j1 kj6 l0 t683 t684 t689 t690 t698 true) else ((laws_vInts.f kj6 t698 bt702.1).bind fun t707 => (laws_FnRenamings.j1 kj6 l0 t683 t684 t689 t690 t698 (!t707))))))) = some r := H
      have A18 := Aside0.mk A180
      clear A180
      replace H := Option.bind_eq_some_iff.mp H
      obtain ⟨⟨t702, t703⟩, A190, H⟩ := H
      replace H : (if (t699 != t703) = true then (laws_FnRenamings.j1 kj6 l0 t683 t684 t689 t690 t698 true) else ((impl_IsRenaming.f kj6 t684).bind fun t706 => (if (t699 != t706) = true then (laws_FnRenamings.j1 kj6 l0 t683 t684 t689 t690 t698 true) else ((laws_vInts.f kj6 t698 t702).bind fun t707 => (laws_FnRenamings.j1 kj6 l0 t683 t684 t689 t690 t698 (!t707)))))) = some r := H
      have A19 := Aside0.mk A190
      clear A190
      have HC20 := Aside0.mk H
      clear H
      go_upto_region 10 with (first | ((with_reducible refine gate_callee (f := 19) rfl ?_); refine goesL_ (some 73) rfl rfl Try.func19 (by kernel_rfl) rfl #[.slice Ao10 t684.length co10] rfl argsB ?_; (with_reducible refine (impl_InverseRenaming.calls kj6 _ _ t684 t698 t699 _ ?side1 ?side2 A18.out).mono ?_); (case side1 => repeat (first | exact (Kd.R_reads' HO_4.out).2.2 | (with_reducible refine Kd.C_alloc ?_ _) | (with_reducible refine Kd.C_drewN ?_ _) | (with_reducible refine Kd.C_drew ?_))); (case side2 => exact (Kd.R_reads' HO_4.out).2.1); rintro e w21 ⟨v700, rfl, ho0, hb⟩; refine ⟨_, rfl, ?_⟩; have HO701 := Aside0.mk (Kd.R_lower (Kd.R_new' ho0 (Kd.R_lt (upR HO_4.out))) (below_size (bW HB))); replace HO_3 := uR HO_3 hb; replace HO_4 := Aside0.mk (Kd.R_elder' (upR HO_4.out) (Kd.R_base ho0) hb); replace HO_5 := uR HO_5 hb; replace HB := uB HB hb; (try clear hb); (try clear hk); (try clear ho0)) | ((with_reducible refine gate_callee (f := 18) rfl ?_); refine goesL_ (some 78) rfl rfl Try.func18 (by kernel_rfl) rfl #[.slice Ao10 t684.length co10] rfl argsB ?_; (with_reducible refine (spec_InverseRenaming.calls kj6 _ _ t684 t702 t703 _ ?side1 ?side2 A19.out).mono ?_); (case side1 => repeat (first | exact (Kd.R_reads' HO_4.out).2.2 | (with_reducible refine Kd.C_alloc ?_ _) | (with_reducible refine Kd.C_drewN ?_ _) | (with_reducible refine Kd.C_drew ?_))); (case side2 => exact (Kd.R_reads' HO_4.out).2.1); rintro e w22 ⟨v704, rfl, ho0, hb⟩; refine ⟨_, rfl, ?_⟩; have HO705 := Aside0.mk (Kd.R_lower (Kd.R_new' (Kd.R_new' ho0 (Kd.R_lt (upR HO_4.out))) (Kd.R_lt (upR HO701.out))) (below_size (bW HB))); replace HO_3 := uR HO_3 hb; replace HO_4 := Aside0.mk (Kd.R_elder' (upR HO_4.out) (Kd.R_base ho0) hb); replace HO_5 := uR HO_5 hb; replace HO701 := Aside0.mk (Kd.R_elder' (upR HO701.out) (Kd.R_base ho0) hb); replace HB := uB HB hb; (try clear hb); (try clear hk); (try clear ho0)))
      (try simp only [Act.put, List.setIfInBounds_toArray, List.set_cons_zero, List.set_cons_succ])
      go_cut [95] (fun v95 wc => ∃ (kq : Nat) (x95_19 : Bool), v95 = .bool x95_19 ∧ Aside0 (laws_FnRenamings.j1 kq l0 t683 t684 t689 t690 t698 x95_19 = some r) ∧ Aside0 (kq ≤ kj6) ∧ Aside0 (Kd.R k70 70 wc w.heap.size (fun k_ => some k_ ≠ (v691 : Value).ownBlock) (.slice Ao9 t683.length co9) t683) ∧ Aside0 (Kd.R (Kd.int .i64) 3 wc w.heap.size (fun k_ => some k_ ≠ (v700 : Value).ownBlock) (.slice Ao10 t684.length co10) t684) ∧ Aside0 (Kd.R k70 70 wc w.heap.size (fun k_ => some k_ ≠ ((.slice Ao9 t683.length co9) : Value).ownBlock) v691 t689) ∧ Aside0 (Kd.R (Kd.int .i64) 3 wc w.heap.size (fun k_ => some k_ ≠ ((.slice Ao10 t684.length co10) : Value).ownBlock) v700 t698) ∧ Aside0 (Below w.heap.size w wc))
      case first =>
       have H := HC20.out
       clear HC20
       by_cases c23 : (t699 != t703) = true
       ·rw [if_pos c23] at H
        have c23b0 : (t699 != t703) = true := c23
        (try (have c23b1 : decide (t699 = t703) = false := by simpa using c23))
        (try (have c23b2 : (t699 == t703) = false := by simpa using c23))
        (try (have c23b3 : ¬ (t699 = t703) := by simpa using c23))
        clear c23
        (first | rw [c23b0] | (simp only [i64_w, i32_w]; rw [c23b0]) | skip)
        have H' := Aside0.mk H
        clear H
        go_wp2
        go_meet
        case rel => exact ⟨_, (true), rB, H', ⟨by have := HJ6.out; first | omega | exact Nat.le_refl _⟩, ⟨upR HO_3.out⟩, ⟨by (with_reducible repeat (first | apply Kd.R_alloc | apply Kd.R_drewN | apply Kd.R_drew)); exact Kd.R_mono HO_4.out (fun _ hk => hk.1.2)⟩, ⟨upR HO_5.out⟩, ⟨by (with_reducible repeat (first | apply Kd.R_alloc | apply Kd.R_drewN | apply Kd.R_drew)); exact Kd.R_mono HO701.out (fun _ hk => hk.1.2)⟩, (aB HB)⟩
       ·rw [if_neg c23] at H
        have c23b0 : (t699 != t703) = false := by simpa using c23
        (try (have c23b1 : decide (t699 = t703) = true := by simpa using c23))
        (try (have c23b2 : (t699 == t703) = true := by simpa using c23))
        clear c23
        (first | rw [c23b0] | (simp only [i64_w, i32_w]; rw [c23b0]) | skip)
        replace H := bA H
        obtain ⟨t706, A24, H⟩ := H
        by_cases c25 : (t699 != t706) = true
        ·rw [if_pos c25] at H
         have c25b0 : (t699 != t706) = true := c25
         (try (have c25b1 : decide (t699 = t706) = false := by simpa using c25))
         (try (have c25b2 : (t699 == t706) = false := by simpa using c25))
         (try (have c25b3 : ¬ (t699 = t706) := by simpa using c25))
         clear c25
         have H' := Aside0.mk H
         clear H
         go_wp2_with (first | (go_at_call 16; (with_reducible refine (impl_IsRenaming.calls kj6 _ _ t684 t706 _ ?side1 ?side2 A24.out).mono ?_); (case side1 => repeat (first | exact (Kd.R_reads' HO_4.out).2.2 | (with_reducible refine Kd.C_alloc ?_ _) | (with_reducible refine Kd.C_drewN ?_ _) | (with_reducible refine Kd.C_drew ?_))); (case side2 => exact (Kd.R_reads' HO_4.out).2.1); rintro e w' ⟨rfl, ⟨nd, rfl⟩⟩))
         go_meet
         case rel => exact ⟨_, (true), rB, H', ⟨by have := HJ6.out; first | omega | exact Nat.le_refl _⟩, ⟨upR HO_3.out⟩, ⟨by (with_reducible repeat (first | apply Kd.R_alloc | apply Kd.R_drewN | apply Kd.R_drew)); exact Kd.R_mono HO_4.out (fun _ hk => hk.1.2)⟩, ⟨upR HO_5.out⟩, ⟨by (with_reducible repeat (first | apply Kd.R_alloc | apply Kd.R_drewN | apply Kd.R_drew)); exact Kd.R_mono HO701.out (fun _ hk => hk.1.2)⟩, (aB HB)⟩
        ·rw [if_neg c25] at H
         have c25b0 : (t699 != t706) = false := by simpa using c25
         (try (have c25b1 : decide (t699 = t706) = true := by simpa using c25))
         (try (have c25b2 : (t699 == t706) = true := by simpa using c25))
         clear c25
         replace H := bA H
         obtain ⟨t707, A26, H⟩ := H
         have H' := Aside0.mk H
         clear H
         go_wp2_with (first | (go_at_call 16; (with_reducible refine (impl_IsRenaming.calls kj6 _ _ t684 t706 _ ?side1 ?side2 A24.out).mono ?_); (case side1 => repeat (first | exact (Kd.R_reads' HO_4.out).2.2 | (with_reducible refine Kd.C_alloc ?_ _) | (with_reducible refine Kd.C_drewN ?_ _) | (with_reducible refine Kd.C_drew ?_))); (case side2 => exact (Kd.R_reads' HO_4.out).2.1); rintro e w' ⟨rfl, ⟨nd, rfl⟩⟩; obtain ⟨Ao27, co27, eo27⟩ := Kd.R_slice HO701.out; subst eo27; obtain ⟨Ao28, co28, eo28⟩ := Kd.R_slice HO705.out; subst eo28) | (go_at_call 47; (with_reducible refine (laws_vInts.calls kj6 _ _ t698 _ _ t702 t707 _ ?side1 ?side2 ?side3 ?side4 A26.out).mono ?_); (case side1 => repeat (first | exact (Kd.R_reads' HO701.out).2.2 | (with_reducible refine Kd.C_alloc ?_ _) | (with_reducible refine Kd.C_drewN ?_ _) | (with_reducible refine Kd.C_drew ?_))); (case side2 => exact (Kd.R_reads' HO701.out).2.1); (case side3 => repeat (first | exact (Kd.R_reads' HO705.out).2.2 | (with_reducible refine Kd.C_alloc ?_ _) | (with_reducible refine Kd.C_drewN ?_ _) | (with_reducible refine Kd.C_drew ?_))); (case side4 => exact (Kd.R_reads' HO705.out).2.1); rintro e w' ⟨rfl, ⟨nd, rfl⟩⟩))
         go_meet
         case rel => exact ⟨_, (!t707), rB, H', ⟨by have := HJ6.out; first | omega | exact Nat.le_refl _⟩, ⟨upR HO_3.out⟩, ⟨by (with_reducible repeat (first | apply Kd.R_alloc | apply Kd.R_drewN | apply Kd.R_drew)); exact Kd.R_mono HO_4.out (fun _ hk => hk.1.2)⟩, ⟨upR HO_5.out⟩, ⟨by (with_reducible repeat (first | apply Kd.R_alloc | apply Kd.R_drewN | apply Kd.R_drew)); exact Kd.R_mono HO701.out (fun _ hk => hk.1.2)⟩, (aB HB)⟩
      case rest =>
       apply Classical.byContradiction
       intro hn_
       letI h_ : (0 : Nat) = 1 := (hn_ (by
        clear hn_
        clear HC20
        obtain ⟨kq, x95_19, rfl, HA, HJ19, HO_3, HO_4, HO_5, HO_9, HB⟩ := hcut
        cases kq with
        | zero => exact absurd HA.out (by simp [laws_FnRenamings.j1])
        | succ kj19 =>
         have H := HA.out
         clear HA
         simp only [laws_FnRenamings.j1] at H
         rcases Bool.eq_false_or_eq_true x95_19 with rfl | rfl
         ·replace H := iT rfl H
          exact absurd (Option.some.inj H) (by rw [hT]; decide)
         ·replace H := iF (by decide) H
          have HC30 := Aside0.mk H
          clear H
          go_upto_if 96 with (fail)
          go_cut [] (fun wc => ∃ (kq : Nat), Aside0 (laws_FnRenamings.j2 kq l0 = some r) ∧ Aside0 (kq ≤ kj19) ∧ Aside0 (Below w.heap.size w wc))
          case first =>
           have H := HC30.out
           clear HC30
           rcases Bool.eq_false_or_eq_true t690 with rfl | rfl
           ·replace H := iT rfl H
            replace H := Option.bind_eq_some_iff.mp H
            obtain ⟨⟨t708, t709⟩, A320, H⟩ := H
            replace H : ((impl_ThenRenaming.f kj19 t684 t698).bind fun bt712 => (if t709 = true then ((laws_vLegs.f kj19 t708 t683).bind fun t716 => (if t716 = true then (if bt712.2 = true then ((laws_vInts.f kj19 bt712.1 (([0, 1, 2, 3, 4, 5, 6, 7] : List Int))).bind fun t720 => (if t720 = true then (laws_FnRenamings.j2 kj19 l0) else (some false))) else (some false)) else (some false))) else (some false))) = some r := H
            have A32 := Aside0.mk A320
            clear A320
            replace H := Option.bind_eq_some_iff.mp H
            obtain ⟨⟨t712, t713⟩, A330, H⟩ := H
            replace H : (if t709 = true then ((laws_vLegs.f kj19 t708 t683).bind fun t716 => (if t716 = true then (if t713 = true then ((laws_vInts.f kj19 t712 (([0, 1, 2, 3, 4, 5, 6, 7] : List Int))).bind fun t720 => (if t720 = true then (laws_FnRenamings.j2 kj19 l0) else (some false))) else (some false)) else (some false))) else (some false)) = some r := H
            have A33 := Aside0.mk A330
            clear A330
            rcases Bool.eq_false_or_eq_true t709 with rfl | rfl
            ·replace H := iT rfl H
             replace H := bA H
             obtain ⟨t716, A35, H⟩ := H
             rcases Bool.eq_false_or_eq_true t716 with rfl | rfl
             ·replace H := iT rfl H
              rcases Bool.eq_false_or_eq_true t713 with rfl | rfl
              ·replace H := iT rfl H
               obtain ⟨y717, hy717⟩ : ∃ y_ : List Int, y_ = (([0, 1, 2, 3, 4, 5, 6, 7] : List Int)) := ⟨_, rfl⟩
               replace H : ((laws_vInts.f kj19 t712 y717).bind fun t720 => (if t720 = true then (laws_FnRenamings.j2 kj19 l0) else (some false))) = some r := by first | (rw [hy717]; with_reducible exact H) | (have H2_ := (Option.bind_some _ _).symm.trans H; rw [hy717]; with_reducible exact H2_) | (have H2_ := (Option.bind_some _ _).symm.trans H; with_reducible exact H2_) | with_reducible exact H | (rw [hy717]; exact H) | exact H
               have Ny717 := Aside0.mk hy717
               clear hy717
               replace H := bA H
               obtain ⟨t720, A38, H⟩ := H
               rcases Bool.eq_false_or_eq_true t720 with rfl | rfl
               ·replace H := iT rfl H
                have H' := Aside0.mk H
                clear H
                obtain ⟨Ao40, co40, eo40⟩ := Kd.R_slice HO_5.out
                subst eo40
                obtain ⟨Ao41, co41, eo41⟩ := Kd.R_slice HO_9.out
                subst eo41
                go_wp2_with (first | ((with_reducible refine gate_callee (f := 37) rfl ?_); refine goesL_ (some 100) rfl rfl Try.func37 (by kernel_rfl) rfl #[.slice Ao40 t689.length co40, .slice Ao41 t698.length co41] rfl argsB ?_; (with_reducible refine (impl_RenameLegs.calls kj19 _ _ t689 _ _ t698 t708 true _ ?side1 ?side2 ?side3 ?side4 A32.out).mono ?_); (case side1 => repeat (first | exact (Kd.R_reads' HO_5.out).2.2 | (with_reducible refine Kd.C_alloc ?_ _) | (with_reducible refine Kd.C_drewN ?_ _) | (with_reducible refine Kd.C_drew ?_))); (case side2 => exact (Kd.R_reads' HO_5.out).2.1); (case side3 => repeat (first | exact (Kd.R_reads' HO_9.out).2.2 | (with_reducible refine Kd.C_alloc ?_ _) | (with_reducible refine Kd.C_drewN ?_ _) | (with_reducible refine Kd.C_drew ?_))); (case side4 => exact (Kd.R_reads' HO_9.out).2.1); rintro e w42 ⟨v710, rfl, ho0, hb⟩; refine ⟨_, rfl, ?_⟩; have HO711 := Aside0.mk (Kd.R_lower (Kd.R_new' (Kd.R_new' ho0 (Kd.R_lt (upR HO_3.out))) (Kd.R_lt (upR HO_5.out))) (below_size (bW HB))); replace HO_3 := Aside0.mk (Kd.R_elder' (upR HO_3.out) (Kd.R_base ho0) hb); replace HO_4 := uR HO_4 hb; replace HO_5 := Aside0.mk (Kd.R_elder' (upR HO_5.out) (Kd.R_base ho0) hb); replace HO_9 := uR HO_9 hb; replace HB := uB HB hb; (try clear hb); (try clear hk); (try clear ho0)) | ((with_reducible refine gate_callee (f := 23) rfl ?_); refine goesL_ (some 106) rfl rfl Try.func23 (by kernel_rfl) rfl #[.slice Ao10 t684.length co10, .slice Ao41 t698.length co41] rfl argsB ?_; (with_reducible refine (impl_ThenRenaming.calls kj19 _ _ t684 _ _ t698 t712 true _ ?side1 ?side2 ?side3 ?side4 A33.out).mono ?_); (case side1 => repeat (first | exact (Kd.R_reads' HO_4.out).2.2 | (with_reducible refine Kd.C_alloc ?_ _) | (with_reducible refine Kd.C_drewN ?_ _) | (with_reducible refine Kd.C_drew ?_))); (case side2 => exact (Kd.R_reads' HO_4.out).2.1); (case side3 => repeat (first | exact (Kd.R_reads' HO_9.out).2.2 | (with_reducible refine Kd.C_alloc ?_ _) | (with_reducible refine Kd.C_drewN ?_ _) | (with_reducible refine Kd.C_drew ?_))); (case side4 => exact (Kd.R_reads' HO_9.out).2.1); rintro e w43 ⟨v714, rfl, ho0, hb⟩; refine ⟨_, rfl, ?_⟩; have HO715 := Aside0.mk (Kd.R_lower (Kd.R_new' (Kd.R_new' ho0 (Kd.R_lt (upR HO_4.out))) (Kd.R_lt (upR HO_9.out))) (below_size (bW HB))); replace HO_3 := uR HO_3 hb; replace HO_4 := Aside0.mk (Kd.R_elder' (upR HO_4.out) (Kd.R_base ho0) hb); replace HO_5 := uR HO_5 hb; replace HO_9 := Aside0.mk (Kd.R_elder' (upR HO_9.out) (Kd.R_base ho0) hb); replace HO711 := uR HO711 hb; replace HB := uB HB hb; (try clear hb); (try clear hk); (try clear ho0); obtain ⟨Ao44, co44, eo44⟩ := Kd.R_slice HO711.out; subst eo44) | (go_at_call 46; (with_reducible refine (laws_vLegs.calls kj19 _ _ t708 _ _ t683 true _ ?side1 ?side2 ?side3 ?side4 A35.out).mono ?_); (case side1 => repeat (first | exact (Kd.R_reads' HO711.out).2.2 | (with_reducible refine Kd.C_alloc ?_ _) | (with_reducible refine Kd.C_drewN ?_ _) | (with_reducible refine Kd.C_drew ?_))); (case side2 => exact (Kd.R_reads' HO711.out).2.1); (case side3 => repeat (first | exact (Kd.R_reads' HO_3.out).2.2 | (with_reducible refine Kd.C_alloc ?_ _) | (with_reducible refine Kd.C_drewN ?_ _) | (with_reducible refine Kd.C_drew ?_))); (case side4 => exact (Kd.R_reads' HO_3.out).2.1); rintro e w' ⟨rfl, ⟨nd, rfl⟩⟩) | ((with_reducible refine gate_dst (N := 123) rfl ?_); (try (refine gate_guard (by rfl) ?_; dsimp only)); refine Kd.R_lit (Kd.int .i64) _ 3 ?hg (N := 123) ?hd (xs := ([0, 1, 2, 3, 4, 5, 6, 7] : List Int)) (inner := [.int .i64 0, .int .i64 1, .int .i64 2, .int .i64 3, .int .i64 4, .int .i64 5, .int .i64 6, .int .i64 7]) (ok := fun _ => True) (okp := fun _ => True) ?hr ?hp (fun _ hk => hk) trivial (Below.refl _ _) (Nat.le_refl _) (by simp) ?_; (case hd => rfl); (case hg => rfl); (case hr => first | (go_simp; done) | (go_simp; rfl)); (case hp => exact (Reps.one (show Kd.M (Kd.int .i64) _ _ _ 0 [.int .i64 0] from rfl) (Reps.one (show Kd.M (Kd.int .i64) _ _ _ 1 [.int .i64 1] from rfl) (Reps.one (show Kd.M (Kd.int .i64) _ _ _ 2 [.int .i64 2] from rfl) (Reps.one (show Kd.M (Kd.int .i64) _ _ _ 3 [.int .i64 3] from rfl) (Reps.one (show Kd.M (Kd.int .i64) _ _ _ 4 [.int .i64 4] from rfl) (Reps.one (show Kd.M (Kd.int .i64) _ _ _ 5 [.int .i64 5] from rfl) (Reps.one (show Kd.M (Kd.int .i64) _ _ _ 6 [.int .i64 6] from rfl) (Reps.one (show Kd.M (Kd.int .i64) _ _ _ 7 [.int .i64 7] from rfl) (Reps.none _ _)))))))))); intro v718 w45 ho46 hb hg_ hnew_; clear hg_ hnew_; (first | rw [← Ny717.out] at ho46 | (simp only [Int.reduceToNat] at ho46; rw [← Ny717.out] at ho46)); have HO719 := Aside0.mk (Kd.R_lower (Kd.R_new' (Kd.R_new' (Kd.R_new' ho46 (Kd.R_lt (upR HO_4.out))) (Kd.R_lt (upR HO_9.out))) (Kd.R_lt (upR HO715.out))) (below_size (bW HB))); replace HO_3 := uR HO_3 hb; replace HO_4 := Aside0.mk (Kd.R_elder' (upR HO_4.out) (Kd.R_base ho46) hb); replace HO_5 := uR HO_5 hb; replace HO_9 := Aside0.mk (Kd.R_elder' (upR HO_9.out) (Kd.R_base ho46) hb); replace HO711 := uR HO711 hb; replace HO715 := Aside0.mk (Kd.R_elder' (upR HO715.out) (Kd.R_base ho46) hb); replace HB := uB HB hb; clear hb ho46; obtain ⟨Ao47, co47, eo47⟩ := Kd.R_slice HO715.out; subst eo47; obtain ⟨Ao48, co48, eo48⟩ := Kd.R_slice HO719.out; subst eo48) | (go_at_call 47; (with_reducible refine (laws_vInts.calls kj19 _ _ t712 _ _ y717 true _ ?side1 ?side2 ?side3 ?side4 A38.out).mono ?_); (case side1 => repeat (first | exact (Kd.R_reads' HO715.out).2.2 | (with_reducible refine Kd.C_alloc ?_ _) | (with_reducible refine Kd.C_drewN ?_ _) | (with_reducible refine Kd.C_drew ?_))); (case side2 => exact (Kd.R_reads' HO715.out).2.1); (case side3 => repeat (first | exact (Kd.R_reads' HO719.out).2.2 | (with_reducible refine Kd.C_alloc ?_ _) | (with_reducible refine Kd.C_drewN ?_ _) | (with_reducible refine Kd.C_drew ?_))); (case side4 => exact (Kd.R_reads' HO719.out).2.1); rintro e w' ⟨rfl, ⟨nd, rfl⟩⟩))
                go_meet
                case rel => exact ⟨_, H', ⟨by have := HJ6.out; have := HJ19.out; first | omega | exact Nat.le_refl _⟩, (aB HB)⟩
               ·replace H := iF (by decide) H
                exact absurd (Option.some.inj H) (by rw [hT]; decide)
              ·replace H := iF (by decide) H
               exact absurd (Option.some.inj H) (by rw [hT]; decide)
             ·replace H := iF (by decide) H
              exact absurd (Option.some.inj H) (by rw [hT]; decide)
            ·replace H := iF (by decide) H
             exact absurd (Option.some.inj H) (by rw [hT]; decide)
           ·replace H := iF (by decide) H
            have H' := Aside0.mk H
            clear H
            go_wp2
            go_meet
            case rel => exact ⟨_, H', ⟨by have := HJ6.out; have := HJ19.out; first | omega | exact Nat.le_refl _⟩, (aB HB)⟩
          case rest =>
           apply Classical.byContradiction
           intro hn_
           letI h_ : (0 : Nat) = 1 := (hn_ (by
            clear hn_
            clear HC30
            obtain ⟨kq, HA, HJ29, HB⟩ := hcut
            cases kq with
            | zero => exact absurd HA.out (by simp [laws_FnRenamings.j2])
            | succ kj29 =>
             have H := HA.out
             clear HA
             simp only [laws_FnRenamings.j2] at H
             replace H := Option.bind_eq_some_iff.mp H
             obtain ⟨⟨t721, t722⟩, A720, H⟩ := H
             replace H : ((impl_ThenRenaming.f kj29 t721 t722).bind fun bt727 => ((spec_ThenRenaming.f kj29 t721 t722).bind fun bt731 => (if (bt727.2 != bt731.2) = true then (laws_FnRenamings.j3 kj29 l0 true) else ((laws_vInts.f kj29 bt727.1 bt731.1).bind fun t735 => (laws_FnRenamings.j3 kj29 l0 (!t735)))))) = some r := H
             have A72 := Aside0.mk A720
             clear A720
             replace H := Option.bind_eq_some_iff.mp H
             obtain ⟨⟨t727, t728⟩, A730, H⟩ := H
             replace H : ((spec_ThenRenaming.f kj29 t721 t722).bind fun bt731 => (if (t728 != bt731.2) = true then (laws_FnRenamings.j3 kj29 l0 true) else ((laws_vInts.f kj29 t727 bt731.1).bind fun t735 => (laws_FnRenamings.j3 kj29 l0 (!t735))))) = some r := H
             have A73 := Aside0.mk A730
             clear A730
             replace H := Option.bind_eq_some_iff.mp H
             obtain ⟨⟨t731, t732⟩, A740, H⟩ := H
             replace H : (if (t728 != t732) = true then (laws_FnRenamings.j3 kj29 l0 true) else ((laws_vInts.f kj29 t727 t731).bind fun t735 => (laws_FnRenamings.j3 kj29 l0 (!t735)))) = some r := H
             have A74 := Aside0.mk A740
             clear A740
             have HC75 := Aside0.mk H
             clear H
             go_upto_region 20 with (first | ((with_reducible refine gate_callee (f := 48) rfl ?_); refine goesL_ (some 129) rfl rfl Try.func48 (by kernel_rfl) rfl #[.slice A0 l0.length c0] rfl argsB ?_; (with_reducible refine (spec_DrawThenRenaming.calls kj29 _ _ l0 t721 t722 _ ?side1 ?side2 A72.out).mono ?_); (case side1 => repeat (first | exact (Kd.C_below HR0.out HB.out) | (with_reducible refine Kd.C_alloc ?_ _) | (with_reducible refine Kd.C_drewN ?_ _) | (with_reducible refine Kd.C_drew ?_))); (case side2 => exact HC0.out); rintro e w76 ⟨v723, v725, rfl, ho0, ho1, hb⟩; refine ⟨_, rfl, ?_⟩; have HO724 := Aside0.mk (Kd.R_lower ho0 (below_size (bW HB))); have HO726 := Aside0.mk (Kd.R_lower ho1 (below_size (bW HB))); replace HB := uB HB hb; (try clear hb); (try clear hk); (try clear ho0); (try clear ho1); obtain ⟨Ao77, co77, eo77⟩ := Kd.R_slice HO724.out; subst eo77; obtain ⟨Ao78, co78, eo78⟩ := Kd.R_slice HO726.out; subst eo78) | ((with_reducible refine gate_callee (f := 23) rfl ?_); refine goesL_ (some 135) rfl rfl Try.func23 (by kernel_rfl) rfl #[.slice Ao77 t721.length co77, .slice Ao78 t722.length co78] rfl argsB ?_; (with_reducible refine (impl_ThenRenaming.calls kj29 _ _ t721 _ _ t722 t727 t728 _ ?side1 ?side2 ?side3 ?side4 A73.out).mono ?_); (case side1 => repeat (first | exact (Kd.R_reads' HO724.out).2.2 | (with_reducible refine Kd.C_alloc ?_ _) | (with_reducible refine Kd.C_drewN ?_ _) | (with_reducible refine Kd.C_drew ?_))); (case side2 => exact (Kd.R_reads' HO724.out).2.1); (case side3 => repeat (first | exact (Kd.R_reads' HO726.out).2.2 | (with_reducible refine Kd.C_alloc ?_ _) | (with_reducible refine Kd.C_drewN ?_ _) | (with_reducible refine Kd.C_drew ?_))); (case side4 => exact (Kd.R_reads' HO726.out).2.1); rintro e w79 ⟨v729, rfl, ho0, hb⟩; refine ⟨_, rfl, ?_⟩; have HO730 := Aside0.mk (Kd.R_lower (Kd.R_new' (Kd.R_new' ho0 (Kd.R_lt (upR HO724.out))) (Kd.R_lt (upR HO726.out))) (below_size (bW HB))); replace HO724 := Aside0.mk (Kd.R_elder' (upR HO724.out) (Kd.R_base ho0) hb); replace HO726 := Aside0.mk (Kd.R_elder' (upR HO726.out) (Kd.R_base ho0) hb); replace HB := uB HB hb; (try clear hb); (try clear hk); (try clear ho0)) | ((with_reducible refine gate_callee (f := 22) rfl ?_); refine goesL_ (some 141) rfl rfl Try.func22 (by kernel_rfl) rfl #[.slice Ao77 t721.length co77, .slice Ao78 t722.length co78] rfl argsB ?_; (with_reducible refine (spec_ThenRenaming.calls kj29 _ _ t721 _ _ t722 t731 t732 _ ?side1 ?side2 ?side3 ?side4 A74.out).mono ?_); (case side1 => repeat (first | exact (Kd.R_reads' HO724.out).2.2 | (with_reducible refine Kd.C_alloc ?_ _) | (with_reducible refine Kd.C_drewN ?_ _) | (with_reducible refine Kd.C_drew ?_))); (case side2 => exact (Kd.R_reads' HO724.out).2.1); (case side3 => repeat (first | exact (Kd.R_reads' HO726.out).2.2 | (with_reducible refine Kd.C_alloc ?_ _) | (with_reducible refine Kd.C_drewN ?_ _) | (with_reducible refine Kd.C_drew ?_))); (case side4 => exact (Kd.R_reads' HO726.out).2.1); rintro e w80 ⟨v733, rfl, ho0, hb⟩; refine ⟨_, rfl, ?_⟩; have HO734 := Aside0.mk (Kd.R_lower (Kd.R_new' (Kd.R_new' (Kd.R_new' ho0 (Kd.R_lt (upR HO724.out))) (Kd.R_lt (upR HO726.out))) (Kd.R_lt (upR HO730.out))) (below_size (bW HB))); replace HO724 := Aside0.mk (Kd.R_elder' (upR HO724.out) (Kd.R_base ho0) hb); replace HO726 := Aside0.mk (Kd.R_elder' (upR HO726.out) (Kd.R_base ho0) hb); replace HO730 := Aside0.mk (Kd.R_elder' (upR HO730.out) (Kd.R_base ho0) hb); replace HB := uB HB hb; (try clear hb); (try clear hk); (try clear ho0)))
             (try simp only [Act.put, List.setIfInBounds_toArray, List.set_cons_zero, List.set_cons_succ])
             go_cut [152] (fun v152 wc => ∃ (kq : Nat) (x152_74 : Bool), v152 = .bool x152_74 ∧ Aside0 (laws_FnRenamings.j3 kq l0 x152_74 = some r) ∧ Aside0 (kq ≤ kj29) ∧ Aside0 (Below w.heap.size w wc))
             case first =>
              have H := HC75.out
              clear HC75
              by_cases c81 : (t728 != t732) = true
              ·rw [if_pos c81] at H
               have c81b0 : (t728 != t732) = true := c81
               (try (have c81b1 : decide (t728 = t732) = false := by simpa using c81))
               (try (have c81b2 : (t728 == t732) = false := by simpa using c81))
               (try (have c81b3 : ¬ (t728 = t732) := by simpa using c81))
               clear c81
               (first | rw [c81b0] | (simp only [i64_w, i32_w]; rw [c81b0]) | skip)
               have H' := Aside0.mk H
               clear H
               go_wp2
               go_meet
               case rel => exact ⟨_, (true), rB, H', ⟨by have := HJ6.out; have := HJ19.out; have := HJ29.out; first | omega | exact Nat.le_refl _⟩, (aB HB)⟩
              ·rw [if_neg c81] at H
               have c81b0 : (t728 != t732) = false := by simpa using c81
               (try (have c81b1 : decide (t728 = t732) = true := by simpa using c81))
               (try (have c81b2 : (t728 == t732) = true := by simpa using c81))
               clear c81
               (first | rw [c81b0] | (simp only [i64_w, i32_w]; rw [c81b0]) | skip)
               replace H := bA H
               obtain ⟨t735, A82, H⟩ := H
               have H' := Aside0.mk H
               clear H
               obtain ⟨Ao83, co83, eo83⟩ := Kd.R_slice HO730.out
               subst eo83
               obtain ⟨Ao84, co84, eo84⟩ := Kd.R_slice HO734.out
               subst eo84
               go_wp2_with (first | (go_at_call 47; (with_reducible refine (laws_vInts.calls kj29 _ _ t727 _ _ t731 t735 _ ?side1 ?side2 ?side3 ?side4 A82.out).mono ?_); (case side1 => repeat (first | exact (Kd.R_reads' HO730.out).2.2 | (with_reducible refine Kd.C_alloc ?_ _) | (with_reducible refine Kd.C_drewN ?_ _) | (with_reducible refine Kd.C_drew ?_))); (case side2 => exact (Kd.R_reads' HO730.out).2.1); (case side3 => repeat (first | exact (Kd.R_reads' HO734.out).2.2 | (with_reducible refine Kd.C_alloc ?_ _) | (with_reducible refine Kd.C_drewN ?_ _) | (with_reducible refine Kd.C_drew ?_))); (case side4 => exact (Kd.R_reads' HO734.out).2.1); rintro e w' ⟨rfl, ⟨nd, rfl⟩⟩))
               go_meet
               case rel => exact ⟨_, (!t735), rB, H', ⟨by have := HJ6.out; have := HJ19.out; have := HJ29.out; first | omega | exact Nat.le_refl _⟩, (aB HB)⟩
             case rest =>
              apply Classical.byContradiction
              intro hn_
              letI h_ : (0 : Nat) = 1 := (hn_ (by
               clear hn_
               clear HC75
               obtain ⟨kq, x152_74, rfl, HA, HJ74, HB⟩ := hcut
               cases kq with
               | zero => exact absurd HA.out (by simp [laws_FnRenamings.j3])
               | succ kj74 =>
                have H := HA.out
                clear HA
                simp only [laws_FnRenamings.j3] at H
                rcases Bool.eq_false_or_eq_true x152_74 with rfl | rfl
                ·replace H := iT rfl H
                 exact absurd (Option.some.inj H) (by rw [hT]; decide)
                ·replace H := iF (by decide) H
                 replace H := Option.bind_eq_some_iff.mp H
                 obtain ⟨⟨t736, t737, t738⟩, A860, H⟩ := H
                 replace H : ((impl_ImproveRenaming.f kj74 t736 t737 t738).bind fun bt745 => ((spec_ImproveRenaming.f kj74 t736 t737 t738).bind fun bt750 => (if (bt745.2.2 != bt750.2.2) = true then (laws_FnRenamings.j4 kj74 l0 t736 t737 t738 bt745.1 bt745.2.1 bt745.2.2 true) else (if bt745.2.1 = bt750.2.1 then ((laws_vInts.f kj74 bt745.1 bt750.1).bind fun t755 => (laws_FnRenamings.j4 kj74 l0 t736 t737 t738 bt745.1 bt745.2.1 bt745.2.2 (!t755))) else (laws_FnRenamings.j4 kj74 l0 t736 t737 t738 bt745.1 bt745.2.1 bt745.2.2 true))))) = some r := H
                 have A86 := Aside0.mk A860
                 clear A860
                 replace H := Option.bind_eq_some_iff.mp H
                 obtain ⟨⟨t745, t746, t747⟩, A870, H⟩ := H
                 replace H : ((spec_ImproveRenaming.f kj74 t736 t737 t738).bind fun bt750 => (if (t747 != bt750.2.2) = true then (laws_FnRenamings.j4 kj74 l0 t736 t737 t738 t745 t746 t747 true) else (if t746 = bt750.2.1 then ((laws_vInts.f kj74 t745 bt750.1).bind fun t755 => (laws_FnRenamings.j4 kj74 l0 t736 t737 t738 t745 t746 t747 (!t755))) else (laws_FnRenamings.j4 kj74 l0 t736 t737 t738 t745 t746 t747 true)))) = some r := H
                 have A87 := Aside0.mk A870
                 clear A870
                 replace H := Option.bind_eq_some_iff.mp H
                 obtain ⟨⟨t750, t751, t752⟩, A880, H⟩ := H
                 replace H : (if (t747 != t752) = true then (laws_FnRenamings.j4 kj74 l0 t736 t737 t738 t745 t746 t747 true) else (if t746 = t751 then ((laws_vInts.f kj74 t745 t750).bind fun t755 => (laws_FnRenamings.j4 kj74 l0 t736 t737 t738 t745 t746 t747 (!t755))) else (laws_FnRenamings.j4 kj74 l0 t736 t737 t738 t745 t746 t747 true))) = some r := H
                 have A88 := Aside0.mk A880
                 clear A880
                 have HC89 := Aside0.mk H
                 clear H
                 go_upto_region 25 with (first | ((with_reducible refine gate_callee (f := 49) rfl ?_); refine goesL_ (some 155) rfl rfl Try.func49 (by kernel_rfl) rfl #[.slice A0 l0.length c0] rfl argsB ?_; (with_reducible refine (spec_DrawImproveRenaming.calls kj74 _ _ l0 t736 t737 t738 _ ?side1 ?side2 A86.out).mono ?_); (case side1 => repeat (first | exact (Kd.C_below HR0.out HB.out) | (with_reducible refine Kd.C_alloc ?_ _) | (with_reducible refine Kd.C_drewN ?_ _) | (with_reducible refine Kd.C_drew ?_))); (case side2 => exact HC0.out); rintro e w90 ⟨v739, v741, v743, rfl, ho0, ho1, ho2, hb⟩; refine ⟨_, rfl, ?_⟩; have HO740 := Aside0.mk (Kd.R_lower ho0 (below_size (bW HB))); have HO742 := Aside0.mk (Kd.R_lower ho1 (below_size (bW HB))); have HO744 := Aside0.mk (Kd.R_lower ho2 (below_size (bW HB))); replace HB := uB HB hb; (try clear hb); (try clear hk); (try clear ho0); (try clear ho1); (try clear ho2); obtain ⟨Ao91, co91, eo91⟩ := Kd.R_slice HO740.out; subst eo91; obtain ⟨Ao92, co92, eo92⟩ := Kd.R_slice HO742.out; subst eo92; obtain ⟨Ao93, co93, eo93⟩ := Kd.R_slice HO744.out; subst eo93) | ((with_reducible refine gate_callee (f := 43) rfl ?_); refine goesL_ (some 163) rfl rfl Try.func43 (by kernel_rfl) rfl #[.slice Ao91 t736.length co91, .slice Ao92 t737.length co92, .slice Ao93 t738.length co93] rfl argsB ?_; (with_reducible refine (impl_ImproveRenaming.calls kj74 _ _ t736 _ _ t737 _ _ t738 t745 t746 t747 _ ?side1 ?side2 ?side3 ?side4 ?side5 ?side6 A87.out).mono ?_); (case side1 => repeat (first | exact (Kd.R_reads' HO740.out).2.2 | (with_reducible refine Kd.C_alloc ?_ _) | (with_reducible refine Kd.C_drewN ?_ _) | (with_reducible refine Kd.C_drew ?_))); (case side2 => exact (Kd.R_reads' HO740.out).2.1); (case side3 => repeat (first | exact (Kd.R_reads' HO742.out).2.2 | (with_reducible refine Kd.C_alloc ?_ _) | (with_reducible refine Kd.C_drewN ?_ _) | (with_reducible refine Kd.C_drew ?_))); (case side4 => exact (Kd.R_reads' HO742.out).2.1); (case side5 => repeat (first | exact (Kd.R_reads' HO744.out).2.2 | (with_reducible refine Kd.C_alloc ?_ _) | (with_reducible refine Kd.C_drewN ?_ _) | (with_reducible refine Kd.C_drew ?_))); (case side6 => exact (Kd.R_reads' HO744.out).2.1); rintro e w94 ⟨v748, rfl, ho0, hb⟩; refine ⟨_, rfl, ?_⟩; have HO749 := Aside0.mk (Kd.R_lower (Kd.R_new' ho0 (Kd.R_lt (upR HO744.out))) (below_size (bW HB))); replace HO740 := uR HO740 hb; replace HO742 := uR HO742 hb; replace HO744 := Aside0.mk (Kd.R_elder' (upR HO744.out) (Kd.R_base ho0) hb); replace HB := uB HB hb; (try clear hb); (try clear hk); (try clear ho0)) | ((with_reducible refine gate_callee (f := 42) rfl ?_); refine goesL_ (some 171) rfl rfl Try.func42 (by kernel_rfl) rfl #[.slice Ao91 t736.length co91, .slice Ao92 t737.length co92, .slice Ao93 t738.length co93] rfl argsB ?_; (with_reducible refine (spec_ImproveRenaming.calls kj74 _ _ t736 _ _ t737 _ _ t738 t750 t751 t752 _ ?side1 ?side2 ?side3 ?side4 ?side5 ?side6 A88.out).mono ?_); (case side1 => repeat (first | exact (Kd.R_reads' HO740.out).2.2 | (with_reducible refine Kd.C_alloc ?_ _) | (with_reducible refine Kd.C_drewN ?_ _) | (with_reducible refine Kd.C_drew ?_))); (case side2 => exact (Kd.R_reads' HO740.out).2.1); (case side3 => repeat (first | exact (Kd.R_reads' HO742.out).2.2 | (with_reducible refine Kd.C_alloc ?_ _) | (with_reducible refine Kd.C_drewN ?_ _) | (with_reducible refine Kd.C_drew ?_))); (case side4 => exact (Kd.R_reads' HO742.out).2.1); (case side5 => repeat (first | exact (Kd.R_reads' HO744.out).2.2 | (with_reducible refine Kd.C_alloc ?_ _) | (with_reducible refine Kd.C_drewN ?_ _) | (with_reducible refine Kd.C_drew ?_))); (case side6 => exact (Kd.R_reads' HO744.out).2.1); rintro e w95 ⟨v753, rfl, ho0, hb⟩; refine ⟨_, rfl, ?_⟩; have HO754 := Aside0.mk (Kd.R_lower (Kd.R_new' (Kd.R_new' ho0 (Kd.R_lt (upR HO744.out))) (Kd.R_lt (upR HO749.out))) (below_size (bW HB))); replace HO740 := uR HO740 hb; replace HO742 := uR HO742 hb; replace HO744 := Aside0.mk (Kd.R_elder' (upR HO744.out) (Kd.R_base ho0) hb); replace HO749 := Aside0.mk (Kd.R_elder' (upR HO749.out) (Kd.R_base ho0) hb); replace HB := uB HB hb; (try clear hb); (try clear hk); (try clear ho0)))
                 (try simp only [Act.put, List.setIfInBounds_toArray, List.set_cons_zero, List.set_cons_succ])
                 go_cut [188] (fun v188 wc => ∃ (kq : Nat) (x188_88 : Bool), v188 = .bool x188_88 ∧ Aside0 (laws_FnRenamings.j4 kq l0 t736 t737 t738 t745 t746 t747 x188_88 = some r) ∧ Aside0 (kq ≤ kj74) ∧ Aside0 (Kd.R k70 70 wc w.heap.size (fun k_ => some k_ ≠ ((.slice Ao92 t737.length co92) : Value).ownBlock) (.slice Ao91 t736.length co91) t736) ∧ Aside0 (Kd.R k70 70 wc w.heap.size (fun k_ => some k_ ≠ ((.slice Ao91 t736.length co91) : Value).ownBlock) (.slice Ao92 t737.length co92) t737) ∧ Aside0 (Kd.R (Kd.int .i64) 3 wc w.heap.size (fun k_ => some k_ ≠ (v748 : Value).ownBlock) (.slice Ao93 t738.length co93) t738) ∧ Aside0 (Kd.R (Kd.int .i64) 3 wc w.heap.size (fun k_ => some k_ ≠ ((.slice Ao93 t738.length co93) : Value).ownBlock) v748 t745) ∧ Aside0 (Below w.heap.size w wc))
                 case first =>
                  have H := HC89.out
                  clear HC89
                  by_cases c96 : (t747 != t752) = true
                  ·rw [if_pos c96] at H
                   have c96b0 : (t747 != t752) = true := c96
                   (try (have c96b1 : decide (t747 = t752) = false := by simpa using c96))
                   (try (have c96b2 : (t747 == t752) = false := by simpa using c96))
                   (try (have c96b3 : ¬ (t747 = t752) := by simpa using c96))
                   clear c96
                   (first | rw [c96b0] | (simp only [i64_w, i32_w]; rw [c96b0]) | skip)
                   have H' := Aside0.mk H
                   clear H
                   go_wp2
                   go_meet
                   case rel => exact ⟨_, (true), rB, H', ⟨by have := HJ6.out; have := HJ19.out; have := HJ29.out; have := HJ74.out; first | omega | exact Nat.le_refl _⟩, ⟨upR HO740.out⟩, ⟨upR HO742.out⟩, ⟨by (with_reducible repeat (first | apply Kd.R_alloc | apply Kd.R_drewN | apply Kd.R_drew)); exact Kd.R_mono HO744.out (fun _ hk => hk.1.2)⟩, ⟨by (with_reducible repeat (first | apply Kd.R_alloc | apply Kd.R_drewN | apply Kd.R_drew)); exact Kd.R_mono HO749.out (fun _ hk => hk.1.2)⟩, (aB HB)⟩
                  ·rw [if_neg c96] at H
                   have c96b0 : (t747 != t752) = false := by simpa using c96
                   (try (have c96b1 : decide (t747 = t752) = true := by simpa using c96))
                   (try (have c96b2 : (t747 == t752) = true := by simpa using c96))
                   clear c96
                   (first | rw [c96b0] | (simp only [i64_w, i32_w]; rw [c96b0]) | skip)
                   replace H := ifI H
                   rcases H with ⟨H, -, c97b0, c97b1⟩ | ⟨H, c97, c97b0, c97b1⟩
                   ·replace H := bA H
                    obtain ⟨t755, A98, H⟩ := H
                    have H' := Aside0.mk H
                    clear H
                    obtain ⟨Ao99, co99, eo99⟩ := Kd.R_slice HO749.out
                    subst eo99
                    obtain ⟨Ao100, co100, eo100⟩ := Kd.R_slice HO754.out
                    subst eo100
                    go_wp2_with (first | (go_at_call 47; (with_reducible refine (laws_vInts.calls kj74 _ _ t745 _ _ t750 t755 _ ?side1 ?side2 ?side3 ?side4 A98.out).mono ?_); (case side1 => repeat (first | exact (Kd.R_reads' HO749.out).2.2 | (with_reducible refine Kd.C_alloc ?_ _) | (with_reducible refine Kd.C_drewN ?_ _) | (with_reducible refine Kd.C_drew ?_))); (case side2 => exact (Kd.R_reads' HO749.out).2.1); (case side3 => repeat (first | exact (Kd.R_reads' HO754.out).2.2 | (with_reducible refine Kd.C_alloc ?_ _) | (with_reducible refine Kd.C_drewN ?_ _) | (with_reducible refine Kd.C_drew ?_))); (case side4 => exact (Kd.R_reads' HO754.out).2.1); rintro e w' ⟨rfl, ⟨nd, rfl⟩⟩))
                    go_meet
                    case rel => exact ⟨_, (!t755), rB, H', ⟨by have := HJ6.out; have := HJ19.out; have := HJ29.out; have := HJ74.out; first | omega | exact Nat.le_refl _⟩, ⟨upR HO740.out⟩, ⟨upR HO742.out⟩, ⟨by (with_reducible repeat (first | apply Kd.R_alloc | apply Kd.R_drewN | apply Kd.R_drew)); exact Kd.R_mono HO744.out (fun _ hk => hk.1.2)⟩, ⟨by (with_reducible repeat (first | apply Kd.R_alloc | apply Kd.R_drewN | apply Kd.R_drew)); exact Kd.R_mono HO749.out (fun _ hk => hk.1.2)⟩, (aB HB)⟩
                   ·have H' := Aside0.mk H
                    clear H
                    go_wp2
                    go_meet
                    case rel => exact ⟨_, (true), rB, H', ⟨by have := HJ6.out; have := HJ19.out; have := HJ29.out; have := HJ74.out; first | omega | exact Nat.le_refl _⟩, ⟨upR HO740.out⟩, ⟨upR HO742.out⟩, ⟨by (with_reducible repeat (first | apply Kd.R_alloc | apply Kd.R_drewN | apply Kd.R_drew)); exact Kd.R_mono HO744.out (fun _ hk => hk.1.2)⟩, ⟨by (with_reducible repeat (first | apply Kd.R_alloc | apply Kd.R_drewN | apply Kd.R_drew)); exact Kd.R_mono HO749.out (fun _ hk => hk.1.2)⟩, (aB HB)⟩
                 case rest =>
                  apply Classical.byContradiction
                  intro hn_
                  letI h_ : (0 : Nat) = 1 := (hn_ (by
                   clear hn_
                   clear HC89
                   obtain ⟨kq, x188_88, rfl, HA, HJ88, HO_23, HO_24, HO_25, HO_26, HB⟩ := hcut
                   cases kq with
                   | zero => exact absurd HA.out (by simp [laws_FnRenamings.j4])
                   | succ kj88 =>
                    have H := HA.out
                    clear HA
                    simp only [laws_FnRenamings.j4] at H
                    rcases Bool.eq_false_or_eq_true x188_88 with rfl | rfl
                    ·replace H := iT rfl H
                     exact absurd (Option.some.inj H) (by rw [hT]; decide)
                    ·replace H := iF (by decide) H
                     rcases Bool.eq_false_or_eq_true t747 with rfl | rfl
                     ·replace H := iT rfl H
                      replace H := Option.bind_eq_some_iff.mp H
                      obtain ⟨⟨t756, t757⟩, A1030, H⟩ := H
                      replace H : ((impl_MatchScore.f kj88 t736 t737 t745).bind fun bt758 => (if t757 = true then (if bt758.2 = true then (if bt758.1 = t746 then (if t756 > t746 then (laws_FnRenamings.j5 kj88 l0 true) else (laws_FnRenamings.j5 kj88 l0 (decide (t746 > (t737.length : Int))))) else (laws_FnRenamings.j5 kj88 l0 true)) else (laws_FnRenamings.j5 kj88 l0 true)) else (laws_FnRenamings.j5 kj88 l0 true))) = some r := H
                      have A103 := Aside0.mk A1030
                      clear A1030
                      replace H := Option.bind_eq_some_iff.mp H
                      obtain ⟨⟨t758, t759⟩, A1040, H⟩ := H
                      replace H : (if t757 = true then (if t759 = true then (if t758 = t746 then (if t756 > t746 then (laws_FnRenamings.j5 kj88 l0 true) else (laws_FnRenamings.j5 kj88 l0 (decide (t746 > (t737.length : Int))))) else (laws_FnRenamings.j5 kj88 l0 true)) else (laws_FnRenamings.j5 kj88 l0 true)) else (laws_FnRenamings.j5 kj88 l0 true)) = some r := H
                      have A104 := Aside0.mk A1040
                      clear A1040
                      have HC105 := Aside0.mk H
                      clear H
                      go_upto_region 30 with (first | ((with_reducible refine gC 41 ?_); refine lA (some 194) Try.func41 (impl_MatchScore.calls kj88 _ _ t736 _ _ t737 _ _ t738 t756 t757 _ ?side1 ?side2 ?side3 ?side4 ?side5 ?side6 A103.out) ?_; (case side1 => repeat (first | exact (Kd.R_reads' HO_23.out).2.2 | (with_reducible refine Kd.C_alloc ?_ _) | (with_reducible refine Kd.C_drewN ?_ _) | (with_reducible refine Kd.C_drew ?_))); (case side2 => exact (Kd.R_reads' HO_23.out).2.1); (case side3 => repeat (first | exact (Kd.R_reads' HO_24.out).2.2 | (with_reducible refine Kd.C_alloc ?_ _) | (with_reducible refine Kd.C_drewN ?_ _) | (with_reducible refine Kd.C_drew ?_))); (case side4 => exact (Kd.R_reads' HO_24.out).2.1); (case side5 => repeat (first | exact (Kd.R_reads' HO_25.out).2.2 | (with_reducible refine Kd.C_alloc ?_ _) | (with_reducible refine Kd.C_drewN ?_ _) | (with_reducible refine Kd.C_drew ?_))); (case side6 => exact (Kd.R_reads' HO_25.out).2.1); intro w106 hb; replace HO_23 := uR HO_23 hb; replace HO_24 := uR HO_24 hb; replace HO_25 := uR HO_25 hb; replace HO_26 := uR HO_26 hb; replace HB := uB HB hb; (try clear hb); (try clear hk); obtain ⟨Ao107, co107, eo107⟩ := Kd.R_slice HO_26.out; subst eo107) | ((with_reducible refine gC 41 ?_); refine lA (some 201) Try.func41 (impl_MatchScore.calls kj88 _ _ t736 _ _ t737 _ _ t745 t758 t759 _ ?side1 ?side2 ?side3 ?side4 ?side5 ?side6 A104.out) ?_; (case side1 => repeat (first | exact (Kd.R_reads' HO_23.out).2.2 | (with_reducible refine Kd.C_alloc ?_ _) | (with_reducible refine Kd.C_drewN ?_ _) | (with_reducible refine Kd.C_drew ?_))); (case side2 => exact (Kd.R_reads' HO_23.out).2.1); (case side3 => repeat (first | exact (Kd.R_reads' HO_24.out).2.2 | (with_reducible refine Kd.C_alloc ?_ _) | (with_reducible refine Kd.C_drewN ?_ _) | (with_reducible refine Kd.C_drew ?_))); (case side4 => exact (Kd.R_reads' HO_24.out).2.1); (case side5 => repeat (first | exact (Kd.R_reads' HO_26.out).2.2 | (with_reducible refine Kd.C_alloc ?_ _) | (with_reducible refine Kd.C_drewN ?_ _) | (with_reducible refine Kd.C_drew ?_))); (case side6 => exact (Kd.R_reads' HO_26.out).2.1); intro w108 hb; replace HO_23 := uR HO_23 hb; replace HO_24 := uR HO_24 hb; replace HO_25 := uR HO_25 hb; replace HO_26 := uR HO_26 hb; replace HB := uB HB hb; (try clear hb); (try clear hk)))
                      (try simp only [Act.put, List.setIfInBounds_toArray, List.set_cons_zero, List.set_cons_succ])
                      go_cut [225] (fun v225 wc => ∃ (kq : Nat) (x225_104 : Bool), v225 = .bool x225_104 ∧ Aside0 (laws_FnRenamings.j5 kq l0 x225_104 = some r) ∧ Aside0 (kq ≤ kj88) ∧ Aside0 (Below w.heap.size w wc))
                      case first =>
                       have H := HC105.out
                       clear HC105
                       rcases Bool.eq_false_or_eq_true t757 with rfl | rfl
                       ·replace H := iT rfl H
                        rcases Bool.eq_false_or_eq_true t759 with rfl | rfl
                        ·replace H := iT rfl H
                         replace H := ifI H
                         rcases H with ⟨H, -, c111b0, c111b1⟩ | ⟨H, c111, c111b0, c111b1⟩
                         ·(first | rw [c111b0] | (simp only [i64_w, i32_w]; rw [c111b0]) | skip)
                          replace H := ifD H
                          rcases H with ⟨H, -, c112b0⟩ | ⟨H, -, c112b0⟩
                          ·have H' := Aside0.mk H
                           clear H
                           go_wp2
                           go_meet
                           case rel => exact ⟨_, (true), rB, H', ⟨by have := HJ6.out; have := HJ19.out; have := HJ29.out; have := HJ74.out; have := HJ88.out; first | omega | exact Nat.le_refl _⟩, (aB HB)⟩
                          ·have H' := Aside0.mk H
                           clear H
                           go_wp2
                           go_meet
                           case rel => exact ⟨_, (decide (t746 > (t737.length : Int))), rB, H', ⟨by have := HJ6.out; have := HJ19.out; have := HJ29.out; have := HJ74.out; have := HJ88.out; first | omega | exact Nat.le_refl _⟩, (aB HB)⟩
                         ·(first | rw [c111b0] | (simp only [i64_w, i32_w]; rw [c111b0]) | skip)
                          have H' := Aside0.mk H
                          clear H
                          go_wp2
                          go_meet
                          case rel => exact ⟨_, (true), rB, H', ⟨by have := HJ6.out; have := HJ19.out; have := HJ29.out; have := HJ74.out; have := HJ88.out; first | omega | exact Nat.le_refl _⟩, (aB HB)⟩
                        ·replace H := iF (by decide) H
                         have H' := Aside0.mk H
                         clear H
                         go_wp2
                         go_meet
                         case rel => exact ⟨_, (true), rB, H', ⟨by have := HJ6.out; have := HJ19.out; have := HJ29.out; have := HJ74.out; have := HJ88.out; first | omega | exact Nat.le_refl _⟩, (aB HB)⟩
                       ·replace H := iF (by decide) H
                        have H' := Aside0.mk H
                        clear H
                        go_wp2
                        go_meet
                        case rel => exact ⟨_, (true), rB, H', ⟨by have := HJ6.out; have := HJ19.out; have := HJ29.out; have := HJ74.out; have := HJ88.out; first | omega | exact Nat.le_refl _⟩, (aB HB)⟩
                      case rest =>
                       apply Classical.byContradiction
                       intro hn_
                       letI h_ : (0 : Nat) = 1 := (hn_ (by
                        clear hn_
                        clear HC105
                        obtain ⟨kq, x225_104, rfl, HA, HJ104, HB⟩ := hcut
                        cases kq with
                        | zero => exact absurd HA.out (by simp [laws_FnRenamings.j5])
                        | succ kj104 =>
                         have H := HA.out
                         clear HA
                         simp only [laws_FnRenamings.j5] at H
                         rcases Bool.eq_false_or_eq_true x225_104 with rfl | rfl
                         ·replace H := iT rfl H
                          exact absurd (Option.some.inj H) (by rw [hT]; decide)
                         ·replace H := iF (by decide) H
                          replace H := Option.bind_eq_some_iff.mp H
                          obtain ⟨⟨t760, t761, t762⟩, A1140, H⟩ := H
                          replace H : ((impl_MatchScore.f kj104 t760 t761 t762).bind fun bt769 => ((spec_MatchScore.f kj104 t760 t761 t762).bind fun bt771 => (if bt769.1 = bt771.1 then (some (bt769.2 == bt771.2)) else (some false)))) = some r := H
                          have A114 := Aside0.mk A1140
                          clear A1140
                          replace H := Option.bind_eq_some_iff.mp H
                          obtain ⟨⟨t769, t770⟩, A1150, H⟩ := H
                          replace H : ((spec_MatchScore.f kj104 t760 t761 t762).bind fun bt771 => (if t769 = bt771.1 then (some (t770 == bt771.2)) else (some false))) = some r := H
                          have A115 := Aside0.mk A1150
                          clear A1150
                          replace H := Option.bind_eq_some_iff.mp H
                          obtain ⟨⟨t771, t772⟩, A1160, H⟩ := H
                          replace H : (if t769 = t771 then (some (t770 == t772)) else (some false)) = some r := H
                          have A116 := Aside0.mk A1160
                          clear A1160
                          replace H := ifI H
                          rcases H with ⟨H, -, c117b0, c117b1⟩ | ⟨H, c117, c117b0, c117b1⟩
                          ·obtain rfl := (Option.some.inj H)
                           go_wp2_with (first | ((with_reducible refine gate_callee (f := 50) rfl ?_); refine goesL_ (some 228) rfl rfl Try.func50 (by kernel_rfl) rfl #[.slice A0 l0.length c0] rfl argsB ?_; (with_reducible refine (spec_DrawMatchScore.calls kj104 _ _ l0 t760 t761 t762 _ ?side1 ?side2 A114.out).mono ?_); (case side1 => repeat (first | exact (Kd.C_below HR0.out HB.out) | (with_reducible refine Kd.C_alloc ?_ _) | (with_reducible refine Kd.C_drewN ?_ _) | (with_reducible refine Kd.C_drew ?_))); (case side2 => exact HC0.out); rintro e w118 ⟨v763, v765, v767, rfl, ho0, ho1, ho2, hb⟩; refine ⟨_, rfl, ?_⟩; have HO764 := Aside0.mk (Kd.R_lower ho0 (below_size (bW HB))); have HO766 := Aside0.mk (Kd.R_lower ho1 (below_size (bW HB))); have HO768 := Aside0.mk (Kd.R_lower ho2 (below_size (bW HB))); replace HB := uB HB hb; (try clear hb); (try clear hk); (try clear ho0); (try clear ho1); (try clear ho2); obtain ⟨Ao119, co119, eo119⟩ := Kd.R_slice HO764.out; subst eo119; obtain ⟨Ao120, co120, eo120⟩ := Kd.R_slice HO766.out; subst eo120; obtain ⟨Ao121, co121, eo121⟩ := Kd.R_slice HO768.out; subst eo121) | ((with_reducible refine gC 41 ?_); refine lA (some 236) Try.func41 (impl_MatchScore.calls kj104 _ _ t760 _ _ t761 _ _ t762 t769 t770 _ ?side1 ?side2 ?side3 ?side4 ?side5 ?side6 A115.out) ?_; (case side1 => repeat (first | exact (Kd.R_reads' HO764.out).2.2 | (with_reducible refine Kd.C_alloc ?_ _) | (with_reducible refine Kd.C_drewN ?_ _) | (with_reducible refine Kd.C_drew ?_))); (case side2 => exact (Kd.R_reads' HO764.out).2.1); (case side3 => repeat (first | exact (Kd.R_reads' HO766.out).2.2 | (with_reducible refine Kd.C_alloc ?_ _) | (with_reducible refine Kd.C_drewN ?_ _) | (with_reducible refine Kd.C_drew ?_))); (case side4 => exact (Kd.R_reads' HO766.out).2.1); (case side5 => repeat (first | exact (Kd.R_reads' HO768.out).2.2 | (with_reducible refine Kd.C_alloc ?_ _) | (with_reducible refine Kd.C_drewN ?_ _) | (with_reducible refine Kd.C_drew ?_))); (case side6 => exact (Kd.R_reads' HO768.out).2.1); intro w122 hb; replace HO764 := uR HO764 hb; replace HO766 := uR HO766 hb; replace HO768 := uR HO768 hb; replace HB := uB HB hb; (try clear hb); (try clear hk)) | ((with_reducible refine gC 40 ?_); refine lA (some 243) Try.func40 (spec_MatchScore.calls kj104 _ _ t760 _ _ t761 _ _ t762 t771 t772 _ ?side1 ?side2 ?side3 ?side4 ?side5 ?side6 A116.out) ?_; (case side1 => repeat (first | exact (Kd.R_reads' HO764.out).2.2 | (with_reducible refine Kd.C_alloc ?_ _) | (with_reducible refine Kd.C_drewN ?_ _) | (with_reducible refine Kd.C_drew ?_))); (case side2 => exact (Kd.R_reads' HO764.out).2.1); (case side3 => repeat (first | exact (Kd.R_reads' HO766.out).2.2 | (with_reducible refine Kd.C_alloc ?_ _) | (with_reducible refine Kd.C_drewN ?_ _) | (with_reducible refine Kd.C_drew ?_))); (case side4 => exact (Kd.R_reads' HO766.out).2.1); (case side5 => repeat (first | exact (Kd.R_reads' HO768.out).2.2 | (with_reducible refine Kd.C_alloc ?_ _) | (with_reducible refine Kd.C_drewN ?_ _) | (with_reducible refine Kd.C_drew ?_))); (case side6 => exact (Kd.R_reads' HO768.out).2.1); intro w123 hb; replace HO764 := uR HO764 hb; replace HO766 := uR HO766 hb; replace HO768 := uR HO768 hb; replace HB := uB HB hb; (try clear hb); (try clear hk)))
                           go_ret
                           exact ⟨eB, (bW HB)⟩
                          ·exact absurd (Option.some.inj H) (by rw [hT]; decide)
                        )).elim
                       omega
                     ·replace H := iF (by decide) H
                      replace H := Option.bind_eq_some_iff.mp H
                      obtain ⟨⟨t773, t774, t775⟩, A1300, H⟩ := H
                      replace H : ((impl_MatchScore.f kj88 t773 t774 t775).bind fun bt782 => ((spec_MatchScore.f kj88 t773 t774 t775).bind fun bt784 => (if bt782.1 = bt784.1 then (some (bt782.2 == bt784.2)) else (some false)))) = some r := H
                      have A130 := Aside0.mk A1300
                      clear A1300
                      replace H := Option.bind_eq_some_iff.mp H
                      obtain ⟨⟨t782, t783⟩, A1310, H⟩ := H
                      replace H : ((spec_MatchScore.f kj88 t773 t774 t775).bind fun bt784 => (if t782 = bt784.1 then (some (t783 == bt784.2)) else (some false))) = some r := H
                      have A131 := Aside0.mk A1310
                      clear A1310
                      replace H := Option.bind_eq_some_iff.mp H
                      obtain ⟨⟨t784, t785⟩, A1320, H⟩ := H
                      replace H : (if t782 = t784 then (some (t783 == t785)) else (some false)) = some r := H
                      have A132 := Aside0.mk A1320
                      clear A1320
                      replace H := ifI H
                      rcases H with ⟨H, -, c133b0, c133b1⟩ | ⟨H, c133, c133b0, c133b1⟩
                      ·obtain rfl := (Option.some.inj H)
                       go_wp2_with (first | ((with_reducible refine gate_callee (f := 50) rfl ?_); refine goesL_ (some 228) rfl rfl Try.func50 (by kernel_rfl) rfl #[.slice A0 l0.length c0] rfl argsB ?_; (with_reducible refine (spec_DrawMatchScore.calls kj88 _ _ l0 t773 t774 t775 _ ?side1 ?side2 A130.out).mono ?_); (case side1 => repeat (first | exact (Kd.C_below HR0.out HB.out) | (with_reducible refine Kd.C_alloc ?_ _) | (with_reducible refine Kd.C_drewN ?_ _) | (with_reducible refine Kd.C_drew ?_))); (case side2 => exact HC0.out); rintro e w134 ⟨v776, v778, v780, rfl, ho0, ho1, ho2, hb⟩; refine ⟨_, rfl, ?_⟩; have HO777 := Aside0.mk (Kd.R_lower (Kd.R_new' (Kd.R_new' ho0 (Kd.R_lt (upR HO_23.out))) (Kd.R_lt (upR HO_24.out))) (below_size (bW HB))); have HO779 := Aside0.mk (Kd.R_lower (Kd.R_new' (Kd.R_new' ho1 (Kd.R_lt (upR HO_23.out))) (Kd.R_lt (upR HO_24.out))) (below_size (bW HB))); have HO781 := Aside0.mk (Kd.R_lower (Kd.R_new' (Kd.R_new' ho2 (Kd.R_lt (upR HO_25.out))) (Kd.R_lt (upR HO_26.out))) (below_size (bW HB))); replace HO_23 := Aside0.mk (Kd.R_mono (Kd.R_told (Kd.R_told (Kd.R_old (upR HO_23.out) hb) (Kd.R_base ho0)) (Kd.R_base ho1)) (fun _ h_ => h_.1)); replace HO_24 := Aside0.mk (Kd.R_mono (Kd.R_told (Kd.R_told (Kd.R_old (upR HO_24.out) hb) (Kd.R_base ho0)) (Kd.R_base ho1)) (fun _ h_ => h_.1)); replace HO_25 := Aside0.mk (Kd.R_elder' (upR HO_25.out) (Kd.R_base ho2) hb); replace HO_26 := Aside0.mk (Kd.R_elder' (upR HO_26.out) (Kd.R_base ho2) hb); replace HB := uB HB hb; (try clear hb); (try clear hk); (try clear ho0); (try clear ho1); (try clear ho2); obtain ⟨Ao135, co135, eo135⟩ := Kd.R_slice HO777.out; subst eo135; obtain ⟨Ao136, co136, eo136⟩ := Kd.R_slice HO779.out; subst eo136; obtain ⟨Ao137, co137, eo137⟩ := Kd.R_slice HO781.out; subst eo137) | ((with_reducible refine gC 41 ?_); refine lA (some 236) Try.func41 (impl_MatchScore.calls kj88 _ _ t773 _ _ t774 _ _ t775 t782 t783 _ ?side1 ?side2 ?side3 ?side4 ?side5 ?side6 A131.out) ?_; (case side1 => repeat (first | exact (Kd.R_reads' HO777.out).2.2 | (with_reducible refine Kd.C_alloc ?_ _) | (with_reducible refine Kd.C_drewN ?_ _) | (with_reducible refine Kd.C_drew ?_))); (case side2 => exact (Kd.R_reads' HO777.out).2.1); (case side3 => repeat (first | exact (Kd.R_reads' HO779.out).2.2 | (with_reducible refine Kd.C_alloc ?_ _) | (with_reducible refine Kd.C_drewN ?_ _) | (with_reducible refine Kd.C_drew ?_))); (case side4 => exact (Kd.R_reads' HO779.out).2.1); (case side5 => repeat (first | exact (Kd.R_reads' HO781.out).2.2 | (with_reducible refine Kd.C_alloc ?_ _) | (with_reducible refine Kd.C_drewN ?_ _) | (with_reducible refine Kd.C_drew ?_))); (case side6 => exact (Kd.R_reads' HO781.out).2.1); intro w138 hb; replace HO_23 := uR HO_23 hb; replace HO_24 := uR HO_24 hb; replace HO_25 := uR HO_25 hb; replace HO_26 := uR HO_26 hb; replace HO777 := uR HO777 hb; replace HO779 := uR HO779 hb; replace HO781 := uR HO781 hb; replace HB := uB HB hb; (try clear hb); (try clear hk)) | ((with_reducible refine gC 40 ?_); refine lA (some 243) Try.func40 (spec_MatchScore.calls kj88 _ _ t773 _ _ t774 _ _ t775 t784 t785 _ ?side1 ?side2 ?side3 ?side4 ?side5 ?side6 A132.out) ?_; (case side1 => repeat (first | exact (Kd.R_reads' HO777.out).2.2 | (with_reducible refine Kd.C_alloc ?_ _) | (with_reducible refine Kd.C_drewN ?_ _) | (with_reducible refine Kd.C_drew ?_))); (case side2 => exact (Kd.R_reads' HO777.out).2.1); (case side3 => repeat (first | exact (Kd.R_reads' HO779.out).2.2 | (with_reducible refine Kd.C_alloc ?_ _) | (with_reducible refine Kd.C_drewN ?_ _) | (with_reducible refine Kd.C_drew ?_))); (case side4 => exact (Kd.R_reads' HO779.out).2.1); (case side5 => repeat (first | exact (Kd.R_reads' HO781.out).2.2 | (with_reducible refine Kd.C_alloc ?_ _) | (with_reducible refine Kd.C_drewN ?_ _) | (with_reducible refine Kd.C_drew ?_))); (case side6 => exact (Kd.R_reads' HO781.out).2.1); intro w139 hb; replace HO_23 := uR HO_23 hb; replace HO_24 := uR HO_24 hb; replace HO_25 := uR HO_25 hb; replace HO_26 := uR HO_26 hb; replace HO777 := uR HO777 hb; replace HO779 := uR HO779 hb; replace HO781 := uR HO781 hb; replace HB := uB HB hb; (try clear hb); (try clear hk)))
                       go_ret
                       exact ⟨eB, (bW HB)⟩
                      ·exact absurd (Option.some.inj H) (by rw [hT]; decide)
                   )).elim
                  omega
               )).elim
              omega
            )).elim
           omega
        )).elim
       omega
    )).elim
   omega
/-- THE ONE PURE STATEMENT of laws_FnRenamings: yours. -/

def laws_FnRenamings.Pure : Prop := ∀ (l0 : List Int), l0.length ≤ maxLen → l0.length * 1 ≤ 140737488351232 → (∀ x ∈ l0, (Lit.int .u8 x).wf = true) → ∃ k, laws_FnRenamings.f k l0 = some true
theorem laws_FnRenamings.walk (P : laws_FnRenamings.Pure) (a0 : Option Addr) (len0 cap0 : Nat) (z0 : List Int) (w : World) (w0 : (a0 = none ∧ len0 = 0 ∧ cap0 = 0 ∧ z0 = []) ∨ ∃ x, a0 = some x ∧ len0 ≤ cap0 ∧ cap0 ≤ maxLen ∧ z0.length = cap0 ∧ (∀ i, i < z0.length → w.cell? (x.add i) = some (.int .u8 (z0.getD i 0))) ∧ ∀ n ∈ z0, (Lit.int .u8 n).wf = true) (y0 : len0 * 1 ≤ 140737488351232) :
  Calls Try.prog 12 #[.slice a0 len0 cap0] w fun e w' => e = .returned (.bool true) ∧ Below w.heap.size w w' := by
 obtain ⟨l0, rfl, hr0, hm0, hw0, hc0⟩ := ReadsInt.ofRowC w0
 obtain ⟨k, h⟩ := P l0 hm0 y0 hw0
 refine (laws_FnRenamings.calls k _ _ l0 true w (Kd.C_of_reads (d := (0 : Int)) (h1 := fun _ => rfl) hr0) hc0 h rfl).mono ?_
 rintro e w' ⟨rfl, hd⟩
 exact ⟨rfl, hd⟩

end Go.Proofs.Ytfaojmabalplfaa.QFnRenamings
