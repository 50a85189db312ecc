/- Contracts of Go functions that FnLeads reaches: the call computes what the plain function says. No condition. -/
import Derived.Test.YtldgjibimolcdaaDoorQFnLeadsx0
import Derived.Test.YtldgjibimolcdaaDoorQFnLeadsx1
import Derived.Test.YtldgjibimolcdaaDoorQFnLeadsx3
import Derived.Test.YtldgjibimolcdaaDoorQFnLeadsx4
import Derived.Test.YtldgjibimolcdaaDoorQFnLeadsx6
import Derived.Test.YtldgjibimolcdaaDoorQFnLeadsx8
import Derived.Test.YtldgjibimolcdaaDoorQFnLeadsx9
import Derived.Test.YtldgjibimolcdaaDoorQFnLeadsx10
import Derived.Test.YtldgjibimolcdaaDoorQFnLeadsx11
import Derived.Test.YtldgjibimolcdaaDoorQFnLeadsx12
import Derived.Test.YtldgjibimolcdaaDoorQFnLeadsx14
namespace Go.Proofs.YtldgjibimolcdaaDoor.QFnLeads
open Go.RowKit Go.Proofs.YtldgjibimolcdaaDoorW.PrintWords Go.Proofs.YtldgjibimolcdaaDoorW.PrintLast Go.Proofs.YtldgjibimolcdaaDoorW.PrintMore
attribute [local go_sem] max2_int min2_int max_two min_two max_three min_three max_four min_four   -- for this text's walks alone
set_option linter.unusedVariables false
set_option linter.unusedSimpArgs false

attribute [local go_sem high] eqA26
/-! ### laws_FnLeads: function 5 -/
mutual
def laws_FnLeads.j0 : Nat → List Int → ByteArray → Bool → Bool → Int → Int → Int → Int → Int → Option (Bool)
 | 0, _, _, _, _, _, _, _, _, _ => none
 | k + 1, x0, x4, x5, x56, x426000, x426001, x426002, x426003, x426004 => if x56 = true then (some false) else ((impl_ParseLead.f k x4).bind fun bt431 => (if x5 = true then (if bt431.2.2.2.2.2 = true then (laws_FnLeads.j1 k x0 (!(bt431.1 == x426000) || (!(bt431.2.1 == x426001) || (!(bt431.2.2.1 == x426002) || (!(bt431.2.2.2.1 == x426003) || (!(bt431.2.2.2.2.1 == x426004))))))) else (laws_FnLeads.j1 k x0 true)) else (laws_FnLeads.j1 k x0 false)))
def laws_FnLeads.j1 : Nat → List Int → Bool → Option (Bool)
 | 0, _, _ => none
 | k + 1, x0, x71 => if x71 = true then (some false) else ((spec_DrawParseLead.f k x0).bind fun t438 => ((impl_ParseLead.f k t438).bind fun bt439 => ((spec_ParseLead.f k t438).bind fun bt446 => (if (!(bt439.1 == bt446.1) || (!(bt439.2.1 == bt446.2.1) || (!(bt439.2.2.1 == bt446.2.2.1) || (!(bt439.2.2.2.1 == bt446.2.2.2.1) || (!(bt439.2.2.2.2.1 == bt446.2.2.2.2.1)))))) = true then (laws_FnLeads.j2 k x0 true) else (laws_FnLeads.j2 k x0 (bt439.2.2.2.2.2 != bt446.2.2.2.2.2))))))
def laws_FnLeads.j2 : Nat → List Int → Bool → Option (Bool)
 | 0, _, _ => none
 | k + 1, x0, x91 => if x91 = true then (some false) else ((spec_DrawLeadsAt.f k x0).bind fun bt453 => ((impl_LeadsAt.f k bt453.1 bt453.2).bind fun bt457 => ((spec_LeadsAt.f k bt453.1 bt453.2).bind fun bt461 => (if (bt457.2 != bt461.2) = true then (laws_FnLeads.j3 k bt453.1 true) else ((laws_rInts.f k bt457.1 bt461.1).bind fun t465 => (laws_FnLeads.j3 k bt453.1 (!t465)))))))
def laws_FnLeads.j3 : Nat → List (S26) → Bool → Option (Bool)
 | 0, _, _ => none
 | k + 1, x15, x117 => if x117 = true then (some false) else ((impl_StatesOf.f k x15).bind fun bt466 => ((spec_StatesOf.f k x15).bind fun bt470 => (if (bt466.2 != bt470.2) = true then (laws_FnLeads.j4 k x15 bt466.1 bt466.2 true) else ((laws_rInts.f k bt466.1 bt470.1).bind fun t474 => (if t474 = true then ((impl_AreLeads.f k x15).bind fun t475 => (laws_FnLeads.j4 k x15 bt466.1 bt466.2 (bt466.2 != t475))) else (laws_FnLeads.j4 k x15 bt466.1 bt466.2 true))))))
def laws_FnLeads.j4 : Nat → List (S26) → List Int → Bool → Bool → Option (Bool)
 | 0, _, _, _, _ => none
 | k + 1, x15, x21, x22, x142 => if x142 = true then (some false) else (if x22 = true then (laws_FnLeads.l0 k x15 x21 0 0) else (some true))
def laws_FnLeads.l0 : Nat → List (S26) → List Int → Int → Int → Option (Bool)
 | 0, _, _, _, _ => none
 | k + 1, x15, x21, x25, x26 => if x26 < 8 then ((impl_LeadsAt.f k x15 x26).bind fun bt476 => (if bt476.2 = true then (laws_FnLeads.l0 k x15 x21 (wrap64 (x25 + (bt476.1.length : Int))) (wrap64 (x26 + 1))) else (some false))) else (if x25 = (x15.length : Int) then ((laws_rSum.f k x21).bind fun t480 => (some (t480 == x25))) else (some false))
end
def laws_FnLeads.f (k : Nat) (l0 : List Int) : Option (Bool) := (laws_rBig.f l0).bind fun t419 => (if t419 = true then (some true) else ((spec_DrawLeadText.f l0).bind fun bt420 => ((impl_LeadText.f bt420.1 bt420.2.1 bt420.2.2.1 bt420.2.2.2.1 bt420.2.2.2.2).bind fun bt426 => ((spec_LeadText.f k bt420.1 bt420.2.1 bt420.2.2.1 bt420.2.2.2.1 bt420.2.2.2.2).bind fun bt428 => (if bt426.1.toList = bt428.1.toList then (if (bt426.2 != bt428.2) = true then (laws_FnLeads.j0 k l0 bt426.1 bt426.2 true bt420.1 bt420.2.1 bt420.2.2.1 bt420.2.2.2.1 bt420.2.2.2.2) else ((impl_IsLead.f bt420.1 bt420.2.1 bt420.2.2.1 bt420.2.2.2.1 bt420.2.2.2.2).bind fun t430 => (laws_FnLeads.j0 k l0 bt426.1 bt426.2 (bt426.2 != t430) bt420.1 bt420.2.1 bt420.2.2.1 bt420.2.2.2.1 bt420.2.2.2.2))) else (laws_FnLeads.j0 k l0 bt426.1 bt426.2 true bt420.1 bt420.2.1 bt420.2.2.1 bt420.2.2.2.1 bt420.2.2.2.2))))))
theorem laws_FnLeads.mono_l : ∀ k, (∀ y0 y1 y2 y3 y4 y5 y6 y7 y8, LeO (laws_FnLeads.j0 k y0 y1 y2 y3 y4 y5 y6 y7 y8) (laws_FnLeads.j0 (k + 1) y0 y1 y2 y3 y4 y5 y6 y7 y8)) ∧ (∀ y0 y1, LeO (laws_FnLeads.j1 k y0 y1) (laws_FnLeads.j1 (k + 1) y0 y1)) ∧ (∀ y0 y1, LeO (laws_FnLeads.j2 k y0 y1) (laws_FnLeads.j2 (k + 1) y0 y1)) ∧ (∀ y0 y1, LeO (laws_FnLeads.j3 k y0 y1) (laws_FnLeads.j3 (k + 1) y0 y1)) ∧ (∀ y0 y1 y2 y3, LeO (laws_FnLeads.j4 k y0 y1 y2 y3) (laws_FnLeads.j4 (k + 1) y0 y1 y2 y3)) ∧ (∀ y0 y1 y2 y3, LeO (laws_FnLeads.l0 k y0 y1 y2 y3) (laws_FnLeads.l0 (k + 1) y0 y1 y2 y3))
 | 0 => ⟨fun _ _ _ _ _ _ _ _ _ r h => by simp [laws_FnLeads.j0] at h, fun _ _ r h => by simp [laws_FnLeads.j1] at h, fun _ _ r h => by simp [laws_FnLeads.j2] at h, fun _ _ r h => by simp [laws_FnLeads.j3] at h, fun _ _ _ _ r h => by simp [laws_FnLeads.j4] at h, fun _ _ _ _ r h => by simp [laws_FnLeads.l0] at h⟩
 | k + 1 => by
  obtain ⟨ih0, ih1, ih2, ih3, ih4, ih5⟩ := laws_FnLeads.mono_l k
  refine ⟨?_, ?_, ?_, ?_, ?_, ?_⟩
  ·intro y0 y1 y2 y3 y4 y5 y6 y7 y8
   unfold laws_FnLeads.j0
   repeat' with_reducible first | apply ih0 | apply ih1 | apply ih2 | apply ih3 | apply ih4 | apply ih5 | apply impl_AreLeads.mono | apply impl_LeadsAt.mono | apply impl_ParseLead.mono | apply impl_StatesOf.mono | apply laws_rInts.mono | apply laws_rSum.mono | apply spec_DrawLeadsAt.mono | apply spec_DrawParseLead.mono | apply spec_LeadText.mono | apply spec_LeadsAt.mono | apply spec_ParseLead.mono | apply spec_StatesOf.mono | exact LeO.refl _ | exact LeO.none _ | refine LeO.ite ?_ ?_ | refine LeO.bind ?_ (fun _ => ?_)
  ·intro y0 y1
   unfold laws_FnLeads.j1
   repeat' with_reducible first | apply ih0 | apply ih1 | apply ih2 | apply ih3 | apply ih4 | apply ih5 | apply impl_AreLeads.mono | apply impl_LeadsAt.mono | apply impl_ParseLead.mono | apply impl_StatesOf.mono | apply laws_rInts.mono | apply laws_rSum.mono | apply spec_DrawLeadsAt.mono | apply spec_DrawParseLead.mono | apply spec_LeadText.mono | apply spec_LeadsAt.mono | apply spec_ParseLead.mono | apply spec_StatesOf.mono | exact LeO.refl _ | exact LeO.none _ | refine LeO.ite ?_ ?_ | refine LeO.bind ?_ (fun _ => ?_)
  ·intro y0 y1
   unfold laws_FnLeads.j2
   repeat' with_reducible first | apply ih0 | apply ih1 | apply ih2 | apply ih3 | apply ih4 | apply ih5 | apply impl_AreLeads.mono | apply impl_LeadsAt.mono | apply impl_ParseLead.mono | apply impl_StatesOf.mono | apply laws_rInts.mono | apply laws_rSum.mono | apply spec_DrawLeadsAt.mono | apply spec_DrawParseLead.mono | apply spec_LeadText.mono | apply spec_LeadsAt.mono | apply spec_ParseLead.mono | apply spec_StatesOf.mono | exact LeO.refl _ | exact LeO.none _ | refine LeO.ite ?_ ?_ | refine LeO.bind ?_ (fun _ => ?_)
  ·intro y0 y1
   unfold laws_FnLeads.j3
   repeat' with_reducible first | apply ih0 | apply ih1 | apply ih2 | apply ih3 | apply ih4 | apply ih5 | apply impl_AreLeads.mono | apply impl_LeadsAt.mono | apply impl_ParseLead.mono | apply impl_StatesOf.mono | apply laws_rInts.mono | apply laws_rSum.mono | apply spec_DrawLeadsAt.mono | apply spec_DrawParseLead.mono | apply spec_LeadText.mono | apply spec_LeadsAt.mono | apply spec_ParseLead.mono | apply spec_StatesOf.mono | exact LeO.refl _ | exact LeO.none _ | refine LeO.ite ?_ ?_ | refine LeO.bind ?_ (fun _ => ?_)
  ·intro y0 y1 y2 y3
   unfold laws_FnLeads.j4
   repeat' with_reducible first | apply ih0 | apply ih1 | apply ih2 | apply ih3 | apply ih4 | apply ih5 | apply impl_AreLeads.mono | apply impl_LeadsAt.mono | apply impl_ParseLead.mono | apply impl_StatesOf.mono | apply laws_rInts.mono | apply laws_rSum.mono | apply spec_DrawLeadsAt.mono | apply spec_DrawParseLead.mono | apply spec_LeadText.mono | apply spec_LeadsAt.mono | apply spec_ParseLead.mono | apply spec_StatesOf.mono | exact LeO.refl _ | exact LeO.none _ | refine LeO.ite ?_ ?_ | refine LeO.bind ?_ (fun _ => ?_)
  ·intro y0 y1 y2 y3
   unfold laws_FnLeads.l0
   repeat' with_reducible first | apply ih0 | apply ih1 | apply ih2 | apply ih3 | apply ih4 | apply ih5 | apply impl_AreLeads.mono | apply impl_LeadsAt.mono | apply impl_ParseLead.mono | apply impl_StatesOf.mono | apply laws_rInts.mono | apply laws_rSum.mono | apply spec_DrawLeadsAt.mono | apply spec_DrawParseLead.mono | apply spec_LeadText.mono | apply spec_LeadsAt.mono | apply spec_ParseLead.mono | apply spec_StatesOf.mono | exact LeO.refl _ | exact LeO.none _ | refine LeO.ite ?_ ?_ | refine LeO.bind ?_ (fun _ => ?_)
theorem laws_FnLeads.mono : ∀ a0 k, LeO (laws_FnLeads.f k a0) (laws_FnLeads.f (k + 1) a0) := by
 intro a0 k
 obtain ⟨ih0, ih1, ih2, ih3, ih4, ih5⟩ := laws_FnLeads.mono_l k
 unfold laws_FnLeads.f
 repeat' with_reducible first | apply ih0 | apply ih1 | apply ih2 | apply ih3 | apply ih4 | apply ih5 | apply impl_AreLeads.mono | apply impl_LeadsAt.mono | apply impl_ParseLead.mono | apply impl_StatesOf.mono | apply laws_rInts.mono | apply laws_rSum.mono | apply spec_DrawLeadsAt.mono | apply spec_DrawParseLead.mono | apply spec_LeadText.mono | apply spec_LeadsAt.mono | apply spec_ParseLead.mono | apply spec_StatesOf.mono | exact LeO.refl _ | exact LeO.none _ | refine LeO.ite ?_ ?_ | refine LeO.bind ?_ (fun _ => ?_)
set_option maxHeartbeats 8000000 in
set_option maxRecDepth 100000 in
theorem laws_FnLeads.calls (k : Nat) (A0 : Option Addr) (c0 : Nat) (l0 : List Int) (r : Bool) (w : World) (hr0 : Kd.C (Kd.int .u8) w A0 l0.length l0) (hc0 : l0.length ≤ c0) (h : laws_FnLeads.f k l0 = some r) (hT : r = true) (hTW : TabW w) :
  Calls Tryd.prog 5 #[.slice A0 l0.length c0] w fun e w' => e = .returned (.bool r) ∧ Below w.heap.size w w' := by
 have hu26 := Tryd.underlying26
 have HR0 := Aside0.mk hr0
 have HC0 := Aside0.mk hc0
 clear hr0 hc0
 have HB := Aside0.mk (Below.refl w.heap.size w)
 have H := h
 clear h
 unfold laws_FnLeads.f at H
 replace H := bA H
 obtain ⟨t419, A2, H⟩ := H
 rcases Bool.eq_false_or_eq_true t419 with rfl | rfl
 ·replace H := iT rfl H
  obtain rfl := (Option.some.inj H)
  go_enter Tryd.func5, Tryd.ntmps5
  go_wp2_with (first | ((with_reducible refine gC 12 ?_); refine lA (some 30) Tryd.func12 (laws_rBig.calls _ _ l0 true _ ?side1 ?side2 A2.out) ?_; (case side1 => repeat (first | exact HR0.out | (with_reducible refine Kd.C_alloc ?_ _) | (with_reducible refine Kd.C_drewN ?_ _) | (with_reducible refine Kd.C_drew ?_))); (case side2 => exact HC0.out); rintro _ ⟨nd, rfl⟩))
  go_ret
  exact ⟨eB, (bW HB)⟩
 ·replace H := iF (by decide) H
  replace H := Option.bind_eq_some_iff.mp H
  obtain ⟨⟨t420, t421, t422, t423, t424⟩, A40, H⟩ := H
  replace H : ((impl_LeadText.f t420 t421 t422 t423 t424).bind fun bt426 => ((spec_LeadText.f k t420 t421 t422 t423 t424).bind fun bt428 => (if bt426.1.toList = bt428.1.toList then (if (bt426.2 != bt428.2) = true then (laws_FnLeads.j0 k l0 bt426.1 bt426.2 true t420 t421 t422 t423 t424) else ((impl_IsLead.f t420 t421 t422 t423 t424).bind fun t430 => (laws_FnLeads.j0 k l0 bt426.1 bt426.2 (bt426.2 != t430) t420 t421 t422 t423 t424))) else (laws_FnLeads.j0 k l0 bt426.1 bt426.2 true t420 t421 t422 t423 t424)))) = some r := H
  have A4 := Aside0.mk A40
  clear A40
  replace H := Option.bind_eq_some_iff.mp H
  obtain ⟨⟨t426, t427⟩, A50, H⟩ := H
  replace H : ((spec_LeadText.f k t420 t421 t422 t423 t424).bind fun bt428 => (if t426.toList = bt428.1.toList then (if (t427 != bt428.2) = true then (laws_FnLeads.j0 k l0 t426 t427 true t420 t421 t422 t423 t424) else ((impl_IsLead.f t420 t421 t422 t423 t424).bind fun t430 => (laws_FnLeads.j0 k l0 t426 t427 (t427 != t430) t420 t421 t422 t423 t424))) else (laws_FnLeads.j0 k l0 t426 t427 true t420 t421 t422 t423 t424))) = some r := H
  have A5 := Aside0.mk A50
  clear A50
  replace H := Option.bind_eq_some_iff.mp H
  obtain ⟨⟨t428, t429⟩, A60, H⟩ := H
  replace H : (if t426.toList = t428.toList then (if (t427 != t429) = true then (laws_FnLeads.j0 k l0 t426 t427 true t420 t421 t422 t423 t424) else ((impl_IsLead.f t420 t421 t422 t423 t424).bind fun t430 => (laws_FnLeads.j0 k l0 t426 t427 (t427 != t430) t420 t421 t422 t423 t424))) else (laws_FnLeads.j0 k l0 t426 t427 true t420 t421 t422 t423 t424)) = some r := H
  have A6 := Aside0.mk A60
  clear A60
  have HC7 := Aside0.mk H
  clear H
  go_enter Tryd.func5, Tryd.ntmps5
  go_upto_region 6 with (first | ((with_reducible refine gC 12 ?_); refine lA (some 30) Tryd.func12 (laws_rBig.calls _ _ l0 false _ ?side1 ?side2 A2.out) ?_; (case side1 => repeat (first | exact HR0.out | (with_reducible refine Kd.C_alloc ?_ _) | (with_reducible refine Kd.C_drewN ?_ _) | (with_reducible refine Kd.C_drew ?_))); (case side2 => exact HC0.out); rintro _ ⟨nd, rfl⟩) | ((with_reducible refine gC 13 ?_); refine lA (some 32) Tryd.func13 (spec_DrawLeadText.calls _ _ l0 t420 t421 t422 t423 t424 _ ?side1 ?side2 A4.out) ?_; (case side1 => repeat (first | exact HR0.out | (with_reducible refine Kd.C_alloc ?_ _) | (with_reducible refine Kd.C_drewN ?_ _) | (with_reducible refine Kd.C_drew ?_))); (case side2 => exact HC0.out); intro w8 hb; replace HB := uB HB hb; (try clear hb); (try clear hk)) | ((with_reducible refine gD 3 ?_); refine bxE 3 26 #[.int .i64 0, .int .i64 0, .int .i64 0, .int .i64 0, .int .i64 0] fun gb425 w9 hg hbox hb => ?_; have BK425 := Aside0.mk hbox; have GE425 := gB HB hg; replace HB := uB HB hb; clear hb hbox hg; have ⟨hcz10_0, hcz10_1, hcz10_2, hcz10_3, hcz10_4, hfz10_0⟩ := cz5 BK425) | ((with_reducible refine gC 8 ?_); refine lA (some 35) Tryd.func8 (impl_LeadText.calls t420 t421 t422 t423 t424 t426 t427 _ A5.out (TabW.up2 hTW HB.out)) ?_; intro w11 hb; replace BK425 := uQ BK425 hb #[.int .i64 t420, .int .i64 t421, .int .i64 t422, .int .i64 t423, .int .i64 t424]; replace HB := uB HB hb; (try clear hb); (try clear hk); have ⟨hcz12_0, hcz12_1, hcz12_2, hcz12_3, hcz12_4, hfz12_0⟩ := cz5 BK425) | ((with_reducible refine gC 6 ?_); refine lA (some 40) Tryd.func6 (spec_LeadText.calls k t420 t421 t422 t423 t424 t428 t429 _ A6.out) ?_; intro w13 hb; replace BK425 := uK BK425 hb; replace HB := uB HB hb; (try clear hb); (try clear hk)))
  (try simp only [Act.put, List.setIfInBounds_toArray, List.set_cons_zero, List.set_cons_succ])
  go_cut [56] (fun v56 wc => ∃ (kq : Nat) (x56_6 : Bool), v56 = .bool x56_6 ∧ Aside0 (laws_FnLeads.j0 kq l0 t426 t427 x56_6 t420 t421 t422 t423 t424 = some r) ∧ Aside0 (kq ≤ k) ∧ Aside0 (wc.heap[gb425]? = some (.cells #[.int .i64 t420, .int .i64 t421, .int .i64 t422, .int .i64 t423, .int .i64 t424] 26 (0, 0))) ∧ Aside0 (Below w.heap.size w wc))
  case first =>
   have H := HC7.out
   clear HC7
   replace H := ifI H
   rcases H with ⟨H, -, c14b0, c14b1⟩ | ⟨H, c14, c14b0, c14b1⟩
   ·(first | rw [c14b0] | (simp only [i64_w, i32_w]; rw [c14b0]) | skip)
    by_cases c15 : (t427 != t429) = true
    ·rw [if_pos c15] at H
     have c15b0 : (t427 != t429) = true := c15
     (try (have c15b1 : decide (t427 = t429) = false := by simpa using c15))
     (try (have c15b2 : (t427 == t429) = false := by simpa using c15))
     (try (have c15b3 : ¬ (t427 = t429) := by simpa using c15))
     clear c15
     have H' := Aside0.mk H
     clear H
     go_wp2
     go_meet
     case rel => exact ⟨_, (true), rB, H', leB, (aK BK425), (aB HB)⟩
    ·rw [if_neg c15] at H
     have c15b0 : (t427 != t429) = false := by simpa using c15
     (try (have c15b1 : decide (t427 = t429) = true := by simpa using c15))
     (try (have c15b2 : (t427 == t429) = true := by simpa using c15))
     clear c15
     replace H := bA H
     obtain ⟨t430, A16, H⟩ := H
     have H' := Aside0.mk H
     clear H
     have ⟨hcz17_0, hcz17_1, hcz17_2, hcz17_3, hcz17_4, hfz17_0⟩ := cz5 BK425
     go_wp2_with (first | (go_at_call 14; (with_reducible refine (impl_IsLead.calls t420 t421 t422 t423 t424 t430 _ A16.out).mono ?_); rintro e w18 ⟨rfl, hb⟩; replace BK425 := uK BK425 hb; replace HB := uB HB hb; (try clear hb); (try clear hk)))
     go_meet
     case rel => exact ⟨_, ((t427 != t430)), rB, H', leB, (aK BK425), (aB HB)⟩
   ·(first | rw [c14b0] | (simp only [i64_w, i32_w]; rw [c14b0]) | skip)
    have H' := Aside0.mk H
    clear H
    go_wp2
    go_meet
    case rel => exact ⟨_, (true), rB, H', leB, (aK BK425), (aB HB)⟩
  case rest =>
   clear HC7
   try clear hcz10_0
   try clear hcz10_1
   try clear hcz10_2
   try clear hcz10_3
   try clear hcz10_4
   try clear hcz12_0
   try clear hcz12_1
   try clear hcz12_2
   try clear hcz12_3
   try clear hcz12_4
   try clear hfz10_0
   try clear hfz12_0
   obtain ⟨kq, x56_6, rfl, HA, HJ6, BK425, HB⟩ := hcut
   cases kq with
   | zero => exact absurd HA.out (by simp [laws_FnLeads.j0])
   | succ kj6 =>
    have H := HA.out
    clear HA
    simp only [laws_FnLeads.j0] at H
    rcases Bool.eq_false_or_eq_true x56_6 with rfl | rfl
    ·replace H := iT rfl H
     exact absurd (Option.some.inj H) (by rw [hT]; decide)
    ·replace H := iF (by decide) H
     replace H := Option.bind_eq_some_iff.mp H
     obtain ⟨⟨t431, t432, t433, t434, t435, t436⟩, A200, H⟩ := H
     replace H : (if t427 = true then (if t436 = true then (laws_FnLeads.j1 kj6 l0 (!(t431 == t420) || (!(t432 == t421) || (!(t433 == t422) || (!(t434 == t423) || (!(t435 == t424))))))) else (laws_FnLeads.j1 kj6 l0 true)) else (laws_FnLeads.j1 kj6 l0 false)) = some r := H
     have A20 := Aside0.mk A200
     clear A200
     have HC21 := Aside0.mk H
     clear H
     go_upto_region 9 with (first | ((with_reducible refine gC 10 ?_); refine lA (some 59) Tryd.func10 (impl_ParseLead.calls kj6 t426 t431 t432 t433 t434 t435 t436 _ A20.out (TabW.up2 hTW HB.out)) ?_; intro w22 hb; replace BK425 := uK BK425 hb; replace HB := uB HB hb; (try clear hb); (try clear hk)) | ((with_reducible refine gD 8 ?_); refine bxE 8 26 #[.int .i64 0, .int .i64 0, .int .i64 0, .int .i64 0, .int .i64 0] fun gb437 w23 hg hbox hb => ?_; have BK437 := Aside0.mk hbox; have GE437 := gB HB hg; have ⟨NB425_437, NB437_425⟩ := nB BK425 hg; replace BK425 := uK BK425 hb; replace HB := uB HB hb; clear hb hbox hg; have hnb24 := NB437_425.out; have hnc24 := NB425_437.out; have ⟨hcz25_0, hcz25_1, hcz25_2, hcz25_3, hcz25_4, hfz25_0⟩ := cz5 BK437))
     (try simp only [Act.put, List.setIfInBounds_toArray, List.set_cons_zero, List.set_cons_succ])
     go_cut [71] (fun v71 wc => ∃ (kq : Nat) (x71_20 : Bool), v71 = .bool x71_20 ∧ Aside0 (laws_FnLeads.j1 kq l0 x71_20 = some r) ∧ Aside0 (kq ≤ kj6) ∧ Aside0 (wc.heap[gb425]? = some (.cells #[.int .i64 t420, .int .i64 t421, .int .i64 t422, .int .i64 t423, .int .i64 t424] 26 (0, 0))) ∧ Aside0 (wc.heap[gb437]? = some (.cells #[.int .i64 t431, .int .i64 t432, .int .i64 t433, .int .i64 t434, .int .i64 t435] 26 (0, 0))) ∧ Aside0 (Below w.heap.size w wc))
     case first =>
      have H := HC21.out
      clear HC21
      rcases Bool.eq_false_or_eq_true t427 with rfl | rfl
      ·replace H := iT rfl H
       rcases Bool.eq_false_or_eq_true t436 with rfl | rfl
       ·replace H := iT rfl H
        have H' := Aside0.mk H
        clear H
        have hnb28 := NB437_425.out
        have hnc28 := NB425_437.out
        have ⟨hcz29_0, hcz29_1, hcz29_2, hcz29_3, hcz29_4, hfz29_0⟩ := cz5 BK437
        have ⟨hcz30_0, hcz30_1, hcz30_2, hcz30_3, hcz30_4, hfz30_0⟩ := cz5 BK425
        go_wp2
        go_meet
        case rel => exact ⟨_, ((!(t431 == t420) || (!(t432 == t421) || (!(t433 == t422) || (!(t434 == t423) || (!(t435 == t424))))))), rB, H', ⟨by have := HJ6.out; first | omega | exact Nat.le_refl _⟩, ⟨by exact pW BK425⟩, ⟨by exact pW BK437⟩, (aB HB)⟩
       ·replace H := iF (by decide) H
        have H' := Aside0.mk H
        clear H
        go_wp2
        go_meet
        case rel => exact ⟨_, (true), rB, H', ⟨by have := HJ6.out; first | omega | exact Nat.le_refl _⟩, ⟨by exact pW BK425⟩, ⟨by exact pW BK437⟩, (aB HB)⟩
      ·replace H := iF (by decide) H
       have H' := Aside0.mk H
       clear H
       go_wp2
       go_meet
       case rel => exact ⟨_, (false), rB, H', ⟨by have := HJ6.out; first | omega | exact Nat.le_refl _⟩, ⟨by exact pW BK425⟩, ⟨by exact pW BK437⟩, (aB HB)⟩
     case rest =>
      clear HC21
      try clear hcz10_0
      try clear hcz10_1
      try clear hcz10_2
      try clear hcz10_3
      try clear hcz10_4
      try clear hcz12_0
      try clear hcz12_1
      try clear hcz12_2
      try clear hcz12_3
      try clear hcz12_4
      try clear hcz25_0
      try clear hcz25_1
      try clear hcz25_2
      try clear hcz25_3
      try clear hcz25_4
      try clear hfz10_0
      try clear hfz12_0
      try clear hfz25_0
      obtain ⟨kq, x71_20, rfl, HA, HJ20, BK425, BK437, HB⟩ := hcut
      cases kq with
      | zero => exact absurd HA.out (by simp [laws_FnLeads.j1])
      | succ kj20 =>
       have H := HA.out
       clear HA
       simp only [laws_FnLeads.j1] at H
       rcases Bool.eq_false_or_eq_true x71_20 with rfl | rfl
       ·replace H := iT rfl H
        exact absurd (Option.some.inj H) (by rw [hT]; decide)
       ·replace H := iF (by decide) H
        replace H := bA H
        obtain ⟨t438, A32, H⟩ := H
        replace H := Option.bind_eq_some_iff.mp H
        obtain ⟨⟨t439, t440, t441, t442, t443, t444⟩, A330, H⟩ := H
        replace H : ((spec_ParseLead.f kj20 t438).bind fun bt446 => (if (!(t439 == bt446.1) || (!(t440 == bt446.2.1) || (!(t441 == bt446.2.2.1) || (!(t442 == bt446.2.2.2.1) || (!(t443 == bt446.2.2.2.2.1)))))) = true then (laws_FnLeads.j2 kj20 l0 true) else (laws_FnLeads.j2 kj20 l0 (t444 != bt446.2.2.2.2.2)))) = some r := H
        have A33 := Aside0.mk A330
        clear A330
        replace H := Option.bind_eq_some_iff.mp H
        obtain ⟨⟨t446, t447, t448, t449, t450, t451⟩, A340, H⟩ := H
        replace H : (if (!(t439 == t446) || (!(t440 == t447) || (!(t441 == t448) || (!(t442 == t449) || (!(t443 == t450)))))) = true then (laws_FnLeads.j2 kj20 l0 true) else (laws_FnLeads.j2 kj20 l0 (t444 != t451))) = some r := H
        have A34 := Aside0.mk A340
        clear A340
        have HC35 := Aside0.mk H
        clear H
        go_upto_region 14 with (first | ((with_reducible refine gC 15 ?_); refine lA (some 73) Tryd.func15 (spec_DrawParseLead.calls kj20 _ _ l0 t438 _ ?side1 ?side2 A32.out) ?_; (case side1 => repeat (first | exact (Kd.C_below HR0.out HB.out) | (with_reducible refine Kd.C_alloc ?_ _) | (with_reducible refine Kd.C_drewN ?_ _) | (with_reducible refine Kd.C_drew ?_))); (case side2 => exact HC0.out); intro w36 hb; replace BK425 := uK BK425 hb; replace BK437 := uK BK437 hb; replace HB := uB HB hb; (try clear hb); (try clear hk)) | ((with_reducible refine gC 10 ?_); refine lA (some 76) Tryd.func10 (impl_ParseLead.calls kj20 t438 t439 t440 t441 t442 t443 t444 _ A33.out (TabW.up2 hTW HB.out)) ?_; intro w37 hb; replace BK425 := uK BK425 hb; replace BK437 := uK BK437 hb; replace HB := uB HB hb; (try clear hb); (try clear hk)) | ((with_reducible refine gD 11 ?_); refine bxE 11 26 #[.int .i64 0, .int .i64 0, .int .i64 0, .int .i64 0, .int .i64 0] fun gb445 w38 hg hbox hb => ?_; have BK445 := Aside0.mk hbox; have GE445 := gB HB hg; have ⟨NB425_445, NB445_425⟩ := nB BK425 hg; have ⟨NB437_445, NB445_437⟩ := nB BK437 hg; replace BK425 := uK BK425 hb; replace BK437 := uK BK437 hb; replace HB := uB HB hb; clear hb hbox hg; have hnb39 := NB445_425.out; have hnc39 := NB425_445.out; have hnb40 := NB445_437.out; have hnc40 := NB437_445.out; have ⟨hcz41_0, hcz41_1, hcz41_2, hcz41_3, hcz41_4, hfz41_0⟩ := cz5 BK445) | ((with_reducible refine gC 9 ?_); refine lA (some 81) Tryd.func9 (spec_ParseLead.calls kj20 t438 t446 t447 t448 t449 t450 t451 _ A34.out) ?_; intro w42 hb; replace BK425 := uQ BK425 hb #[.int .i64 t420, .int .i64 t421, .int .i64 t422, .int .i64 t423, .int .i64 t424]; replace BK437 := uQ BK437 hb #[.int .i64 t431, .int .i64 t432, .int .i64 t433, .int .i64 t434, .int .i64 t435]; replace BK445 := uQ BK445 hb #[.int .i64 t439, .int .i64 t440, .int .i64 t441, .int .i64 t442, .int .i64 t443]; replace HB := uB HB hb; (try clear hb); (try clear hk)) | ((with_reducible refine gD 13 ?_); refine bxE 13 26 #[.int .i64 0, .int .i64 0, .int .i64 0, .int .i64 0, .int .i64 0] fun gb452 w43 hg hbox hb => ?_; have BK452 := Aside0.mk hbox; have GE452 := gB HB hg; have ⟨NB425_452, NB452_425⟩ := nB BK425 hg; have ⟨NB437_452, NB452_437⟩ := nB BK437 hg; have ⟨NB445_452, NB452_445⟩ := nB BK445 hg; replace BK425 := uK BK425 hb; replace BK437 := uK BK437 hb; replace BK445 := uK BK445 hb; replace HB := uB HB hb; clear hb hbox hg; have hnb44 := NB452_425.out; have hnc44 := NB425_452.out; have hnb45 := NB452_437.out; have hnc45 := NB437_452.out; have hnb46 := NB452_445.out; have hnc46 := NB445_452.out; have ⟨hcz47_0, hcz47_1, hcz47_2, hcz47_3, hcz47_4, hfz47_0⟩ := cz5 BK452))
        (try simp only [Act.put, List.setIfInBounds_toArray, List.set_cons_zero, List.set_cons_succ])
        go_cut [91] (fun v91 wc => ∃ (kq : Nat) (x91_34 : Bool), v91 = .bool x91_34 ∧ Aside0 (laws_FnLeads.j2 kq l0 x91_34 = some r) ∧ Aside0 (kq ≤ kj20) ∧ Aside0 (wc.heap[gb425]? = some (.cells #[.int .i64 t420, .int .i64 t421, .int .i64 t422, .int .i64 t423, .int .i64 t424] 26 (0, 0))) ∧ Aside0 (wc.heap[gb437]? = some (.cells #[.int .i64 t431, .int .i64 t432, .int .i64 t433, .int .i64 t434, .int .i64 t435] 26 (0, 0))) ∧ Aside0 (wc.heap[gb445]? = some (.cells #[.int .i64 t439, .int .i64 t440, .int .i64 t441, .int .i64 t442, .int .i64 t443] 26 (0, 0))) ∧ Aside0 (wc.heap[gb452]? = some (.cells #[.int .i64 t446, .int .i64 t447, .int .i64 t448, .int .i64 t449, .int .i64 t450] 26 (0, 0))) ∧ Aside0 (Below w.heap.size w wc))
        case first =>
         have H := HC35.out
         clear HC35
         by_cases c48 : (!(t439 == t446) || (!(t440 == t447) || (!(t441 == t448) || (!(t442 == t449) || (!(t443 == t450)))))) = true
         ·rw [if_pos c48] at H
          have c48b0 : (!(t439 == t446) || (!(t440 == t447) || (!(t441 == t448) || (!(t442 == t449) || (!(t443 == t450)))))) = true := c48
          clear c48
          (first | rw [c48b0] | (simp only [i64_w, i32_w]; rw [c48b0]) | skip)
          have H' := Aside0.mk H
          clear H
          have hnb49 := NB445_425.out
          have hnc49 := NB425_445.out
          have hnb50 := NB445_437.out
          have hnc50 := NB437_445.out
          have hnb51 := NB445_452.out
          have hnc51 := NB452_445.out
          have ⟨hcz52_0, hcz52_1, hcz52_2, hcz52_3, hcz52_4, hfz52_0⟩ := cz5 BK445
          have hnb53 := NB452_425.out
          have hnc53 := NB425_452.out
          have hnb54 := NB452_437.out
          have hnc54 := NB437_452.out
          have ⟨hcz55_0, hcz55_1, hcz55_2, hcz55_3, hcz55_4, hfz55_0⟩ := cz5 BK452
          go_wp2
          go_meet
          case rel => exact ⟨_, (true), rB, H', ⟨by have := HJ6.out; have := HJ20.out; first | omega | exact Nat.le_refl _⟩, ⟨by exact pW BK425⟩, ⟨by exact pW BK437⟩, ⟨by exact pW BK445⟩, ⟨by exact pW BK452⟩, (aB HB)⟩
         ·rw [if_neg c48] at H
          have c48b0 : (!(t439 == t446) || (!(t440 == t447) || (!(t441 == t448) || (!(t442 == t449) || (!(t443 == t450)))))) = false := by simpa using c48
          clear c48
          (first | rw [c48b0] | (simp only [i64_w, i32_w]; rw [c48b0]) | skip)
          have H' := Aside0.mk H
          clear H
          have hnb56 := NB445_425.out
          have hnc56 := NB425_445.out
          have hnb57 := NB445_437.out
          have hnc57 := NB437_445.out
          have hnb58 := NB445_452.out
          have hnc58 := NB452_445.out
          have ⟨hcz59_0, hcz59_1, hcz59_2, hcz59_3, hcz59_4, hfz59_0⟩ := cz5 BK445
          have hnb60 := NB452_425.out
          have hnc60 := NB425_452.out
          have hnb61 := NB452_437.out
          have hnc61 := NB437_452.out
          have ⟨hcz62_0, hcz62_1, hcz62_2, hcz62_3, hcz62_4, hfz62_0⟩ := cz5 BK452
          go_wp2
          go_meet
          case rel => exact ⟨_, ((t444 != t451)), rB, H', ⟨by have := HJ6.out; have := HJ20.out; first | omega | exact Nat.le_refl _⟩, ⟨by exact pW BK425⟩, ⟨by exact pW BK437⟩, ⟨by exact pW BK445⟩, ⟨by exact pW BK452⟩, (aB HB)⟩
        case rest =>
         clear HC35
         try clear hcz10_0
         try clear hcz10_1
         try clear hcz10_2
         try clear hcz10_3
         try clear hcz10_4
         try clear hcz12_0
         try clear hcz12_1
         try clear hcz12_2
         try clear hcz12_3
         try clear hcz12_4
         try clear hcz25_0
         try clear hcz25_1
         try clear hcz25_2
         try clear hcz25_3
         try clear hcz25_4
         try clear hcz41_0
         try clear hcz41_1
         try clear hcz41_2
         try clear hcz41_3
         try clear hcz41_4
         try clear hcz47_0
         try clear hcz47_1
         try clear hcz47_2
         try clear hcz47_3
         try clear hcz47_4
         try clear hfz10_0
         try clear hfz12_0
         try clear hfz25_0
         try clear hfz41_0
         try clear hfz47_0
         obtain ⟨kq, x91_34, rfl, HA, HJ34, BK425, BK437, BK445, BK452, HB⟩ := hcut
         cases kq with
         | zero => exact absurd HA.out (by simp [laws_FnLeads.j2])
         | succ kj34 =>
          have H := HA.out
          clear HA
          simp only [laws_FnLeads.j2] at H
          rcases Bool.eq_false_or_eq_true x91_34 with rfl | rfl
          ·replace H := iT rfl H
           exact absurd (Option.some.inj H) (by rw [hT]; decide)
          ·replace H := iF (by decide) H
           replace H := Option.bind_eq_some_iff.mp H
           obtain ⟨⟨t453, t454⟩, A640, H⟩ := H
           replace H : ((impl_LeadsAt.f kj34 t453 t454).bind fun bt457 => ((spec_LeadsAt.f kj34 t453 t454).bind fun bt461 => (if (bt457.2 != bt461.2) = true then (laws_FnLeads.j3 kj34 t453 true) else ((laws_rInts.f kj34 bt457.1 bt461.1).bind fun t465 => (laws_FnLeads.j3 kj34 t453 (!t465)))))) = some r := H
           have A64 := Aside0.mk A640
           clear A640
           replace H := Option.bind_eq_some_iff.mp H
           obtain ⟨⟨t457, t458⟩, A650, H⟩ := H
           replace H : ((spec_LeadsAt.f kj34 t453 t454).bind fun bt461 => (if (t458 != bt461.2) = true then (laws_FnLeads.j3 kj34 t453 true) else ((laws_rInts.f kj34 t457 bt461.1).bind fun t465 => (laws_FnLeads.j3 kj34 t453 (!t465))))) = some r := H
           have A65 := Aside0.mk A650
           clear A650
           replace H := Option.bind_eq_some_iff.mp H
           obtain ⟨⟨t461, t462⟩, A660, H⟩ := H
           replace H : (if (t458 != t462) = true then (laws_FnLeads.j3 kj34 t453 true) else ((laws_rInts.f kj34 t457 t461).bind fun t465 => (laws_FnLeads.j3 kj34 t453 (!t465)))) = some r := H
           have A66 := Aside0.mk A660
           clear A660
           have HC67 := Aside0.mk H
           clear H
           go_upto_region 19 with (first | ((with_reducible refine gate_callee (f := 16) rfl ?_); refine goesL_ (some 94) rfl rfl Tryd.func16 (by kernel_rfl) rfl #[.slice A0 l0.length c0] rfl argsB ?_; (with_reducible refine (spec_DrawLeadsAt.calls kj34 _ _ l0 t453 t454 _ ?side1 ?side2 A64.out).mono ?_); (case side1 => repeat (first | exact (Kd.C_below HR0.out HB.out) | (with_reducible refine Kd.C_alloc ?_ _) | (with_reducible refine Kd.C_drewN ?_ _) | (with_reducible refine Kd.C_drew ?_))); (case side2 => exact HC0.out); rintro e w68 ⟨v455, rfl, ho0, hb⟩; refine ⟨_, rfl, ?_⟩; have HO456 := Aside0.mk (Kd.R_lower (Kd.R_newB (Kd.R_newB (Kd.R_newB (Kd.R_newB ho0 (g := gb425) (o := .cells #[.int .i64 t420, .int .i64 t421, .int .i64 t422, .int .i64 t423, .int .i64 t424] 26 (0, 0)) (upK BK425.out)) (g := gb437) (o := .cells #[.int .i64 t431, .int .i64 t432, .int .i64 t433, .int .i64 t434, .int .i64 t435] 26 (0, 0)) (upK BK437.out)) (g := gb445) (o := .cells #[.int .i64 t439, .int .i64 t440, .int .i64 t441, .int .i64 t442, .int .i64 t443] 26 (0, 0)) (upK BK445.out)) (g := gb452) (o := .cells #[.int .i64 t446, .int .i64 t447, .int .i64 t448, .int .i64 t449, .int .i64 t450] 26 (0, 0)) (upK BK452.out)) (below_size (bW HB))); replace BK425 := uK BK425 hb; replace BK437 := uK BK437 hb; replace BK445 := uK BK445 hb; replace BK452 := uK BK452 hb; replace HB := uB HB hb; (try clear hb); (try clear hk); (try clear ho0); obtain ⟨Ao69, co69, eo69⟩ := Kd.R_slice HO456.out; subst eo69) | ((with_reducible refine gate_callee (f := 17) rfl ?_); refine goesL_ (some 100) rfl rfl Tryd.func17 (by kernel_rfl) rfl #[.slice Ao69 t453.length co69, .int .i64 t454] rfl argsB ?_; (with_reducible refine (impl_LeadsAt.calls kj34 _ _ t453 t454 t457 t458 _ ?side1 ?side2 A65.out).mono ?_); (case side1 => repeat (first | exact (Kd.R_reads' HO456.out).2.2 | (with_reducible refine Kd.C_alloc ?_ _) | (with_reducible refine Kd.C_drewN ?_ _) | (with_reducible refine Kd.C_drew ?_))); (case side2 => exact (Kd.R_reads' HO456.out).2.1); rintro e w70 ⟨v459, rfl, ho0, hb⟩; refine ⟨_, rfl, ?_⟩; have HO460 := Aside0.mk (Kd.R_lower ho0 (below_size (bW HB))); replace HO456 := uR HO456 hb; replace BK425 := uK BK425 hb; replace BK437 := uK BK437 hb; replace BK445 := uK BK445 hb; replace BK452 := uK BK452 hb; replace HB := uB HB hb; (try clear hb); (try clear hk); (try clear ho0)) | ((with_reducible refine gate_callee (f := 18) rfl ?_); refine goesL_ (some 106) rfl rfl Tryd.func18 (by kernel_rfl) rfl #[.slice Ao69 t453.length co69, .int .i64 t454] rfl argsB ?_; (with_reducible refine (spec_LeadsAt.calls kj34 _ _ t453 t454 t461 t462 _ ?side1 ?side2 A66.out).mono ?_); (case side1 => repeat (first | exact (Kd.R_reads' HO456.out).2.2 | (with_reducible refine Kd.C_alloc ?_ _) | (with_reducible refine Kd.C_drewN ?_ _) | (with_reducible refine Kd.C_drew ?_))); (case side2 => exact (Kd.R_reads' HO456.out).2.1); rintro e w71 ⟨v463, rfl, ho0, hb⟩; refine ⟨_, rfl, ?_⟩; have HO464 := Aside0.mk (Kd.R_lower (Kd.R_new' ho0 (Kd.R_lt (upR HO460.out))) (below_size (bW HB))); replace HO456 := uR HO456 hb; replace HO460 := Aside0.mk (Kd.R_elder' (upR HO460.out) (Kd.R_base ho0) hb); replace BK425 := uK BK425 hb; replace BK437 := uK BK437 hb; replace BK445 := uK BK445 hb; replace BK452 := uK BK452 hb; replace HB := uB HB hb; (try clear hb); (try clear hk); (try clear ho0)))
           (try simp only [Act.put, List.setIfInBounds_toArray, List.set_cons_zero, List.set_cons_succ])
           go_cut [117] (fun v117 wc => ∃ (kq : Nat) (x117_66 : Bool), v117 = .bool x117_66 ∧ Aside0 (laws_FnLeads.j3 kq t453 x117_66 = some r) ∧ Aside0 (kq ≤ kj34) ∧ Aside0 (Kd.R k26 26 wc w.heap.size (fun k_ => k_ ≠ gb425 ∧ k_ ≠ gb437 ∧ k_ ≠ gb445 ∧ k_ ≠ gb452) (.slice Ao69 t453.length co69) t453) ∧ Aside0 (wc.heap[gb425]? = some (.cells #[.int .i64 t420, .int .i64 t421, .int .i64 t422, .int .i64 t423, .int .i64 t424] 26 (0, 0))) ∧ Aside0 (wc.heap[gb437]? = some (.cells #[.int .i64 t431, .int .i64 t432, .int .i64 t433, .int .i64 t434, .int .i64 t435] 26 (0, 0))) ∧ Aside0 (wc.heap[gb445]? = some (.cells #[.int .i64 t439, .int .i64 t440, .int .i64 t441, .int .i64 t442, .int .i64 t443] 26 (0, 0))) ∧ Aside0 (wc.heap[gb452]? = some (.cells #[.int .i64 t446, .int .i64 t447, .int .i64 t448, .int .i64 t449, .int .i64 t450] 26 (0, 0))) ∧ Aside0 (Below w.heap.size w wc))
           case first =>
            have H := HC67.out
            clear HC67
            by_cases c72 : (t458 != t462) = true
            ·rw [if_pos c72] at H
             have c72b0 : (t458 != t462) = true := c72
             (try (have c72b1 : decide (t458 = t462) = false := by simpa using c72))
             (try (have c72b2 : (t458 == t462) = false := by simpa using c72))
             (try (have c72b3 : ¬ (t458 = t462) := by simpa using c72))
             clear c72
             (first | rw [c72b0] | (simp only [i64_w, i32_w]; rw [c72b0]) | skip)
             have H' := Aside0.mk H
             clear H
             go_wp2
             go_meet
             case rel => exact ⟨_, (true), rB, H', ⟨by have := HJ6.out; have := HJ20.out; have := HJ34.out; first | omega | exact Nat.le_refl _⟩, ⟨by (with_reducible repeat (first | apply Kd.R_alloc | apply Kd.R_drewN | apply Kd.R_drew)); exact Kd.R_mono HO456.out (fun _ hk => ⟨hk.1.1.1.2, ⟨hk.1.1.2, ⟨hk.1.2, hk.2⟩⟩⟩)⟩, (aK BK425), (aK BK437), (aK BK445), (aK BK452), (aB HB)⟩
            ·rw [if_neg c72] at H
             have c72b0 : (t458 != t462) = false := by simpa using c72
             (try (have c72b1 : decide (t458 = t462) = true := by simpa using c72))
             (try (have c72b2 : (t458 == t462) = true := by simpa using c72))
             clear c72
             (first | rw [c72b0] | (simp only [i64_w, i32_w]; rw [c72b0]) | skip)
             replace H := bA H
             obtain ⟨t465, A73, H⟩ := H
             have H' := Aside0.mk H
             clear H
             obtain ⟨Ao74, co74, eo74⟩ := Kd.R_slice HO460.out
             subst eo74
             obtain ⟨Ao75, co75, eo75⟩ := Kd.R_slice HO464.out
             subst eo75
             go_wp2_with (first | (go_at_call 19; (with_reducible refine (laws_rInts.calls kj34 _ _ t457 _ _ t461 t465 _ ?side1 ?side2 ?side3 ?side4 A73.out).mono ?_); (case side1 => repeat (first | exact (Kd.R_reads' HO460.out).2.2 | (with_reducible refine Kd.C_alloc ?_ _) | (with_reducible refine Kd.C_drewN ?_ _) | (with_reducible refine Kd.C_drew ?_))); (case side2 => exact (Kd.R_reads' HO460.out).2.1); (case side3 => repeat (first | exact (Kd.R_reads' HO464.out).2.2 | (with_reducible refine Kd.C_alloc ?_ _) | (with_reducible refine Kd.C_drewN ?_ _) | (with_reducible refine Kd.C_drew ?_))); (case side4 => exact (Kd.R_reads' HO464.out).2.1); rintro e w' ⟨rfl, ⟨nd, rfl⟩⟩))
             go_meet
             case rel => exact ⟨_, (!t465), rB, H', ⟨by have := HJ6.out; have := HJ20.out; have := HJ34.out; first | omega | exact Nat.le_refl _⟩, ⟨by (with_reducible repeat (first | apply Kd.R_alloc | apply Kd.R_drewN | apply Kd.R_drew)); exact Kd.R_mono HO456.out (fun _ hk => ⟨hk.1.1.1.2, ⟨hk.1.1.2, ⟨hk.1.2, hk.2⟩⟩⟩)⟩, (aK BK425), (aK BK437), (aK BK445), (aK BK452), (aB HB)⟩
           case rest =>
            clear HC67
            try clear hcz10_0
            try clear hcz10_1
            try clear hcz10_2
            try clear hcz10_3
            try clear hcz10_4
            try clear hcz12_0
            try clear hcz12_1
            try clear hcz12_2
            try clear hcz12_3
            try clear hcz12_4
            try clear hcz25_0
            try clear hcz25_1
            try clear hcz25_2
            try clear hcz25_3
            try clear hcz25_4
            try clear hcz41_0
            try clear hcz41_1
            try clear hcz41_2
            try clear hcz41_3
            try clear hcz41_4
            try clear hcz47_0
            try clear hcz47_1
            try clear hcz47_2
            try clear hcz47_3
            try clear hcz47_4
            try clear hfz10_0
            try clear hfz12_0
            try clear hfz25_0
            try clear hfz41_0
            try clear hfz47_0
            obtain ⟨kq, x117_66, rfl, HA, HJ66, HO_15, BK425, BK437, BK445, BK452, HB⟩ := hcut
            cases kq with
            | zero => exact absurd HA.out (by simp [laws_FnLeads.j3])
            | succ kj66 =>
             have H := HA.out
             clear HA
             simp only [laws_FnLeads.j3] at H
             rcases Bool.eq_false_or_eq_true x117_66 with rfl | rfl
             ·replace H := iT rfl H
              exact absurd (Option.some.inj H) (by rw [hT]; decide)
             ·replace H := iF (by decide) H
              replace H := Option.bind_eq_some_iff.mp H
              obtain ⟨⟨t466, t467⟩, A770, H⟩ := H
              replace H : ((spec_StatesOf.f kj66 t453).bind fun bt470 => (if (t467 != bt470.2) = true then (laws_FnLeads.j4 kj66 t453 t466 t467 true) else ((laws_rInts.f kj66 t466 bt470.1).bind fun t474 => (if t474 = true then ((impl_AreLeads.f kj66 t453).bind fun t475 => (laws_FnLeads.j4 kj66 t453 t466 t467 (t467 != t475))) else (laws_FnLeads.j4 kj66 t453 t466 t467 true))))) = some r := H
              have A77 := Aside0.mk A770
              clear A770
              replace H := Option.bind_eq_some_iff.mp H
              obtain ⟨⟨t470, t471⟩, A780, H⟩ := H
              replace H : (if (t467 != t471) = true then (laws_FnLeads.j4 kj66 t453 t466 t467 true) else ((laws_rInts.f kj66 t466 t470).bind fun t474 => (if t474 = true then ((impl_AreLeads.f kj66 t453).bind fun t475 => (laws_FnLeads.j4 kj66 t453 t466 t467 (t467 != t475))) else (laws_FnLeads.j4 kj66 t453 t466 t467 true)))) = some r := H
              have A78 := Aside0.mk A780
              clear A780
              have HC79 := Aside0.mk H
              clear H
              go_upto_region 23 with (first | ((with_reducible refine gate_callee (f := 20) rfl ?_); refine goesL_ (some 120) rfl rfl Tryd.func20 (by kernel_rfl) rfl #[.slice Ao69 t453.length co69] rfl argsB ?_; (with_reducible refine (impl_StatesOf.calls kj66 _ _ t453 t466 t467 _ ?side1 ?side2 A77.out).mono ?_); (case side1 => repeat (first | exact (Kd.R_reads' HO_15.out).2.2 | (with_reducible refine Kd.C_alloc ?_ _) | (with_reducible refine Kd.C_drewN ?_ _) | (with_reducible refine Kd.C_drew ?_))); (case side2 => exact (Kd.R_reads' HO_15.out).2.1); rintro e w80 ⟨v468, rfl, ho0, hb⟩; refine ⟨_, rfl, ?_⟩; have HO469 := Aside0.mk (Kd.R_lower ho0 (below_size (bW HB))); replace HO_15 := uR HO_15 hb; replace BK425 := uK BK425 hb; replace BK437 := uK BK437 hb; replace BK445 := uK BK445 hb; replace BK452 := uK BK452 hb; replace HB := uB HB hb; (try clear hb); (try clear hk); (try clear ho0)) | ((with_reducible refine gate_callee (f := 21) rfl ?_); refine goesL_ (some 125) rfl rfl Tryd.func21 (by kernel_rfl) rfl #[.slice Ao69 t453.length co69] rfl argsB ?_; (with_reducible refine (spec_StatesOf.calls kj66 _ _ t453 t470 t471 _ ?side1 ?side2 A78.out).mono ?_); (case side1 => repeat (first | exact (Kd.R_reads' HO_15.out).2.2 | (with_reducible refine Kd.C_alloc ?_ _) | (with_reducible refine Kd.C_drewN ?_ _) | (with_reducible refine Kd.C_drew ?_))); (case side2 => exact (Kd.R_reads' HO_15.out).2.1); rintro e w81 ⟨v472, rfl, ho0, hb⟩; refine ⟨_, rfl, ?_⟩; have HO473 := Aside0.mk (Kd.R_lower (Kd.R_new' ho0 (Kd.R_lt (upR HO469.out))) (below_size (bW HB))); replace HO_15 := uR HO_15 hb; replace HO469 := Aside0.mk (Kd.R_elder' (upR HO469.out) (Kd.R_base ho0) hb); replace BK425 := uK BK425 hb; replace BK437 := uK BK437 hb; replace BK445 := uK BK445 hb; replace BK452 := uK BK452 hb; replace HB := uB HB hb; (try clear hb); (try clear hk); (try clear ho0)))
              (try simp only [Act.put, List.setIfInBounds_toArray, List.set_cons_zero, List.set_cons_succ])
              go_cut [142] (fun v142 wc => ∃ (kq : Nat) (x142_78 : Bool), v142 = .bool x142_78 ∧ Aside0 (laws_FnLeads.j4 kq t453 t466 t467 x142_78 = some r) ∧ Aside0 (kq ≤ kj66) ∧ Aside0 (Kd.R k26 26 wc w.heap.size (fun k_ => k_ ≠ gb425 ∧ k_ ≠ gb437 ∧ k_ ≠ gb445 ∧ k_ ≠ gb452) (.slice Ao69 t453.length co69) t453) ∧ Aside0 (Kd.R (Kd.int .i64) 3 wc w.heap.size (fun _ => True) v468 t466) ∧ Aside0 (wc.heap[gb425]? = some (.cells #[.int .i64 t420, .int .i64 t421, .int .i64 t422, .int .i64 t423, .int .i64 t424] 26 (0, 0))) ∧ Aside0 (wc.heap[gb437]? = some (.cells #[.int .i64 t431, .int .i64 t432, .int .i64 t433, .int .i64 t434, .int .i64 t435] 26 (0, 0))) ∧ Aside0 (wc.heap[gb445]? = some (.cells #[.int .i64 t439, .int .i64 t440, .int .i64 t441, .int .i64 t442, .int .i64 t443] 26 (0, 0))) ∧ Aside0 (wc.heap[gb452]? = some (.cells #[.int .i64 t446, .int .i64 t447, .int .i64 t448, .int .i64 t449, .int .i64 t450] 26 (0, 0))) ∧ Aside0 (Below w.heap.size w wc))
              case first =>
               have H := HC79.out
               clear HC79
               by_cases c82 : (t467 != t471) = true
               ·rw [if_pos c82] at H
                have c82b0 : (t467 != t471) = true := c82
                (try (have c82b1 : decide (t467 = t471) = false := by simpa using c82))
                (try (have c82b2 : (t467 == t471) = false := by simpa using c82))
                (try (have c82b3 : ¬ (t467 = t471) := by simpa using c82))
                clear c82
                (first | rw [c82b0] | (simp only [i64_w, i32_w]; rw [c82b0]) | skip)
                have H' := Aside0.mk H
                clear H
                go_wp2
                go_meet
                case rel => exact ⟨_, (true), rB, H', ⟨by have := HJ6.out; have := HJ20.out; have := HJ34.out; have := HJ66.out; first | omega | exact Nat.le_refl _⟩, ⟨upR HO_15.out⟩, ⟨by (with_reducible repeat (first | apply Kd.R_alloc | apply Kd.R_drewN | apply Kd.R_drew)); exact Kd.R_mono HO469.out (fun _ hk => trivial)⟩, (aK BK425), (aK BK437), (aK BK445), (aK BK452), (aB HB)⟩
               ·rw [if_neg c82] at H
                have c82b0 : (t467 != t471) = false := by simpa using c82
                (try (have c82b1 : decide (t467 = t471) = true := by simpa using c82))
                (try (have c82b2 : (t467 == t471) = true := by simpa using c82))
                clear c82
                (first | rw [c82b0] | (simp only [i64_w, i32_w]; rw [c82b0]) | skip)
                replace H := bA H
                obtain ⟨t474, A83, H⟩ := H
                rcases Bool.eq_false_or_eq_true t474 with rfl | rfl
                ·replace H := iT rfl H
                 replace H := bA H
                 obtain ⟨t475, A85, H⟩ := H
                 have H' := Aside0.mk H
                 clear H
                 obtain ⟨Ao86, co86, eo86⟩ := Kd.R_slice HO469.out
                 subst eo86
                 obtain ⟨Ao87, co87, eo87⟩ := Kd.R_slice HO473.out
                 subst eo87
                 go_wp2_with (first | (go_at_call 19; (with_reducible refine (laws_rInts.calls kj66 _ _ t466 _ _ t470 true _ ?side1 ?side2 ?side3 ?side4 A83.out).mono ?_); (case side1 => repeat (first | exact (Kd.R_reads' HO469.out).2.2 | (with_reducible refine Kd.C_alloc ?_ _) | (with_reducible refine Kd.C_drewN ?_ _) | (with_reducible refine Kd.C_drew ?_))); (case side2 => exact (Kd.R_reads' HO469.out).2.1); (case side3 => repeat (first | exact (Kd.R_reads' HO473.out).2.2 | (with_reducible refine Kd.C_alloc ?_ _) | (with_reducible refine Kd.C_drewN ?_ _) | (with_reducible refine Kd.C_drew ?_))); (case side4 => exact (Kd.R_reads' HO473.out).2.1); rintro e w' ⟨rfl, ⟨nd, rfl⟩⟩) | (go_at_call 22; (with_reducible refine (impl_AreLeads.calls kj66 _ _ t453 t475 _ ?side1 ?side2 A85.out).mono ?_); (case side1 => repeat (first | exact (Kd.R_reads' HO_15.out).2.2 | (with_reducible refine Kd.C_alloc ?_ _) | (with_reducible refine Kd.C_drewN ?_ _) | (with_reducible refine Kd.C_drew ?_))); (case side2 => exact (Kd.R_reads' HO_15.out).2.1); rintro e w88 ⟨rfl, hb⟩; replace HO_15 := uR HO_15 hb; replace HO469 := uR HO469 hb; replace HO473 := uR HO473 hb; replace BK425 := uK BK425 hb; replace BK437 := uK BK437 hb; replace BK445 := uK BK445 hb; replace BK452 := uK BK452 hb; replace HB := uB HB hb; (try clear hb); (try clear hk)))
                 go_meet
                 case rel => exact ⟨_, ((t467 != t475)), rB, H', ⟨by have := HJ6.out; have := HJ20.out; have := HJ34.out; have := HJ66.out; first | omega | exact Nat.le_refl _⟩, ⟨upR HO_15.out⟩, ⟨by (with_reducible repeat (first | apply Kd.R_alloc | apply Kd.R_drewN | apply Kd.R_drew)); exact Kd.R_mono HO469.out (fun _ hk => trivial)⟩, (aK BK425), (aK BK437), (aK BK445), (aK BK452), (aB HB)⟩
                ·replace H := iF (by decide) H
                 have H' := Aside0.mk H
                 clear H
                 obtain ⟨Ao89, co89, eo89⟩ := Kd.R_slice HO469.out
                 subst eo89
                 obtain ⟨Ao90, co90, eo90⟩ := Kd.R_slice HO473.out
                 subst eo90
                 go_wp2_with (first | (go_at_call 19; (with_reducible refine (laws_rInts.calls kj66 _ _ t466 _ _ t470 false _ ?side1 ?side2 ?side3 ?side4 A83.out).mono ?_); (case side1 => repeat (first | exact (Kd.R_reads' HO469.out).2.2 | (with_reducible refine Kd.C_alloc ?_ _) | (with_reducible refine Kd.C_drewN ?_ _) | (with_reducible refine Kd.C_drew ?_))); (case side2 => exact (Kd.R_reads' HO469.out).2.1); (case side3 => repeat (first | exact (Kd.R_reads' HO473.out).2.2 | (with_reducible refine Kd.C_alloc ?_ _) | (with_reducible refine Kd.C_drewN ?_ _) | (with_reducible refine Kd.C_drew ?_))); (case side4 => exact (Kd.R_reads' HO473.out).2.1); rintro e w' ⟨rfl, ⟨nd, rfl⟩⟩))
                 go_meet
                 case rel => exact ⟨_, (true), rB, H', ⟨by have := HJ6.out; have := HJ20.out; have := HJ34.out; have := HJ66.out; first | omega | exact Nat.le_refl _⟩, ⟨upR HO_15.out⟩, ⟨by (with_reducible repeat (first | apply Kd.R_alloc | apply Kd.R_drewN | apply Kd.R_drew)); exact Kd.R_mono HO469.out (fun _ hk => trivial)⟩, (aK BK425), (aK BK437), (aK BK445), (aK BK452), (aB HB)⟩
              case rest =>
               clear HC79
               try clear hcz10_0
               try clear hcz10_1
               try clear hcz10_2
               try clear hcz10_3
               try clear hcz10_4
               try clear hcz12_0
               try clear hcz12_1
               try clear hcz12_2
               try clear hcz12_3
               try clear hcz12_4
               try clear hcz25_0
               try clear hcz25_1
               try clear hcz25_2
               try clear hcz25_3
               try clear hcz25_4
               try clear hcz41_0
               try clear hcz41_1
               try clear hcz41_2
               try clear hcz41_3
               try clear hcz41_4
               try clear hcz47_0
               try clear hcz47_1
               try clear hcz47_2
               try clear hcz47_3
               try clear hcz47_4
               try clear hfz10_0
               try clear hfz12_0
               try clear hfz25_0
               try clear hfz41_0
               try clear hfz47_0
               obtain ⟨kq, x142_78, rfl, HA, HJ78, HO_15, HO_21, BK425, BK437, BK445, BK452, HB⟩ := hcut
               cases kq with
               | zero => exact absurd HA.out (by simp [laws_FnLeads.j4])
               | succ kj78 =>
                have H := HA.out
                clear HA
                simp only [laws_FnLeads.j4] at H
                rcases Bool.eq_false_or_eq_true x142_78 with rfl | rfl
                ·replace H := iT rfl H
                 exact absurd (Option.some.inj H) (by rw [hT]; decide)
                ·replace H := iF (by decide) H
                 rcases Bool.eq_false_or_eq_true t467 with rfl | rfl
                 ·replace H := iT rfl H
                  have H' := Aside0.mk H
                  clear H
                  go_wp2
                  go_loopg [25, 26] kj78 (fun kq v25 v26 w' => ∃ (x25_6 x26_6 : Int), v25 = .int .i64 x25_6 ∧ v26 = .int .i64 x26_6 ∧ Aside0 (laws_FnLeads.l0 kq t453 t466 x25_6 x26_6 = some r) ∧ Aside0 (kq ≤ kj78) ∧ Aside0 (Kd.R k26 26 w' w.heap.size (fun k_ => k_ ≠ gb425 ∧ k_ ≠ gb437 ∧ k_ ≠ gb445 ∧ k_ ≠ gb452) (.slice Ao69 t453.length co69) t453) ∧ Aside0 (Kd.R (Kd.int .i64) 3 w' w.heap.size (fun _ => True) v468 t466) ∧ Aside0 (w'.heap[gb425]? = some (.cells #[.int .i64 t420, .int .i64 t421, .int .i64 t422, .int .i64 t423, .int .i64 t424] 26 (0, 0))) ∧ Aside0 (w'.heap[gb437]? = some (.cells #[.int .i64 t431, .int .i64 t432, .int .i64 t433, .int .i64 t434, .int .i64 t435] 26 (0, 0))) ∧ Aside0 (w'.heap[gb445]? = some (.cells #[.int .i64 t439, .int .i64 t440, .int .i64 t441, .int .i64 t442, .int .i64 t443] 26 (0, 0))) ∧ Aside0 (w'.heap[gb452]? = some (.cells #[.int .i64 t446, .int .i64 t447, .int .i64 t448, .int .i64 t449, .int .i64 t450] 26 (0, 0))) ∧ Aside0 (Below w.heap.size w w'))
                  case atStart => exact ⟨(0), (0), rB, rB, H', ⟨Nat.le_refl _⟩, ⟨upR HO_15.out⟩, ⟨upR HO_21.out⟩, (aK BK425), (aK BK437), (aK BK445), (aK BK452), (aB HB)⟩
                  case round =>
                   clear H'
                   try clear hcz10_0
                   try clear hcz10_1
                   try clear hcz10_2
                   try clear hcz10_3
                   try clear hcz10_4
                   try clear hcz12_0
                   try clear hcz12_1
                   try clear hcz12_2
                   try clear hcz12_3
                   try clear hcz12_4
                   try clear hcz25_0
                   try clear hcz25_1
                   try clear hcz25_2
                   try clear hcz25_3
                   try clear hcz25_4
                   try clear hcz41_0
                   try clear hcz41_1
                   try clear hcz41_2
                   try clear hcz41_3
                   try clear hcz41_4
                   try clear hcz47_0
                   try clear hcz47_1
                   try clear hcz47_2
                   try clear hcz47_3
                   try clear hcz47_4
                   try clear hfz10_0
                   try clear hfz12_0
                   try clear hfz25_0
                   try clear hfz41_0
                   try clear hfz47_0
                   obtain ⟨x25_6, x26_6, rfl, rfl, HA, HK6, HO_15, HO_21, BK425, BK437, BK445, BK452, HB⟩ := hrel
                   cases gk with
                   | zero => exact absurd HA.out (by simp [laws_FnLeads.l0])
                   | succ k6 =>
                    have H := HA.out
                    clear HA
                    simp only [laws_FnLeads.l0] at H
                    replace H := ifD H
                    rcases H with ⟨H, -, c93b0⟩ | ⟨H, -, c93b0⟩
                    ·replace H := Option.bind_eq_some_iff.mp H
                     obtain ⟨⟨t476, t477⟩, A940, H⟩ := H
                     replace H : (if t477 = true then (laws_FnLeads.l0 k6 t453 t466 (wrap64 (x25_6 + (t476.length : Int))) (wrap64 (x26_6 + 1))) else (some false)) = some r := H
                     have A94 := Aside0.mk A940
                     clear A940
                     rcases Bool.eq_false_or_eq_true t477 with rfl | rfl
                     ·replace H := iT rfl H
                      have H' := Aside0.mk H
                      clear H
                      go_wp2_with (first | ((with_reducible refine gate_callee (f := 17) rfl ?_); refine goesL_ (some 151) rfl rfl Tryd.func17 (by kernel_rfl) rfl #[.slice Ao69 t453.length co69, .int .i64 x26_6] rfl argsB ?_; (with_reducible refine (impl_LeadsAt.calls k6 _ _ t453 x26_6 t476 true _ ?side1 ?side2 A94.out).mono ?_); (case side1 => repeat (first | exact (Kd.R_reads' HO_15.out).2.2 | (with_reducible refine Kd.C_alloc ?_ _) | (with_reducible refine Kd.C_drewN ?_ _) | (with_reducible refine Kd.C_drew ?_))); (case side2 => exact (Kd.R_reads' HO_15.out).2.1); rintro e w96 ⟨v478, rfl, ho0, hb⟩; refine ⟨_, rfl, ?_⟩; have HO479 := Aside0.mk (Kd.R_lower (Kd.R_new' ho0 (Kd.R_lt (upR HO_21.out))) (below_size (bW HB))); replace HO_15 := uR HO_15 hb; replace HO_21 := Aside0.mk (Kd.R_elder' (upR HO_21.out) (Kd.R_base ho0) hb); replace BK425 := uK BK425 hb; replace BK437 := uK BK437 hb; replace BK445 := uK BK445 hb; replace BK452 := uK BK452 hb; replace HB := uB HB hb; (try clear hb); (try clear hk); (try clear ho0); obtain ⟨Ao97, co97, eo97⟩ := Kd.R_slice HO479.out; subst eo97))
                      go_roundg k6
                      case measure => have := HJ6.out; have := HJ20.out; have := HJ34.out; have := HJ66.out; have := HJ78.out; have := HK6.out; omega
                      case rel => exact ⟨(wrap64 (x25_6 + (t476.length : Int))), (wrap64 (x26_6 + 1)), rB, rB, H', ⟨by have := HJ6.out; have := HJ20.out; have := HJ34.out; have := HJ66.out; have := HJ78.out; have := HK6.out; omega⟩, ⟨upR HO_15.out⟩, ⟨by (with_reducible repeat (first | apply Kd.R_alloc | apply Kd.R_drewN | apply Kd.R_drew)); exact Kd.R_mono HO_21.out (fun _ hk => trivial)⟩, (aK BK425), (aK BK437), (aK BK445), (aK BK452), (aB HB)⟩
                     ·replace H := iF (by decide) H
                      exact absurd (Option.some.inj H) (by rw [hT]; decide)
                    ·replace H := ifI H
                     rcases H with ⟨H, -, c99b0, c99b1⟩ | ⟨H, c99, c99b0, c99b1⟩
                     ·replace H := bA H
                      obtain ⟨t480, A100, H⟩ := H
                      obtain rfl := (Option.some.inj H)
                      obtain ⟨Ao101, co101, eo101⟩ := Kd.R_slice HO_21.out
                      subst eo101
                      go_wp2_with (first | (go_at_call 23; (with_reducible refine (laws_rSum.calls k6 _ _ t466 t480 _ ?side1 ?side2 A100.out).mono ?_); (case side1 => repeat (first | exact (Kd.R_reads' HO_21.out).2.2 | (with_reducible refine Kd.C_alloc ?_ _) | (with_reducible refine Kd.C_drewN ?_ _) | (with_reducible refine Kd.C_drew ?_))); (case side2 => exact (Kd.R_reads' HO_21.out).2.1); rintro e w' ⟨rfl, ⟨nd, rfl⟩⟩))
                      go_ret
                      exact ⟨eB, (bW HB)⟩
                     ·exact absurd (Option.some.inj H) (by rw [hT]; decide)
                 ·replace H := iF (by decide) H
                  obtain rfl := (Option.some.inj H)
                  go_wp2
                  go_ret
                  exact ⟨eB, (bW HB)⟩

end Go.Proofs.YtldgjibimolcdaaDoor.QFnLeads
