/- Contracts of Go functions that FnLeadTrips reaches: the call computes what the plain function says. No condition. -/
import Derived.Test.YtldgjibimolcdaaQFnLeadTripsx0
import Derived.Test.YtldgjibimolcdaaQFnLeadTripsx4
import Derived.Test.YtldgjibimolcdaaQFnLeadTripsx6
import Derived.Test.YtldgjibimolcdaaQFnLeadTripsx8
import Derived.Test.YtldgjibimolcdaaQFnLeadTripsx10
import Derived.Test.YtldgjibimolcdaaQFnLeadTripsx11
import Derived.Test.YtldgjibimolcdaaQFnLeadTripsx12
import Derived.Test.YtldgjibimolcdaaQFnLeadTripsx13
namespace Go.Proofs.Ytldgjibimolcdaa.QFnLeadTrips
open Go.RowKit Go.Proofs.YtldgjibimolcdaaW.PrintWords Go.Proofs.YtldgjibimolcdaaW.PrintLast Go.Proofs.YtldgjibimolcdaaW.PrintMore
attribute [local go_sem] max2_int min2_int max_two min_two max_three min_three max_four min_four   -- for this text's walks alone
set_option linter.unusedVariables false
set_option linter.unusedSimpArgs false

/-! ### laws_FnLeadTrips: function 11 -/
mutual
def laws_FnLeadTrips.j0 : Nat → List Int → List (S25) → List Int → Bool → Option (Bool)
 | 0, _, _, _, _ => none
 | k + 1, x0, x3, x6, x70 => if x70 = true then (some false) else ((impl_RankLeads.f k x3).bind fun bt482 => ((spec_RankLeads.f k x3).bind fun bt486 => (if (bt482.2 != bt486.2) = true then (laws_FnLeadTrips.j1 k x0 x3 x6 bt482.1 true) else ((laws_rInts.f k bt482.1 bt486.1).bind fun t490 => (laws_FnLeadTrips.j1 k x0 x3 x6 bt482.1 (!t490))))))
def laws_FnLeadTrips.j1 : Nat → List Int → List (S25) → List Int → List Int → Bool → Option (Bool)
 | 0, _, _, _, _, _ => none
 | k + 1, x0, x3, x6, x10, x89 => if x89 = true then (some false) else (laws_FnLeadTrips.l0 k x0 x3 x6 x10 0 0)
def laws_FnLeadTrips.l0 : Nat → List Int → List (S25) → List Int → List Int → Int → Int → Option (Bool)
 | 0, _, _, _, _, _, _ => none
 | k + 1, x0, x3, x6, x10, x14, x15 => if x15 < (x6.length : Int) then (laws_FnLeadTrips.l1 k x0 x3 x6 x10 x14 x15) else ((impl_BestLead.f k x3).bind fun bt493 => ((spec_BestLead.f k x3).bind fun bt495 => (if bt493.1 = bt495.1 then (if (bt493.2 != bt495.2) = true then (laws_FnLeadTrips.j4 k x0 x3 x10 bt493.1 bt493.2 true) else (if (bt493.2 != (decide ((x10.length : Int) > 0))) = true then (laws_FnLeadTrips.j4 k x0 x3 x10 bt493.1 bt493.2 true) else (if bt493.2 = true then (if 0 < (x10.length : Int) then (laws_FnLeadTrips.j4 k x0 x3 x10 bt493.1 bt493.2 (bt493.1 != (rd x10 0))) else (none)) else (laws_FnLeadTrips.j4 k x0 x3 x10 bt493.1 bt493.2 false)))) else (laws_FnLeadTrips.j4 k x0 x3 x10 bt493.1 bt493.2 true))))
def laws_FnLeadTrips.l1 : Nat → List Int → List (S25) → List Int → List Int → Int → Int → Option (Bool)
 | 0, _, _, _, _, _, _ => none
 | k + 1, x0, x3, x6, x10, x14, x15 => if x14 < (x10.length : Int) then (if 0 ≤ x14 then (if 0 ≤ x15 then (if x15 < (x6.length : Int) then (if (rd x10 x14) = (rd x6 x15) then (if x14 = (x10.length : Int) then (some false) else (laws_FnLeadTrips.l0 k x0 x3 x6 x10 x14 (wrap64 (x15 + 1)))) else (laws_FnLeadTrips.l1 k x0 x3 x6 x10 (wrap64 (x14 + 1)) x15)) else (none)) else (none)) else (none)) else (if x14 = (x10.length : Int) then (some false) else (laws_FnLeadTrips.l0 k x0 x3 x6 x10 x14 (wrap64 (x15 + 1))))
def laws_FnLeadTrips.j4 : Nat → List Int → List (S25) → List Int → Int → Bool → Bool → Option (Bool)
 | 0, _, _, _, _, _, _ => none
 | k + 1, x0, x3, x10, x16, x17, x151 => if x151 = true then (some false) else (if x17 = true then ((impl_ChangeLead.f k x3 x16 1).bind fun bt498 => ((impl_RankLeads.f k bt498.1).bind fun bt502 => (if bt498.2 = true then (if bt502.2 = true then ((laws_rHas.f k bt502.1 x16).bind fun t506 => (if t506 = true then (some false) else (if (bt502.1.length : Int) = (wrap64 ((x10.length : Int) - 1)) then (laws_FnLeadTrips.j5 k x0) else (some false)))) else (some false)) else (some false)))) else (laws_FnLeadTrips.j5 k x0))
def laws_FnLeadTrips.j5 : Nat → List Int → Option (Bool)
 | 0, _ => none
 | k + 1, x0 => (spec_DrawChangeLead.f k x0).bind fun bt507 => ((impl_ChangeLead.f k bt507.1 bt507.2.1 bt507.2.2).bind fun bt512 => ((spec_ChangeLead.f k bt507.1 bt507.2.1 bt507.2.2).bind fun bt516 => (if (bt512.2 == bt516.2) = true then ((laws_rLeads.f k bt512.1 bt516.1).bind fun t520 => (some t520)) else (some false))))
end
def laws_FnLeadTrips.f (k : Nat) (l0 : List Int) : Option (Bool) := (laws_rBig.f l0).bind fun t467 => (if t467 = true then (some true) else ((spec_DrawTripFor.f k l0).bind fun bt468 => ((impl_TripFor.f k bt468.1 bt468.2.1 bt468.2.2).bind fun bt473 => ((spec_TripFor.f k bt468.1 bt468.2.1 bt468.2.2).bind fun bt477 => (if (bt473.2 != bt477.2) = true then (laws_FnLeadTrips.j0 k l0 bt468.1 bt473.1 true) else ((laws_rInts.f k bt473.1 bt477.1).bind fun t481 => (if t481 = true then (if bt473.2 = true then (laws_FnLeadTrips.j0 k l0 bt468.1 bt473.1 (decide ((bt473.1.length : Int) > bt468.2.2))) else (laws_FnLeadTrips.j0 k l0 bt468.1 bt473.1 false)) else (laws_FnLeadTrips.j0 k l0 bt468.1 bt473.1 true))))))))
theorem laws_FnLeadTrips.mono_l : ∀ k, (∀ y0 y1 y2 y3, LeO (laws_FnLeadTrips.j0 k y0 y1 y2 y3) (laws_FnLeadTrips.j0 (k + 1) y0 y1 y2 y3)) ∧ (∀ y0 y1 y2 y3 y4, LeO (laws_FnLeadTrips.j1 k y0 y1 y2 y3 y4) (laws_FnLeadTrips.j1 (k + 1) y0 y1 y2 y3 y4)) ∧ (∀ y0 y1 y2 y3 y4 y5, LeO (laws_FnLeadTrips.l0 k y0 y1 y2 y3 y4 y5) (laws_FnLeadTrips.l0 (k + 1) y0 y1 y2 y3 y4 y5)) ∧ (∀ y0 y1 y2 y3 y4 y5, LeO (laws_FnLeadTrips.l1 k y0 y1 y2 y3 y4 y5) (laws_FnLeadTrips.l1 (k + 1) y0 y1 y2 y3 y4 y5)) ∧ (∀ y0 y1 y2 y3 y4 y5, LeO (laws_FnLeadTrips.j4 k y0 y1 y2 y3 y4 y5) (laws_FnLeadTrips.j4 (k + 1) y0 y1 y2 y3 y4 y5)) ∧ (∀ y0, LeO (laws_FnLeadTrips.j5 k y0) (laws_FnLeadTrips.j5 (k + 1) y0))
 | 0 => ⟨fun _ _ _ _ r h => by simp [laws_FnLeadTrips.j0] at h, fun _ _ _ _ _ r h => by simp [laws_FnLeadTrips.j1] at h, fun _ _ _ _ _ _ r h => by simp [laws_FnLeadTrips.l0] at h, fun _ _ _ _ _ _ r h => by simp [laws_FnLeadTrips.l1] at h, fun _ _ _ _ _ _ r h => by simp [laws_FnLeadTrips.j4] at h, fun _ r h => by simp [laws_FnLeadTrips.j5] at h⟩
 | k + 1 => by
  obtain ⟨ih0, ih1, ih2, ih3, ih4, ih5⟩ := laws_FnLeadTrips.mono_l k
  refine ⟨?_, ?_, ?_, ?_, ?_, ?_⟩
  ·intro y0 y1 y2 y3
   unfold laws_FnLeadTrips.j0
   repeat' with_reducible first | apply ih0 | apply ih1 | apply ih2 | apply ih3 | apply ih4 | apply ih5 | apply impl_BestLead.mono | apply impl_ChangeLead.mono | apply impl_RankLeads.mono | apply impl_TripFor.mono | apply laws_rHas.mono | apply laws_rInts.mono | apply laws_rLeads.mono | apply spec_BestLead.mono | apply spec_ChangeLead.mono | apply spec_DrawChangeLead.mono | apply spec_DrawTripFor.mono | apply spec_RankLeads.mono | apply spec_TripFor.mono | exact LeO.refl _ | exact LeO.none _ | refine LeO.ite ?_ ?_ | refine LeO.bind ?_ (fun _ => ?_)
  ·intro y0 y1 y2 y3 y4
   unfold laws_FnLeadTrips.j1
   repeat' with_reducible first | apply ih0 | apply ih1 | apply ih2 | apply ih3 | apply ih4 | apply ih5 | apply impl_BestLead.mono | apply impl_ChangeLead.mono | apply impl_RankLeads.mono | apply impl_TripFor.mono | apply laws_rHas.mono | apply laws_rInts.mono | apply laws_rLeads.mono | apply spec_BestLead.mono | apply spec_ChangeLead.mono | apply spec_DrawChangeLead.mono | apply spec_DrawTripFor.mono | apply spec_RankLeads.mono | apply spec_TripFor.mono | exact LeO.refl _ | exact LeO.none _ | refine LeO.ite ?_ ?_ | refine LeO.bind ?_ (fun _ => ?_)
  ·intro y0 y1 y2 y3 y4 y5
   unfold laws_FnLeadTrips.l0
   repeat' with_reducible first | apply ih0 | apply ih1 | apply ih2 | apply ih3 | apply ih4 | apply ih5 | apply impl_BestLead.mono | apply impl_ChangeLead.mono | apply impl_RankLeads.mono | apply impl_TripFor.mono | apply laws_rHas.mono | apply laws_rInts.mono | apply laws_rLeads.mono | apply spec_BestLead.mono | apply spec_ChangeLead.mono | apply spec_DrawChangeLead.mono | apply spec_DrawTripFor.mono | apply spec_RankLeads.mono | apply spec_TripFor.mono | exact LeO.refl _ | exact LeO.none _ | refine LeO.ite ?_ ?_ | refine LeO.bind ?_ (fun _ => ?_)
  ·intro y0 y1 y2 y3 y4 y5
   unfold laws_FnLeadTrips.l1
   repeat' with_reducible first | apply ih0 | apply ih1 | apply ih2 | apply ih3 | apply ih4 | apply ih5 | apply impl_BestLead.mono | apply impl_ChangeLead.mono | apply impl_RankLeads.mono | apply impl_TripFor.mono | apply laws_rHas.mono | apply laws_rInts.mono | apply laws_rLeads.mono | apply spec_BestLead.mono | apply spec_ChangeLead.mono | apply spec_DrawChangeLead.mono | apply spec_DrawTripFor.mono | apply spec_RankLeads.mono | apply spec_TripFor.mono | exact LeO.refl _ | exact LeO.none _ | refine LeO.ite ?_ ?_ | refine LeO.bind ?_ (fun _ => ?_)
  ·intro y0 y1 y2 y3 y4 y5
   unfold laws_FnLeadTrips.j4
   repeat' with_reducible first | apply ih0 | apply ih1 | apply ih2 | apply ih3 | apply ih4 | apply ih5 | apply impl_BestLead.mono | apply impl_ChangeLead.mono | apply impl_RankLeads.mono | apply impl_TripFor.mono | apply laws_rHas.mono | apply laws_rInts.mono | apply laws_rLeads.mono | apply spec_BestLead.mono | apply spec_ChangeLead.mono | apply spec_DrawChangeLead.mono | apply spec_DrawTripFor.mono | apply spec_RankLeads.mono | apply spec_TripFor.mono | exact LeO.refl _ | exact LeO.none _ | refine LeO.ite ?_ ?_ | refine LeO.bind ?_ (fun _ => ?_)
  ·intro y0
   unfold laws_FnLeadTrips.j5
   repeat' with_reducible first | apply ih0 | apply ih1 | apply ih2 | apply ih3 | apply ih4 | apply ih5 | apply impl_BestLead.mono | apply impl_ChangeLead.mono | apply impl_RankLeads.mono | apply impl_TripFor.mono | apply laws_rHas.mono | apply laws_rInts.mono | apply laws_rLeads.mono | apply spec_BestLead.mono | apply spec_ChangeLead.mono | apply spec_DrawChangeLead.mono | apply spec_DrawTripFor.mono | apply spec_RankLeads.mono | apply spec_TripFor.mono | exact LeO.refl _ | exact LeO.none _ | refine LeO.ite ?_ ?_ | refine LeO.bind ?_ (fun _ => ?_)
theorem laws_FnLeadTrips.mono : ∀ a0 k, LeO (laws_FnLeadTrips.f k a0) (laws_FnLeadTrips.f (k + 1) a0) := by
 intro a0 k
 obtain ⟨ih0, ih1, ih2, ih3, ih4, ih5⟩ := laws_FnLeadTrips.mono_l k
 unfold laws_FnLeadTrips.f
 repeat' with_reducible first | apply ih0 | apply ih1 | apply ih2 | apply ih3 | apply ih4 | apply ih5 | apply impl_BestLead.mono | apply impl_ChangeLead.mono | apply impl_RankLeads.mono | apply impl_TripFor.mono | apply laws_rHas.mono | apply laws_rInts.mono | apply laws_rLeads.mono | apply spec_BestLead.mono | apply spec_ChangeLead.mono | apply spec_DrawChangeLead.mono | apply spec_DrawTripFor.mono | apply spec_RankLeads.mono | apply spec_TripFor.mono | exact LeO.refl _ | exact LeO.none _ | refine LeO.ite ?_ ?_ | refine LeO.bind ?_ (fun _ => ?_)
set_option maxHeartbeats 8000000 in
set_option maxRecDepth 100000 in
theorem laws_FnLeadTrips.calls (k : Nat) (A0 : Option Addr) (c0 : Nat) (l0 : List Int) (r : Bool) (w : World) (hr0 : Kd.C (Kd.int .u8) w A0 l0.length l0) (hc0 : l0.length ≤ c0) (h : laws_FnLeadTrips.f k l0 = some r) (hT : r = true) :
  Calls Try.prog 11 #[.slice A0 l0.length c0] w fun e w' => e = .returned (.bool r) ∧ Below w.heap.size w w' := by
 have HR0 := Aside0.mk hr0
 have HC0 := Aside0.mk hc0
 clear hr0 hc0
 have HB := Aside0.mk (Below.refl w.heap.size w)
 have H := h
 clear h
 unfold laws_FnLeadTrips.f at H
 replace H := bA H
 obtain ⟨t467, A2, H⟩ := H
 rcases Bool.eq_false_or_eq_true t467 with rfl | rfl
 ·replace H := iT rfl H
  obtain rfl := (Option.some.inj H)
  go_enter Try.func11, Try.ntmps11
  go_wp2_with (first | (go_at_call 37; (with_reducible refine (laws_rBig.calls _ _ l0 true _ ?side1 ?side2 A2.out).mono ?_); (case side1 => repeat (first | exact HR0.out | (with_reducible refine Kd.C_alloc ?_ _) | (with_reducible refine Kd.C_drewN ?_ _) | (with_reducible refine Kd.C_drew ?_))); (case side2 => exact HC0.out); rintro e w' ⟨rfl, ⟨nd, rfl⟩⟩; (try first | exact ⟨rfl, _, World.drewN_drewN _ _ _⟩ | exact ⟨rfl, _, Eq.trans (World.drewN_drewN _ _ _) (congrArg (World.drewN _) (Nat.add_assoc _ _ _))⟩)))
  repeat (go_quiet (first | (go_at_call 37; (with_reducible refine (laws_rBig.calls _ _ l0 true _ ?side1 ?side2 A2.out).mono ?_); (case side1 => repeat (first | exact HR0.out | (with_reducible refine Kd.C_alloc ?_ _) | (with_reducible refine Kd.C_drewN ?_ _) | (with_reducible refine Kd.C_drew ?_))); (case side2 => exact HC0.out); rintro e w' ⟨rfl, ⟨nd, rfl⟩⟩; (try first | exact ⟨rfl, _, World.drewN_drewN _ _ _⟩ | exact ⟨rfl, _, Eq.trans (World.drewN_drewN _ _ _) (congrArg (World.drewN _) (Nat.add_assoc _ _ _))⟩))); try go_wp2_with (first | (go_at_call 37; (with_reducible refine (laws_rBig.calls _ _ l0 true _ ?side1 ?side2 A2.out).mono ?_); (case side1 => repeat (first | exact HR0.out | (with_reducible refine Kd.C_alloc ?_ _) | (with_reducible refine Kd.C_drewN ?_ _) | (with_reducible refine Kd.C_drew ?_))); (case side2 => exact HC0.out); rintro e w' ⟨rfl, ⟨nd, rfl⟩⟩; (try first | exact ⟨rfl, _, World.drewN_drewN _ _ _⟩ | exact ⟨rfl, _, Eq.trans (World.drewN_drewN _ _ _) (congrArg (World.drewN _) (Nat.add_assoc _ _ _))⟩))))
  go_ret
  exact ⟨eB, (bW HB)⟩
 ·replace H := iF (by decide) H
  replace H := Option.bind_eq_some_iff.mp H
  obtain ⟨⟨t468, t469, t470⟩, A40, H⟩ := H
  replace H : ((impl_TripFor.f k t468 t469 t470).bind fun bt473 => ((spec_TripFor.f k t468 t469 t470).bind fun bt477 => (if (bt473.2 != bt477.2) = true then (laws_FnLeadTrips.j0 k l0 t468 bt473.1 true) else ((laws_rInts.f k bt473.1 bt477.1).bind fun t481 => (if t481 = true then (if bt473.2 = true then (laws_FnLeadTrips.j0 k l0 t468 bt473.1 (decide ((bt473.1.length : Int) > t470))) else (laws_FnLeadTrips.j0 k l0 t468 bt473.1 false)) else (laws_FnLeadTrips.j0 k l0 t468 bt473.1 true)))))) = some r := H
  have A4 := Aside0.mk A40
  clear A40
  replace H := Option.bind_eq_some_iff.mp H
  obtain ⟨⟨t473, t474⟩, A50, H⟩ := H
  replace H : ((spec_TripFor.f k t468 t469 t470).bind fun bt477 => (if (t474 != bt477.2) = true then (laws_FnLeadTrips.j0 k l0 t468 t473 true) else ((laws_rInts.f k t473 bt477.1).bind fun t481 => (if t481 = true then (if t474 = true then (laws_FnLeadTrips.j0 k l0 t468 t473 (decide ((t473.length : Int) > t470))) else (laws_FnLeadTrips.j0 k l0 t468 t473 false)) else (laws_FnLeadTrips.j0 k l0 t468 t473 true))))) = some r := H
  have A5 := Aside0.mk A50
  clear A50
  replace H := Option.bind_eq_some_iff.mp H
  obtain ⟨⟨t477, t478⟩, A60, H⟩ := H
  replace H : (if (t474 != t478) = true then (laws_FnLeadTrips.j0 k l0 t468 t473 true) else ((laws_rInts.f k t473 t477).bind fun t481 => (if t481 = true then (if t474 = true then (laws_FnLeadTrips.j0 k l0 t468 t473 (decide ((t473.length : Int) > t470))) else (laws_FnLeadTrips.j0 k l0 t468 t473 false)) else (laws_FnLeadTrips.j0 k l0 t468 t473 true)))) = some r := H
  have A6 := Aside0.mk A60
  clear A60
  have HC7 := Aside0.mk H
  clear H
  go_enter Try.func11, Try.ntmps11
  go_upto_region 6 with (first | (go_at_call 37; (with_reducible refine (laws_rBig.calls _ _ l0 false _ ?side1 ?side2 A2.out).mono ?_); (case side1 => repeat (first | exact HR0.out | (with_reducible refine Kd.C_alloc ?_ _) | (with_reducible refine Kd.C_drewN ?_ _) | (with_reducible refine Kd.C_drew ?_))); (case side2 => exact HC0.out); rintro e w' ⟨rfl, ⟨nd, rfl⟩⟩; (try first | exact ⟨rfl, _, World.drewN_drewN _ _ _⟩ | exact ⟨rfl, _, Eq.trans (World.drewN_drewN _ _ _) (congrArg (World.drewN _) (Nat.add_assoc _ _ _))⟩)) | (go_at_call 38; (with_reducible refine (spec_DrawTripFor.calls k _ _ l0 t468 t469 t470 _ ?side1 ?side2 A4.out).mono ?_); (case side1 => repeat (first | exact HR0.out | (with_reducible refine Kd.C_alloc ?_ _) | (with_reducible refine Kd.C_drewN ?_ _) | (with_reducible refine Kd.C_drew ?_))); (case side2 => exact HC0.out); rintro e w8 ⟨v471, rfl, ho0, hb⟩; have HO472 := Aside0.mk (Kd.R_lower ho0 (below_size (bW HB))); replace HB := uB HB hb; (try clear hb); (try clear hk); (try clear ho0); obtain ⟨Ao9, co9, eo9⟩ := Kd.R_slice HO472.out; subst eo9) | (go_at_call 36; (with_reducible refine (impl_TripFor.calls k _ _ t468 t469 t470 t473 t474 _ ?side1 ?side2 A5.out).mono ?_); (case side1 => repeat (first | exact (Kd.R_reads' HO472.out).2.2 | (with_reducible refine Kd.C_alloc ?_ _) | (with_reducible refine Kd.C_drewN ?_ _) | (with_reducible refine Kd.C_drew ?_))); (case side2 => exact (Kd.R_reads' HO472.out).2.1); rintro e w10 ⟨v475, rfl, ho0, hb⟩; have HO476 := Aside0.mk (Kd.R_lower ho0 (below_size (bW HB))); replace HO472 := uR HO472 hb; replace HB := uB HB hb; (try clear hb); (try clear hk); (try clear ho0)) | (go_at_call 35; (with_reducible refine (spec_TripFor.calls k _ _ t468 t469 t470 t477 t478 _ ?side1 ?side2 A6.out).mono ?_); (case side1 => repeat (first | exact (Kd.R_reads' HO472.out).2.2 | (with_reducible refine Kd.C_alloc ?_ _) | (with_reducible refine Kd.C_drewN ?_ _) | (with_reducible refine Kd.C_drew ?_))); (case side2 => exact (Kd.R_reads' HO472.out).2.1); rintro e w11 ⟨v479, rfl, ho0, hb⟩; have HO480 := Aside0.mk (Kd.R_lower (Kd.R_new' ho0 (Kd.R_lt (upR HO476.out))) (below_size (bW HB))); replace HO472 := uR HO472 hb; replace HO476 := Aside0.mk (Kd.R_elder' (upR HO476.out) (Kd.R_base ho0) hb); replace HB := uB HB hb; (try clear hb); (try clear hk); (try clear ho0)))
  repeat (go_quiet (first | (go_at_call 37; (with_reducible refine (laws_rBig.calls _ _ l0 false _ ?side1 ?side2 A2.out).mono ?_); (case side1 => repeat (first | exact HR0.out | (with_reducible refine Kd.C_alloc ?_ _) | (with_reducible refine Kd.C_drewN ?_ _) | (with_reducible refine Kd.C_drew ?_))); (case side2 => exact HC0.out); rintro e w' ⟨rfl, ⟨nd, rfl⟩⟩; (try first | exact ⟨rfl, _, World.drewN_drewN _ _ _⟩ | exact ⟨rfl, _, Eq.trans (World.drewN_drewN _ _ _) (congrArg (World.drewN _) (Nat.add_assoc _ _ _))⟩)) | (go_at_call 38; (with_reducible refine (spec_DrawTripFor.calls k _ _ l0 t468 t469 t470 _ ?side1 ?side2 A4.out).mono ?_); (case side1 => repeat (first | exact HR0.out | (with_reducible refine Kd.C_alloc ?_ _) | (with_reducible refine Kd.C_drewN ?_ _) | (with_reducible refine Kd.C_drew ?_))); (case side2 => exact HC0.out); rintro e w8 ⟨v471, rfl, ho0, hb⟩; have HO472 := Aside0.mk (Kd.R_lower ho0 (below_size (bW HB))); replace HB := uB HB hb; (try clear hb); (try clear hk); (try clear ho0); obtain ⟨Ao9, co9, eo9⟩ := Kd.R_slice HO472.out; subst eo9) | (go_at_call 36; (with_reducible refine (impl_TripFor.calls k _ _ t468 t469 t470 t473 t474 _ ?side1 ?side2 A5.out).mono ?_); (case side1 => repeat (first | exact (Kd.R_reads' HO472.out).2.2 | (with_reducible refine Kd.C_alloc ?_ _) | (with_reducible refine Kd.C_drewN ?_ _) | (with_reducible refine Kd.C_drew ?_))); (case side2 => exact (Kd.R_reads' HO472.out).2.1); rintro e w10 ⟨v475, rfl, ho0, hb⟩; have HO476 := Aside0.mk (Kd.R_lower ho0 (below_size (bW HB))); replace HO472 := uR HO472 hb; replace HB := uB HB hb; (try clear hb); (try clear hk); (try clear ho0)) | (go_at_call 35; (with_reducible refine (spec_TripFor.calls k _ _ t468 t469 t470 t477 t478 _ ?side1 ?side2 A6.out).mono ?_); (case side1 => repeat (first | exact (Kd.R_reads' HO472.out).2.2 | (with_reducible refine Kd.C_alloc ?_ _) | (with_reducible refine Kd.C_drewN ?_ _) | (with_reducible refine Kd.C_drew ?_))); (case side2 => exact (Kd.R_reads' HO472.out).2.1); rintro e w11 ⟨v479, rfl, ho0, hb⟩; have HO480 := Aside0.mk (Kd.R_lower (Kd.R_new' ho0 (Kd.R_lt (upR HO476.out))) (below_size (bW HB))); replace HO472 := uR HO472 hb; replace HO476 := Aside0.mk (Kd.R_elder' (upR HO476.out) (Kd.R_base ho0) hb); replace HB := uB HB hb; (try clear hb); (try clear hk); (try clear ho0))); go_upto_region 6 with (first | (go_at_call 37; (with_reducible refine (laws_rBig.calls _ _ l0 false _ ?side1 ?side2 A2.out).mono ?_); (case side1 => repeat (first | exact HR0.out | (with_reducible refine Kd.C_alloc ?_ _) | (with_reducible refine Kd.C_drewN ?_ _) | (with_reducible refine Kd.C_drew ?_))); (case side2 => exact HC0.out); rintro e w' ⟨rfl, ⟨nd, rfl⟩⟩; (try first | exact ⟨rfl, _, World.drewN_drewN _ _ _⟩ | exact ⟨rfl, _, Eq.trans (World.drewN_drewN _ _ _) (congrArg (World.drewN _) (Nat.add_assoc _ _ _))⟩)) | (go_at_call 38; (with_reducible refine (spec_DrawTripFor.calls k _ _ l0 t468 t469 t470 _ ?side1 ?side2 A4.out).mono ?_); (case side1 => repeat (first | exact HR0.out | (with_reducible refine Kd.C_alloc ?_ _) | (with_reducible refine Kd.C_drewN ?_ _) | (with_reducible refine Kd.C_drew ?_))); (case side2 => exact HC0.out); rintro e w8 ⟨v471, rfl, ho0, hb⟩; have HO472 := Aside0.mk (Kd.R_lower ho0 (below_size (bW HB))); replace HB := uB HB hb; (try clear hb); (try clear hk); (try clear ho0); obtain ⟨Ao9, co9, eo9⟩ := Kd.R_slice HO472.out; subst eo9) | (go_at_call 36; (with_reducible refine (impl_TripFor.calls k _ _ t468 t469 t470 t473 t474 _ ?side1 ?side2 A5.out).mono ?_); (case side1 => repeat (first | exact (Kd.R_reads' HO472.out).2.2 | (with_reducible refine Kd.C_alloc ?_ _) | (with_reducible refine Kd.C_drewN ?_ _) | (with_reducible refine Kd.C_drew ?_))); (case side2 => exact (Kd.R_reads' HO472.out).2.1); rintro e w10 ⟨v475, rfl, ho0, hb⟩; have HO476 := Aside0.mk (Kd.R_lower ho0 (below_size (bW HB))); replace HO472 := uR HO472 hb; replace HB := uB HB hb; (try clear hb); (try clear hk); (try clear ho0)) | (go_at_call 35; (with_reducible refine (spec_TripFor.calls k _ _ t468 t469 t470 t477 t478 _ ?side1 ?side2 A6.out).mono ?_); (case side1 => repeat (first | exact (Kd.R_reads' HO472.out).2.2 | (with_reducible refine Kd.C_alloc ?_ _) | (with_reducible refine Kd.C_drewN ?_ _) | (with_reducible refine Kd.C_drew ?_))); (case side2 => exact (Kd.R_reads' HO472.out).2.1); rintro e w11 ⟨v479, rfl, ho0, hb⟩; have HO480 := Aside0.mk (Kd.R_lower (Kd.R_new' ho0 (Kd.R_lt (upR HO476.out))) (below_size (bW HB))); replace HO472 := uR HO472 hb; replace HO476 := Aside0.mk (Kd.R_elder' (upR HO476.out) (Kd.R_base ho0) hb); replace HB := uB HB hb; (try clear hb); (try clear hk); (try clear ho0))))
  (try simp only [Act.put, List.setIfInBounds_toArray, List.set_cons_zero, List.set_cons_succ])
  go_cut [70] (fun v70 wc => ∃ (kq : Nat) (x70_6 : Bool), v70 = .bool x70_6 ∧ Aside0 (laws_FnLeadTrips.j0 kq l0 t468 t473 x70_6 = some r) ∧ Aside0 (kq ≤ k) ∧ Aside0 (Kd.R k25 25 wc w.heap.size (fun _ => True) (.slice Ao9 t468.length co9) t468) ∧ Aside0 (Kd.R (Kd.int .i64) 3 wc w.heap.size (fun _ => True) v475 t473) ∧ Aside0 (Below w.heap.size w wc))
  case first =>
   have H := HC7.out
   clear HC7
   by_cases c12 : (t474 != t478) = true
   ·rw [if_pos c12] at H
    have c12b0 : (t474 != t478) = true := c12
    (try (have c12b1 : decide (t474 = t478) = false := by simpa using c12))
    (try (have c12b2 : (t474 == t478) = false := by simpa using c12))
    (try (have c12b3 : ¬ (t474 = t478) := by simpa using c12))
    clear c12
    (first | rw [c12b0] | (simp only [i64_w, i32_w]; rw [c12b0]) | skip)
    have H' := Aside0.mk H
    clear H
    go_wp2
    repeat (go_quiet (fail); try go_wp2)
    go_meet
    case rel => exact ⟨_, (true), rB, H', leB, ⟨upR HO472.out⟩, ⟨by (with_reducible repeat (first | apply Kd.R_alloc | apply Kd.R_drewN | apply Kd.R_drew)); exact Kd.R_mono HO476.out (fun _ hk => trivial)⟩, (aB HB)⟩
   ·rw [if_neg c12] at H
    have c12b0 : (t474 != t478) = false := by simpa using c12
    (try (have c12b1 : decide (t474 = t478) = true := by simpa using c12))
    (try (have c12b2 : (t474 == t478) = true := by simpa using c12))
    clear c12
    (first | rw [c12b0] | (simp only [i64_w, i32_w]; rw [c12b0]) | skip)
    replace H := bA H
    obtain ⟨t481, A13, H⟩ := H
    rcases Bool.eq_false_or_eq_true t481 with rfl | rfl
    ·replace H := iT rfl H
     rcases Bool.eq_false_or_eq_true t474 with rfl | rfl
     ·replace H := iT rfl H
      have H' := Aside0.mk H
      clear H
      obtain ⟨Ao16, co16, eo16⟩ := Kd.R_slice HO476.out
      subst eo16
      obtain ⟨Ao17, co17, eo17⟩ := Kd.R_slice HO480.out
      subst eo17
      go_wp2_with (first | (go_at_call 39; (with_reducible refine (laws_rInts.calls k _ _ t473 _ _ t477 true _ ?side1 ?side2 ?side3 ?side4 A13.out).mono ?_); (case side1 => repeat (first | exact (Kd.R_reads' HO476.out).2.2 | (with_reducible refine Kd.C_alloc ?_ _) | (with_reducible refine Kd.C_drewN ?_ _) | (with_reducible refine Kd.C_drew ?_))); (case side2 => exact (Kd.R_reads' HO476.out).2.1); (case side3 => repeat (first | exact (Kd.R_reads' HO480.out).2.2 | (with_reducible refine Kd.C_alloc ?_ _) | (with_reducible refine Kd.C_drewN ?_ _) | (with_reducible refine Kd.C_drew ?_))); (case side4 => exact (Kd.R_reads' HO480.out).2.1); rintro e w' ⟨rfl, ⟨nd, rfl⟩⟩; (try first | exact ⟨rfl, _, World.drewN_drewN _ _ _⟩ | exact ⟨rfl, _, Eq.trans (World.drewN_drewN _ _ _) (congrArg (World.drewN _) (Nat.add_assoc _ _ _))⟩)))
      repeat (go_quiet (first | (go_at_call 39; (with_reducible refine (laws_rInts.calls k _ _ t473 _ _ t477 true _ ?side1 ?side2 ?side3 ?side4 A13.out).mono ?_); (case side1 => repeat (first | exact (Kd.R_reads' HO476.out).2.2 | (with_reducible refine Kd.C_alloc ?_ _) | (with_reducible refine Kd.C_drewN ?_ _) | (with_reducible refine Kd.C_drew ?_))); (case side2 => exact (Kd.R_reads' HO476.out).2.1); (case side3 => repeat (first | exact (Kd.R_reads' HO480.out).2.2 | (with_reducible refine Kd.C_alloc ?_ _) | (with_reducible refine Kd.C_drewN ?_ _) | (with_reducible refine Kd.C_drew ?_))); (case side4 => exact (Kd.R_reads' HO480.out).2.1); rintro e w' ⟨rfl, ⟨nd, rfl⟩⟩; (try first | exact ⟨rfl, _, World.drewN_drewN _ _ _⟩ | exact ⟨rfl, _, Eq.trans (World.drewN_drewN _ _ _) (congrArg (World.drewN _) (Nat.add_assoc _ _ _))⟩))); try go_wp2_with (first | (go_at_call 39; (with_reducible refine (laws_rInts.calls k _ _ t473 _ _ t477 true _ ?side1 ?side2 ?side3 ?side4 A13.out).mono ?_); (case side1 => repeat (first | exact (Kd.R_reads' HO476.out).2.2 | (with_reducible refine Kd.C_alloc ?_ _) | (with_reducible refine Kd.C_drewN ?_ _) | (with_reducible refine Kd.C_drew ?_))); (case side2 => exact (Kd.R_reads' HO476.out).2.1); (case side3 => repeat (first | exact (Kd.R_reads' HO480.out).2.2 | (with_reducible refine Kd.C_alloc ?_ _) | (with_reducible refine Kd.C_drewN ?_ _) | (with_reducible refine Kd.C_drew ?_))); (case side4 => exact (Kd.R_reads' HO480.out).2.1); rintro e w' ⟨rfl, ⟨nd, rfl⟩⟩; (try first | exact ⟨rfl, _, World.drewN_drewN _ _ _⟩ | exact ⟨rfl, _, Eq.trans (World.drewN_drewN _ _ _) (congrArg (World.drewN _) (Nat.add_assoc _ _ _))⟩))))
      go_meet
      case rel => exact ⟨_, (decide ((t473.length : Int) > t470)), rB, H', leB, ⟨upR HO472.out⟩, ⟨by (with_reducible repeat (first | apply Kd.R_alloc | apply Kd.R_drewN | apply Kd.R_drew)); exact Kd.R_mono HO476.out (fun _ hk => trivial)⟩, (aB HB)⟩
     ·replace H := iF (by decide) H
      have H' := Aside0.mk H
      clear H
      obtain ⟨Ao18, co18, eo18⟩ := Kd.R_slice HO476.out
      subst eo18
      obtain ⟨Ao19, co19, eo19⟩ := Kd.R_slice HO480.out
      subst eo19
      go_wp2_with (first | (go_at_call 39; (with_reducible refine (laws_rInts.calls k _ _ t473 _ _ t477 true _ ?side1 ?side2 ?side3 ?side4 A13.out).mono ?_); (case side1 => repeat (first | exact (Kd.R_reads' HO476.out).2.2 | (with_reducible refine Kd.C_alloc ?_ _) | (with_reducible refine Kd.C_drewN ?_ _) | (with_reducible refine Kd.C_drew ?_))); (case side2 => exact (Kd.R_reads' HO476.out).2.1); (case side3 => repeat (first | exact (Kd.R_reads' HO480.out).2.2 | (with_reducible refine Kd.C_alloc ?_ _) | (with_reducible refine Kd.C_drewN ?_ _) | (with_reducible refine Kd.C_drew ?_))); (case side4 => exact (Kd.R_reads' HO480.out).2.1); rintro e w' ⟨rfl, ⟨nd, rfl⟩⟩; (try first | exact ⟨rfl, _, World.drewN_drewN _ _ _⟩ | exact ⟨rfl, _, Eq.trans (World.drewN_drewN _ _ _) (congrArg (World.drewN _) (Nat.add_assoc _ _ _))⟩)))
      repeat (go_quiet (first | (go_at_call 39; (with_reducible refine (laws_rInts.calls k _ _ t473 _ _ t477 true _ ?side1 ?side2 ?side3 ?side4 A13.out).mono ?_); (case side1 => repeat (first | exact (Kd.R_reads' HO476.out).2.2 | (with_reducible refine Kd.C_alloc ?_ _) | (with_reducible refine Kd.C_drewN ?_ _) | (with_reducible refine Kd.C_drew ?_))); (case side2 => exact (Kd.R_reads' HO476.out).2.1); (case side3 => repeat (first | exact (Kd.R_reads' HO480.out).2.2 | (with_reducible refine Kd.C_alloc ?_ _) | (with_reducible refine Kd.C_drewN ?_ _) | (with_reducible refine Kd.C_drew ?_))); (case side4 => exact (Kd.R_reads' HO480.out).2.1); rintro e w' ⟨rfl, ⟨nd, rfl⟩⟩; (try first | exact ⟨rfl, _, World.drewN_drewN _ _ _⟩ | exact ⟨rfl, _, Eq.trans (World.drewN_drewN _ _ _) (congrArg (World.drewN _) (Nat.add_assoc _ _ _))⟩))); try go_wp2_with (first | (go_at_call 39; (with_reducible refine (laws_rInts.calls k _ _ t473 _ _ t477 true _ ?side1 ?side2 ?side3 ?side4 A13.out).mono ?_); (case side1 => repeat (first | exact (Kd.R_reads' HO476.out).2.2 | (with_reducible refine Kd.C_alloc ?_ _) | (with_reducible refine Kd.C_drewN ?_ _) | (with_reducible refine Kd.C_drew ?_))); (case side2 => exact (Kd.R_reads' HO476.out).2.1); (case side3 => repeat (first | exact (Kd.R_reads' HO480.out).2.2 | (with_reducible refine Kd.C_alloc ?_ _) | (with_reducible refine Kd.C_drewN ?_ _) | (with_reducible refine Kd.C_drew ?_))); (case side4 => exact (Kd.R_reads' HO480.out).2.1); rintro e w' ⟨rfl, ⟨nd, rfl⟩⟩; (try first | exact ⟨rfl, _, World.drewN_drewN _ _ _⟩ | exact ⟨rfl, _, Eq.trans (World.drewN_drewN _ _ _) (congrArg (World.drewN _) (Nat.add_assoc _ _ _))⟩))))
      go_meet
      case rel => exact ⟨_, (false), rB, H', leB, ⟨upR HO472.out⟩, ⟨by (with_reducible repeat (first | apply Kd.R_alloc | apply Kd.R_drewN | apply Kd.R_drew)); exact Kd.R_mono HO476.out (fun _ hk => trivial)⟩, (aB HB)⟩
    ·replace H := iF (by decide) H
     have H' := Aside0.mk H
     clear H
     obtain ⟨Ao20, co20, eo20⟩ := Kd.R_slice HO476.out
     subst eo20
     obtain ⟨Ao21, co21, eo21⟩ := Kd.R_slice HO480.out
     subst eo21
     go_wp2_with (first | (go_at_call 39; (with_reducible refine (laws_rInts.calls k _ _ t473 _ _ t477 false _ ?side1 ?side2 ?side3 ?side4 A13.out).mono ?_); (case side1 => repeat (first | exact (Kd.R_reads' HO476.out).2.2 | (with_reducible refine Kd.C_alloc ?_ _) | (with_reducible refine Kd.C_drewN ?_ _) | (with_reducible refine Kd.C_drew ?_))); (case side2 => exact (Kd.R_reads' HO476.out).2.1); (case side3 => repeat (first | exact (Kd.R_reads' HO480.out).2.2 | (with_reducible refine Kd.C_alloc ?_ _) | (with_reducible refine Kd.C_drewN ?_ _) | (with_reducible refine Kd.C_drew ?_))); (case side4 => exact (Kd.R_reads' HO480.out).2.1); rintro e w' ⟨rfl, ⟨nd, rfl⟩⟩; (try first | exact ⟨rfl, _, World.drewN_drewN _ _ _⟩ | exact ⟨rfl, _, Eq.trans (World.drewN_drewN _ _ _) (congrArg (World.drewN _) (Nat.add_assoc _ _ _))⟩)))
     repeat (go_quiet (first | (go_at_call 39; (with_reducible refine (laws_rInts.calls k _ _ t473 _ _ t477 false _ ?side1 ?side2 ?side3 ?side4 A13.out).mono ?_); (case side1 => repeat (first | exact (Kd.R_reads' HO476.out).2.2 | (with_reducible refine Kd.C_alloc ?_ _) | (with_reducible refine Kd.C_drewN ?_ _) | (with_reducible refine Kd.C_drew ?_))); (case side2 => exact (Kd.R_reads' HO476.out).2.1); (case side3 => repeat (first | exact (Kd.R_reads' HO480.out).2.2 | (with_reducible refine Kd.C_alloc ?_ _) | (with_reducible refine Kd.C_drewN ?_ _) | (with_reducible refine Kd.C_drew ?_))); (case side4 => exact (Kd.R_reads' HO480.out).2.1); rintro e w' ⟨rfl, ⟨nd, rfl⟩⟩; (try first | exact ⟨rfl, _, World.drewN_drewN _ _ _⟩ | exact ⟨rfl, _, Eq.trans (World.drewN_drewN _ _ _) (congrArg (World.drewN _) (Nat.add_assoc _ _ _))⟩))); try go_wp2_with (first | (go_at_call 39; (with_reducible refine (laws_rInts.calls k _ _ t473 _ _ t477 false _ ?side1 ?side2 ?side3 ?side4 A13.out).mono ?_); (case side1 => repeat (first | exact (Kd.R_reads' HO476.out).2.2 | (with_reducible refine Kd.C_alloc ?_ _) | (with_reducible refine Kd.C_drewN ?_ _) | (with_reducible refine Kd.C_drew ?_))); (case side2 => exact (Kd.R_reads' HO476.out).2.1); (case side3 => repeat (first | exact (Kd.R_reads' HO480.out).2.2 | (with_reducible refine Kd.C_alloc ?_ _) | (with_reducible refine Kd.C_drewN ?_ _) | (with_reducible refine Kd.C_drew ?_))); (case side4 => exact (Kd.R_reads' HO480.out).2.1); rintro e w' ⟨rfl, ⟨nd, rfl⟩⟩; (try first | exact ⟨rfl, _, World.drewN_drewN _ _ _⟩ | exact ⟨rfl, _, Eq.trans (World.drewN_drewN _ _ _) (congrArg (World.drewN _) (Nat.add_assoc _ _ _))⟩))))
     go_meet
     case rel => exact ⟨_, (true), rB, H', leB, ⟨upR HO472.out⟩, ⟨by (with_reducible repeat (first | apply Kd.R_alloc | apply Kd.R_drewN | apply Kd.R_drew)); exact Kd.R_mono HO476.out (fun _ hk => trivial)⟩, (aB HB)⟩
  case rest =>
   apply Classical.byContradiction
   intro hn_
   letI h_ : (0 : Nat) = 1 := (hn_ (by
    clear hn_
    clear HC7
    obtain ⟨kq, x70_6, rfl, HA, HJ6, HO_3, HO_6, HB⟩ := hcut
    cases kq with
    | zero => exact absurd HA.out (by simp [laws_FnLeadTrips.j0])
    | succ kj6 =>
     have H := HA.out
     clear HA
     simp only [laws_FnLeadTrips.j0] at H
     rcases Bool.eq_false_or_eq_true x70_6 with rfl | rfl
     ·replace H := iT rfl H
      exact absurd (Option.some.inj H) (by rw [hT]; decide)
     ·replace H := iF (by decide) H
      replace H := Option.bind_eq_some_iff.mp H
      obtain ⟨⟨t482, t483⟩, A230, H⟩ := H
      replace H : ((spec_RankLeads.f kj6 t468).bind fun bt486 => (if (t483 != bt486.2) = true then (laws_FnLeadTrips.j1 kj6 l0 t468 t473 t482 true) else ((laws_rInts.f kj6 t482 bt486.1).bind fun t490 => (laws_FnLeadTrips.j1 kj6 l0 t468 t473 t482 (!t490))))) = some r := H
      have A23 := Aside0.mk A230
      clear A230
      replace H := Option.bind_eq_some_iff.mp H
      obtain ⟨⟨t486, t487⟩, A240, H⟩ := H
      replace H : (if (t483 != t487) = true then (laws_FnLeadTrips.j1 kj6 l0 t468 t473 t482 true) else ((laws_rInts.f kj6 t482 t486).bind fun t490 => (laws_FnLeadTrips.j1 kj6 l0 t468 t473 t482 (!t490)))) = some r := H
      have A24 := Aside0.mk A240
      clear A240
      have HC25 := Aside0.mk H
      clear H
      go_upto_region 10 with (first | (go_at_call 34; (with_reducible refine (impl_RankLeads.calls kj6 _ _ t468 t482 t483 _ ?side1 ?side2 A23.out).mono ?_); (case side1 => repeat (first | exact (Kd.R_reads' HO_3.out).2.2 | (with_reducible refine Kd.C_alloc ?_ _) | (with_reducible refine Kd.C_drewN ?_ _) | (with_reducible refine Kd.C_drew ?_))); (case side2 => exact (Kd.R_reads' HO_3.out).2.1); rintro e w26 ⟨v484, rfl, ho0, hb⟩; have HO485 := Aside0.mk (Kd.R_lower (Kd.R_new' ho0 (Kd.R_lt (upR HO_6.out))) (below_size (bW HB))); replace HO_3 := uR HO_3 hb; replace HO_6 := Aside0.mk (Kd.R_elder' (upR HO_6.out) (Kd.R_base ho0) hb); replace HB := uB HB hb; (try clear hb); (try clear hk); (try clear ho0)) | (go_at_call 33; (with_reducible refine (spec_RankLeads.calls kj6 _ _ t468 t486 t487 _ ?side1 ?side2 A24.out).mono ?_); (case side1 => repeat (first | exact (Kd.R_reads' HO_3.out).2.2 | (with_reducible refine Kd.C_alloc ?_ _) | (with_reducible refine Kd.C_drewN ?_ _) | (with_reducible refine Kd.C_drew ?_))); (case side2 => exact (Kd.R_reads' HO_3.out).2.1); rintro e w27 ⟨v488, rfl, ho0, hb⟩; have HO489 := Aside0.mk (Kd.R_lower (Kd.R_new' (Kd.R_new' ho0 (Kd.R_lt (upR HO_6.out))) (Kd.R_lt (upR HO485.out))) (below_size (bW HB))); replace HO_3 := uR HO_3 hb; replace HO_6 := Aside0.mk (Kd.R_elder' (upR HO_6.out) (Kd.R_base ho0) hb); replace HO485 := Aside0.mk (Kd.R_elder' (upR HO485.out) (Kd.R_base ho0) hb); replace HB := uB HB hb; (try clear hb); (try clear hk); (try clear ho0)))
      repeat (go_quiet (first | (go_at_call 34; (with_reducible refine (impl_RankLeads.calls kj6 _ _ t468 t482 t483 _ ?side1 ?side2 A23.out).mono ?_); (case side1 => repeat (first | exact (Kd.R_reads' HO_3.out).2.2 | (with_reducible refine Kd.C_alloc ?_ _) | (with_reducible refine Kd.C_drewN ?_ _) | (with_reducible refine Kd.C_drew ?_))); (case side2 => exact (Kd.R_reads' HO_3.out).2.1); rintro e w26 ⟨v484, rfl, ho0, hb⟩; have HO485 := Aside0.mk (Kd.R_lower (Kd.R_new' ho0 (Kd.R_lt (upR HO_6.out))) (below_size (bW HB))); replace HO_3 := uR HO_3 hb; replace HO_6 := Aside0.mk (Kd.R_elder' (upR HO_6.out) (Kd.R_base ho0) hb); replace HB := uB HB hb; (try clear hb); (try clear hk); (try clear ho0)) | (go_at_call 33; (with_reducible refine (spec_RankLeads.calls kj6 _ _ t468 t486 t487 _ ?side1 ?side2 A24.out).mono ?_); (case side1 => repeat (first | exact (Kd.R_reads' HO_3.out).2.2 | (with_reducible refine Kd.C_alloc ?_ _) | (with_reducible refine Kd.C_drewN ?_ _) | (with_reducible refine Kd.C_drew ?_))); (case side2 => exact (Kd.R_reads' HO_3.out).2.1); rintro e w27 ⟨v488, rfl, ho0, hb⟩; have HO489 := Aside0.mk (Kd.R_lower (Kd.R_new' (Kd.R_new' ho0 (Kd.R_lt (upR HO_6.out))) (Kd.R_lt (upR HO485.out))) (below_size (bW HB))); replace HO_3 := uR HO_3 hb; replace HO_6 := Aside0.mk (Kd.R_elder' (upR HO_6.out) (Kd.R_base ho0) hb); replace HO485 := Aside0.mk (Kd.R_elder' (upR HO485.out) (Kd.R_base ho0) hb); replace HB := uB HB hb; (try clear hb); (try clear hk); (try clear ho0))); go_upto_region 10 with (first | (go_at_call 34; (with_reducible refine (impl_RankLeads.calls kj6 _ _ t468 t482 t483 _ ?side1 ?side2 A23.out).mono ?_); (case side1 => repeat (first | exact (Kd.R_reads' HO_3.out).2.2 | (with_reducible refine Kd.C_alloc ?_ _) | (with_reducible refine Kd.C_drewN ?_ _) | (with_reducible refine Kd.C_drew ?_))); (case side2 => exact (Kd.R_reads' HO_3.out).2.1); rintro e w26 ⟨v484, rfl, ho0, hb⟩; have HO485 := Aside0.mk (Kd.R_lower (Kd.R_new' ho0 (Kd.R_lt (upR HO_6.out))) (below_size (bW HB))); replace HO_3 := uR HO_3 hb; replace HO_6 := Aside0.mk (Kd.R_elder' (upR HO_6.out) (Kd.R_base ho0) hb); replace HB := uB HB hb; (try clear hb); (try clear hk); (try clear ho0)) | (go_at_call 33; (with_reducible refine (spec_RankLeads.calls kj6 _ _ t468 t486 t487 _ ?side1 ?side2 A24.out).mono ?_); (case side1 => repeat (first | exact (Kd.R_reads' HO_3.out).2.2 | (with_reducible refine Kd.C_alloc ?_ _) | (with_reducible refine Kd.C_drewN ?_ _) | (with_reducible refine Kd.C_drew ?_))); (case side2 => exact (Kd.R_reads' HO_3.out).2.1); rintro e w27 ⟨v488, rfl, ho0, hb⟩; have HO489 := Aside0.mk (Kd.R_lower (Kd.R_new' (Kd.R_new' ho0 (Kd.R_lt (upR HO_6.out))) (Kd.R_lt (upR HO485.out))) (below_size (bW HB))); replace HO_3 := uR HO_3 hb; replace HO_6 := Aside0.mk (Kd.R_elder' (upR HO_6.out) (Kd.R_base ho0) hb); replace HO485 := Aside0.mk (Kd.R_elder' (upR HO485.out) (Kd.R_base ho0) hb); replace HB := uB HB hb; (try clear hb); (try clear hk); (try clear ho0))))
      (try simp only [Act.put, List.setIfInBounds_toArray, List.set_cons_zero, List.set_cons_succ])
      go_cut [89] (fun v89 wc => ∃ (kq : Nat) (x89_24 : Bool), v89 = .bool x89_24 ∧ Aside0 (laws_FnLeadTrips.j1 kq l0 t468 t473 t482 x89_24 = some r) ∧ Aside0 (kq ≤ kj6) ∧ Aside0 (Kd.R k25 25 wc w.heap.size (fun _ => True) (.slice Ao9 t468.length co9) t468) ∧ Aside0 (Kd.R (Kd.int .i64) 3 wc w.heap.size (fun k_ => some k_ ≠ (v484 : Value).ownBlock) v475 t473) ∧ Aside0 (Kd.R (Kd.int .i64) 3 wc w.heap.size (fun k_ => some k_ ≠ (v475 : Value).ownBlock) v484 t482) ∧ Aside0 (Below w.heap.size w wc))
      case first =>
       have H := HC25.out
       clear HC25
       by_cases c28 : (t483 != t487) = true
       ·rw [if_pos c28] at H
        have c28b0 : (t483 != t487) = true := c28
        (try (have c28b1 : decide (t483 = t487) = false := by simpa using c28))
        (try (have c28b2 : (t483 == t487) = false := by simpa using c28))
        (try (have c28b3 : ¬ (t483 = t487) := by simpa using c28))
        clear c28
        (first | rw [c28b0] | (simp only [i64_w, i32_w]; rw [c28b0]) | skip)
        have H' := Aside0.mk H
        clear H
        go_wp2
        repeat (go_quiet (fail); try go_wp2)
        go_meet
        case rel => exact ⟨_, (true), rB, H', ⟨by have := HJ6.out; first | omega | exact Nat.le_refl _⟩, ⟨upR HO_3.out⟩, ⟨by (with_reducible repeat (first | apply Kd.R_alloc | apply Kd.R_drewN | apply Kd.R_drew)); exact Kd.R_mono HO_6.out (fun _ hk => hk.1.2)⟩, ⟨by (with_reducible repeat (first | apply Kd.R_alloc | apply Kd.R_drewN | apply Kd.R_drew)); exact Kd.R_mono HO485.out (fun _ hk => hk.1.2)⟩, (aB HB)⟩
       ·rw [if_neg c28] at H
        have c28b0 : (t483 != t487) = false := by simpa using c28
        (try (have c28b1 : decide (t483 = t487) = true := by simpa using c28))
        (try (have c28b2 : (t483 == t487) = true := by simpa using c28))
        clear c28
        (first | rw [c28b0] | (simp only [i64_w, i32_w]; rw [c28b0]) | skip)
        replace H := bA H
        obtain ⟨t490, A29, H⟩ := H
        have H' := Aside0.mk H
        clear H
        obtain ⟨Ao30, co30, eo30⟩ := Kd.R_slice HO485.out
        subst eo30
        obtain ⟨Ao31, co31, eo31⟩ := Kd.R_slice HO489.out
        subst eo31
        go_wp2_with (first | (go_at_call 39; (with_reducible refine (laws_rInts.calls kj6 _ _ t482 _ _ t486 t490 _ ?side1 ?side2 ?side3 ?side4 A29.out).mono ?_); (case side1 => repeat (first | exact (Kd.R_reads' HO485.out).2.2 | (with_reducible refine Kd.C_alloc ?_ _) | (with_reducible refine Kd.C_drewN ?_ _) | (with_reducible refine Kd.C_drew ?_))); (case side2 => exact (Kd.R_reads' HO485.out).2.1); (case side3 => repeat (first | exact (Kd.R_reads' HO489.out).2.2 | (with_reducible refine Kd.C_alloc ?_ _) | (with_reducible refine Kd.C_drewN ?_ _) | (with_reducible refine Kd.C_drew ?_))); (case side4 => exact (Kd.R_reads' HO489.out).2.1); rintro e w' ⟨rfl, ⟨nd, rfl⟩⟩; (try first | exact ⟨rfl, _, World.drewN_drewN _ _ _⟩ | exact ⟨rfl, _, Eq.trans (World.drewN_drewN _ _ _) (congrArg (World.drewN _) (Nat.add_assoc _ _ _))⟩)))
        repeat (go_quiet (first | (go_at_call 39; (with_reducible refine (laws_rInts.calls kj6 _ _ t482 _ _ t486 t490 _ ?side1 ?side2 ?side3 ?side4 A29.out).mono ?_); (case side1 => repeat (first | exact (Kd.R_reads' HO485.out).2.2 | (with_reducible refine Kd.C_alloc ?_ _) | (with_reducible refine Kd.C_drewN ?_ _) | (with_reducible refine Kd.C_drew ?_))); (case side2 => exact (Kd.R_reads' HO485.out).2.1); (case side3 => repeat (first | exact (Kd.R_reads' HO489.out).2.2 | (with_reducible refine Kd.C_alloc ?_ _) | (with_reducible refine Kd.C_drewN ?_ _) | (with_reducible refine Kd.C_drew ?_))); (case side4 => exact (Kd.R_reads' HO489.out).2.1); rintro e w' ⟨rfl, ⟨nd, rfl⟩⟩; (try first | exact ⟨rfl, _, World.drewN_drewN _ _ _⟩ | exact ⟨rfl, _, Eq.trans (World.drewN_drewN _ _ _) (congrArg (World.drewN _) (Nat.add_assoc _ _ _))⟩))); try go_wp2_with (first | (go_at_call 39; (with_reducible refine (laws_rInts.calls kj6 _ _ t482 _ _ t486 t490 _ ?side1 ?side2 ?side3 ?side4 A29.out).mono ?_); (case side1 => repeat (first | exact (Kd.R_reads' HO485.out).2.2 | (with_reducible refine Kd.C_alloc ?_ _) | (with_reducible refine Kd.C_drewN ?_ _) | (with_reducible refine Kd.C_drew ?_))); (case side2 => exact (Kd.R_reads' HO485.out).2.1); (case side3 => repeat (first | exact (Kd.R_reads' HO489.out).2.2 | (with_reducible refine Kd.C_alloc ?_ _) | (with_reducible refine Kd.C_drewN ?_ _) | (with_reducible refine Kd.C_drew ?_))); (case side4 => exact (Kd.R_reads' HO489.out).2.1); rintro e w' ⟨rfl, ⟨nd, rfl⟩⟩; (try first | exact ⟨rfl, _, World.drewN_drewN _ _ _⟩ | exact ⟨rfl, _, Eq.trans (World.drewN_drewN _ _ _) (congrArg (World.drewN _) (Nat.add_assoc _ _ _))⟩))))
        go_meet
        case rel => exact ⟨_, (!t490), rB, H', ⟨by have := HJ6.out; first | omega | exact Nat.le_refl _⟩, ⟨upR HO_3.out⟩, ⟨by (with_reducible repeat (first | apply Kd.R_alloc | apply Kd.R_drewN | apply Kd.R_drew)); exact Kd.R_mono HO_6.out (fun _ hk => hk.1.2)⟩, ⟨by (with_reducible repeat (first | apply Kd.R_alloc | apply Kd.R_drewN | apply Kd.R_drew)); exact Kd.R_mono HO485.out (fun _ hk => hk.1.2)⟩, (aB HB)⟩
      case rest =>
       apply Classical.byContradiction
       intro hn_
       letI h_ : (0 : Nat) = 1 := (hn_ (by
        clear hn_
        clear HC25
        obtain ⟨kq, x89_24, rfl, HA, HJ24, HO_3, HO_6, HO_10, HB⟩ := hcut
        cases kq with
        | zero => exact absurd HA.out (by simp [laws_FnLeadTrips.j1])
        | succ kj24 =>
         have H := HA.out
         clear HA
         simp only [laws_FnLeadTrips.j1] at H
         rcases Bool.eq_false_or_eq_true x89_24 with rfl | rfl
         ·replace H := iT rfl H
          exact absurd (Option.some.inj H) (by rw [hT]; decide)
         ·replace H := iF (by decide) H
          have H' := Aside0.mk H
          clear H
          go_wp2
          repeat (go_quiet (fail); try go_wp2)
          go_loopg [14, 15] kj24 (fun kq v14 v15 w' => ∃ (x14_3 x15_3 : Int), v14 = .int .i64 x14_3 ∧ v15 = .int .i64 x15_3 ∧ Aside0 (laws_FnLeadTrips.l0 kq l0 t468 t473 t482 x14_3 x15_3 = some r) ∧ Aside0 (kq ≤ kj24) ∧ Aside0 (Kd.R k25 25 w' w.heap.size (fun _ => True) (.slice Ao9 t468.length co9) t468) ∧ Aside0 (Kd.R (Kd.int .i64) 3 w' w.heap.size (fun k_ => some k_ ≠ (v484 : Value).ownBlock) v475 t473) ∧ Aside0 (Kd.R (Kd.int .i64) 3 w' w.heap.size (fun k_ => some k_ ≠ (v475 : Value).ownBlock) v484 t482) ∧ Aside0 (Below w.heap.size w w'))
          case atStart => exact ⟨(0), (0), rB, rB, H', ⟨Nat.le_refl _⟩, ⟨upR HO_3.out⟩, ⟨upR HO_6.out⟩, ⟨upR HO_10.out⟩, (aB HB)⟩
          case round =>
           apply Classical.byContradiction
           intro hn_
           letI h_ : (0 : Nat) = 1 := (hn_ (by
            clear hn_
            clear H'
            obtain ⟨x14_3, x15_3, rfl, rfl, HA, HK3, HO_3, HO_6, HO_10, HB⟩ := hrel
            cases gk with
            | zero => exact absurd HA.out (by simp [laws_FnLeadTrips.l0])
            | succ k3 =>
             have H := HA.out
             clear HA
             simp only [laws_FnLeadTrips.l0] at H
             replace H := ifD H
             rcases H with ⟨H, -, c33b0⟩ | ⟨H, -, c33b0⟩
             ·have H' := Aside0.mk H
              clear H
              obtain ⟨Ao34, co34, eo34⟩ := Kd.R_slice HO_6.out
              subst eo34
              go_wp2
              repeat (go_quiet (fail); try go_wp2)
              go_loopg [14] k3 (fun kq v14 w' => ∃ (x14_4 : Int), v14 = .int .i64 x14_4 ∧ Aside0 (laws_FnLeadTrips.l1 kq l0 t468 t473 t482 x14_4 x15_3 = some r) ∧ Aside0 (kq ≤ k3) ∧ Aside0 (Kd.R k25 25 w' w.heap.size (fun _ => True) (.slice Ao9 t468.length co9) t468) ∧ Aside0 (Kd.R (Kd.int .i64) 3 w' w.heap.size (fun k_ => some k_ ≠ (v484 : Value).ownBlock) (.slice Ao34 t473.length co34) t473) ∧ Aside0 (Kd.R (Kd.int .i64) 3 w' w.heap.size (fun k_ => some k_ ≠ ((.slice Ao34 t473.length co34) : Value).ownBlock) v484 t482) ∧ Aside0 (Below w.heap.size w w'))
              case atStart => exact ⟨(x14_3), rB, H', ⟨Nat.le_refl _⟩, ⟨upR HO_3.out⟩, ⟨upR HO_6.out⟩, ⟨upR HO_10.out⟩, (aB HB)⟩
              case round =>
               apply Classical.byContradiction
               intro hn_
               letI h_ : (0 : Nat) = 1 := (hn_ (by
                clear hn_
                clear H'
                try clear c33b0
                obtain ⟨x14_4, rfl, HA, HK4, HO_3, HO_6, HO_10, HB⟩ := hrel
                cases gk with
                | zero => exact absurd HA.out (by simp [laws_FnLeadTrips.l1])
                | succ k4 =>
                 have H := HA.out
                 clear HA
                 simp only [laws_FnLeadTrips.l1] at H
                 replace H := ifD H
                 rcases H with ⟨H, -, c35b0⟩ | ⟨H, -, c35b0⟩
                 ·by_cases c36 : 0 ≤ x14_4
                  ·rw [if_pos c36] at H
                   have c36b0 : decide (0 ≤ x14_4) = true := decide_eq_true c36
                   clear c36
                   by_cases c37 : 0 ≤ x15_3
                   ·rw [if_pos c37] at H
                    have c37b0 : decide (0 ≤ x15_3) = true := decide_eq_true c37
                    clear c37
                    by_cases c38 : x15_3 < (t473.length : Int)
                    ·rw [if_pos c38] at H
                     have c38b0 : decide (x15_3 < (t473.length : Int)) = true := decide_eq_true c38
                     clear c38
                     replace H := ifI H
                     rcases H with ⟨H, -, c39b0, c39b1⟩ | ⟨H, c39, c39b0, c39b1⟩
                     ·replace H := ifI H
                      rcases H with ⟨H, -, c40b0, c40b1⟩ | ⟨H, c40, c40b0, c40b1⟩
                      ·exact absurd (Option.some.inj H) (by rw [hT]; decide)
                      ·have H' := Aside0.mk H
                       clear H
                       obtain ⟨Ao42, co42, eo42⟩ := Kd.R_slice HO_10.out
                       subst eo42
                       have p491 : 0 ≤ (x14_4 : Int) := of_decide_eq_true asmB
                       have q491 : x14_4 < (t482.length : Int) := of_decide_eq_true asmB
                       obtain ⟨ad491, e491, hx491_0⟩ := Kd.at_int (Kd.R_reads' HO_10.out).2.2 x14_4 p491 q491
                       cases e491
                       replace p491 := eq_true p491
                       replace q491 := eq_true q491
                       have p492 : 0 ≤ (x15_3 : Int) := of_decide_eq_true asmB
                       have q492 : x15_3 < (t473.length : Int) := of_decide_eq_true asmB
                       obtain ⟨ad492, e492, hx492_0⟩ := Kd.at_int (Kd.R_reads' HO_6.out).2.2 x15_3 p492 q492
                       cases e492
                       replace p492 := eq_true p492
                       replace q492 := eq_true q492
                       go_wp2
                       repeat (go_quiet (fail); try go_wp2)
                       go_roundg k4
                       case measure => have := HJ6.out; have := HJ24.out; have := HK3.out; have := HK4.out; omega
                       case rel => exact ⟨(x14_4), (wrap64 (x15_3 + 1)), rB, rB, H', ⟨by have := HJ6.out; have := HJ24.out; have := HK3.out; have := HK4.out; omega⟩, ⟨upR HO_3.out⟩, ⟨upR HO_6.out⟩, ⟨upR HO_10.out⟩, (aB HB)⟩
                     ·have H' := Aside0.mk H
                      clear H
                      obtain ⟨Ao43, co43, eo43⟩ := Kd.R_slice HO_10.out
                      subst eo43
                      have p491 : 0 ≤ (x14_4 : Int) := of_decide_eq_true asmB
                      have q491 : x14_4 < (t482.length : Int) := of_decide_eq_true asmB
                      obtain ⟨ad491, e491, hx491_0⟩ := Kd.at_int (Kd.R_reads' HO_10.out).2.2 x14_4 p491 q491
                      cases e491
                      replace p491 := eq_true p491
                      replace q491 := eq_true q491
                      have p492 : 0 ≤ (x15_3 : Int) := of_decide_eq_true asmB
                      have q492 : x15_3 < (t473.length : Int) := of_decide_eq_true asmB
                      obtain ⟨ad492, e492, hx492_0⟩ := Kd.at_int (Kd.R_reads' HO_6.out).2.2 x15_3 p492 q492
                      cases e492
                      replace p492 := eq_true p492
                      replace q492 := eq_true q492
                      go_wp2
                      repeat (go_quiet (fail); try go_wp2)
                      go_roundg k4
                      case measure => have := HJ6.out; have := HJ24.out; have := HK3.out; have := HK4.out; omega
                      case rel => exact ⟨(wrap64 (x14_4 + 1)), rB, H', ⟨by have := HJ6.out; have := HJ24.out; have := HK3.out; have := HK4.out; omega⟩, ⟨upR HO_3.out⟩, ⟨upR HO_6.out⟩, ⟨upR HO_10.out⟩, (aB HB)⟩
                    ·rw [if_neg c38] at H
                     exact absurd H (by simp)
                   ·rw [if_neg c37] at H
                    exact absurd H (by simp)
                  ·rw [if_neg c36] at H
                   exact absurd H (by simp)
                 ·replace H := ifI H
                  rcases H with ⟨H, -, c44b0, c44b1⟩ | ⟨H, c44, c44b0, c44b1⟩
                  ·exact absurd (Option.some.inj H) (by rw [hT]; decide)
                  ·have H' := Aside0.mk H
                   clear H
                   obtain ⟨Ao46, co46, eo46⟩ := Kd.R_slice HO_10.out
                   subst eo46
                   go_wp2
                   repeat (go_quiet (fail); try go_wp2)
                   go_roundg k4
                   case measure => have := HJ6.out; have := HJ24.out; have := HK3.out; have := HK4.out; omega
                   case rel => exact ⟨(x14_4), (wrap64 (x15_3 + 1)), rB, rB, H', ⟨by have := HJ6.out; have := HJ24.out; have := HK3.out; have := HK4.out; omega⟩, ⟨upR HO_3.out⟩, ⟨upR HO_6.out⟩, ⟨upR HO_10.out⟩, (aB HB)⟩
                )).elim
               omega
             ·replace H := Option.bind_eq_some_iff.mp H
              obtain ⟨⟨t493, t494⟩, A470, H⟩ := H
              replace H : ((spec_BestLead.f k3 t468).bind fun bt495 => (if t493 = bt495.1 then (if (t494 != bt495.2) = true then (laws_FnLeadTrips.j4 k3 l0 t468 t482 t493 t494 true) else (if (t494 != (decide ((t482.length : Int) > 0))) = true then (laws_FnLeadTrips.j4 k3 l0 t468 t482 t493 t494 true) else (if t494 = true then (if 0 < (t482.length : Int) then (laws_FnLeadTrips.j4 k3 l0 t468 t482 t493 t494 (t493 != (rd t482 0))) else (none)) else (laws_FnLeadTrips.j4 k3 l0 t468 t482 t493 t494 false)))) else (laws_FnLeadTrips.j4 k3 l0 t468 t482 t493 t494 true))) = some r := H
              have A47 := Aside0.mk A470
              clear A470
              replace H := Option.bind_eq_some_iff.mp H
              obtain ⟨⟨t495, t496⟩, A480, H⟩ := H
              replace H : (if t493 = t495 then (if (t494 != t496) = true then (laws_FnLeadTrips.j4 k3 l0 t468 t482 t493 t494 true) else (if (t494 != (decide ((t482.length : Int) > 0))) = true then (laws_FnLeadTrips.j4 k3 l0 t468 t482 t493 t494 true) else (if t494 = true then (if 0 < (t482.length : Int) then (laws_FnLeadTrips.j4 k3 l0 t468 t482 t493 t494 (t493 != (rd t482 0))) else (none)) else (laws_FnLeadTrips.j4 k3 l0 t468 t482 t493 t494 false)))) else (laws_FnLeadTrips.j4 k3 l0 t468 t482 t493 t494 true)) = some r := H
              have A48 := Aside0.mk A480
              clear A480
              have HC49 := Aside0.mk H
              clear H
              obtain ⟨Ao50, co50, eo50⟩ := Kd.R_slice HO_6.out
              subst eo50
              go_upto_region 22 with (first | (go_at_call 32; (with_reducible refine (impl_BestLead.calls k3 _ _ t468 t493 t494 _ ?side1 ?side2 A47.out).mono ?_); (case side1 => repeat (first | exact (Kd.R_reads' HO_3.out).2.2 | (with_reducible refine Kd.C_alloc ?_ _) | (with_reducible refine Kd.C_drewN ?_ _) | (with_reducible refine Kd.C_drew ?_))); (case side2 => exact (Kd.R_reads' HO_3.out).2.1); rintro e w51 ⟨rfl, hb⟩; replace HO_3 := uR HO_3 hb; replace HO_6 := uR HO_6 hb; replace HO_10 := uR HO_10 hb; replace HB := uB HB hb; (try clear hb); (try clear hk)) | (go_at_call 31; (with_reducible refine (spec_BestLead.calls k3 _ _ t468 t495 t496 _ ?side1 ?side2 A48.out).mono ?_); (case side1 => repeat (first | exact (Kd.R_reads' HO_3.out).2.2 | (with_reducible refine Kd.C_alloc ?_ _) | (with_reducible refine Kd.C_drewN ?_ _) | (with_reducible refine Kd.C_drew ?_))); (case side2 => exact (Kd.R_reads' HO_3.out).2.1); rintro e w52 ⟨rfl, hb⟩; replace HO_3 := uR HO_3 hb; replace HO_6 := uR HO_6 hb; replace HO_10 := uR HO_10 hb; replace HB := uB HB hb; (try clear hb); (try clear hk)))
              repeat (go_quiet (first | (go_at_call 32; (with_reducible refine (impl_BestLead.calls k3 _ _ t468 t493 t494 _ ?side1 ?side2 A47.out).mono ?_); (case side1 => repeat (first | exact (Kd.R_reads' HO_3.out).2.2 | (with_reducible refine Kd.C_alloc ?_ _) | (with_reducible refine Kd.C_drewN ?_ _) | (with_reducible refine Kd.C_drew ?_))); (case side2 => exact (Kd.R_reads' HO_3.out).2.1); rintro e w51 ⟨rfl, hb⟩; replace HO_3 := uR HO_3 hb; replace HO_6 := uR HO_6 hb; replace HO_10 := uR HO_10 hb; replace HB := uB HB hb; (try clear hb); (try clear hk)) | (go_at_call 31; (with_reducible refine (spec_BestLead.calls k3 _ _ t468 t495 t496 _ ?side1 ?side2 A48.out).mono ?_); (case side1 => repeat (first | exact (Kd.R_reads' HO_3.out).2.2 | (with_reducible refine Kd.C_alloc ?_ _) | (with_reducible refine Kd.C_drewN ?_ _) | (with_reducible refine Kd.C_drew ?_))); (case side2 => exact (Kd.R_reads' HO_3.out).2.1); rintro e w52 ⟨rfl, hb⟩; replace HO_3 := uR HO_3 hb; replace HO_6 := uR HO_6 hb; replace HO_10 := uR HO_10 hb; replace HB := uB HB hb; (try clear hb); (try clear hk))); go_upto_region 22 with (first | (go_at_call 32; (with_reducible refine (impl_BestLead.calls k3 _ _ t468 t493 t494 _ ?side1 ?side2 A47.out).mono ?_); (case side1 => repeat (first | exact (Kd.R_reads' HO_3.out).2.2 | (with_reducible refine Kd.C_alloc ?_ _) | (with_reducible refine Kd.C_drewN ?_ _) | (with_reducible refine Kd.C_drew ?_))); (case side2 => exact (Kd.R_reads' HO_3.out).2.1); rintro e w51 ⟨rfl, hb⟩; replace HO_3 := uR HO_3 hb; replace HO_6 := uR HO_6 hb; replace HO_10 := uR HO_10 hb; replace HB := uB HB hb; (try clear hb); (try clear hk)) | (go_at_call 31; (with_reducible refine (spec_BestLead.calls k3 _ _ t468 t495 t496 _ ?side1 ?side2 A48.out).mono ?_); (case side1 => repeat (first | exact (Kd.R_reads' HO_3.out).2.2 | (with_reducible refine Kd.C_alloc ?_ _) | (with_reducible refine Kd.C_drewN ?_ _) | (with_reducible refine Kd.C_drew ?_))); (case side2 => exact (Kd.R_reads' HO_3.out).2.1); rintro e w52 ⟨rfl, hb⟩; replace HO_3 := uR HO_3 hb; replace HO_6 := uR HO_6 hb; replace HO_10 := uR HO_10 hb; replace HB := uB HB hb; (try clear hb); (try clear hk))))
              (try simp only [Act.put, List.setIfInBounds_toArray, List.set_cons_zero, List.set_cons_succ])
              go_cut [151] (fun v151 wc => ∃ (kq : Nat) (x151_48 : Bool), v151 = .bool x151_48 ∧ Aside0 (laws_FnLeadTrips.j4 kq l0 t468 t482 t493 t494 x151_48 = some r) ∧ Aside0 (kq ≤ k3) ∧ Aside0 (Kd.R k25 25 wc w.heap.size (fun _ => True) (.slice Ao9 t468.length co9) t468) ∧ Aside0 (Kd.R (Kd.int .i64) 3 wc w.heap.size (fun _ => True) v484 t482) ∧ Aside0 (Below w.heap.size w wc))
              case first =>
               have H := HC49.out
               clear HC49
               replace H := ifI H
               rcases H with ⟨H, -, c53b0, c53b1⟩ | ⟨H, c53, c53b0, c53b1⟩
               ·(first | rw [c53b0] | (simp only [i64_w, i32_w]; rw [c53b0]) | skip)
                by_cases c54 : (t494 != t496) = true
                ·rw [if_pos c54] at H
                 have c54b0 : (t494 != t496) = true := c54
                 (try (have c54b1 : decide (t494 = t496) = false := by simpa using c54))
                 (try (have c54b2 : (t494 == t496) = false := by simpa using c54))
                 (try (have c54b3 : ¬ (t494 = t496) := by simpa using c54))
                 clear c54
                 have H' := Aside0.mk H
                 clear H
                 go_wp2
                 repeat (go_quiet (fail); try go_wp2)
                 go_meet
                 case rel => exact ⟨_, (true), rB, H', ⟨by have := HJ6.out; have := HJ24.out; have := HK3.out; first | omega | exact Nat.le_refl _⟩, ⟨upR HO_3.out⟩, ⟨by (with_reducible repeat (first | apply Kd.R_alloc | apply Kd.R_drewN | apply Kd.R_drew)); exact Kd.R_mono HO_10.out (fun _ hk => trivial)⟩, (aB HB)⟩
                ·rw [if_neg c54] at H
                 have c54b0 : (t494 != t496) = false := by simpa using c54
                 (try (have c54b1 : decide (t494 = t496) = true := by simpa using c54))
                 (try (have c54b2 : (t494 == t496) = true := by simpa using c54))
                 clear c54
                 by_cases c55 : (t494 != (decide ((t482.length : Int) > 0))) = true
                 ·rw [if_pos c55] at H
                  have c55b0 : (t494 != (decide ((t482.length : Int) > 0))) = true := c55
                  (try (have c55b1 : decide (t494 = (decide ((t482.length : Int) > 0))) = false := by simpa using c55))
                  (try (have c55b9 : (t494 = decide (0 < t482.length)) = False := by simpa using c55))
                  (try (have c55b2 : (t494 == (decide ((t482.length : Int) > 0))) = false := by simpa using c55))
                  (try (have c55b3 : ¬ (t494 = (decide ((t482.length : Int) > 0))) := by simpa using c55))
                  clear c55
                  have H' := Aside0.mk H
                  clear H
                  obtain ⟨Ao56, co56, eo56⟩ := Kd.R_slice HO_10.out
                  subst eo56
                  go_wp2
                  repeat (go_quiet (fail); try go_wp2)
                  go_meet
                  case rel => exact ⟨_, (true), rB, H', ⟨by have := HJ6.out; have := HJ24.out; have := HK3.out; first | omega | exact Nat.le_refl _⟩, ⟨upR HO_3.out⟩, ⟨by (with_reducible repeat (first | apply Kd.R_alloc | apply Kd.R_drewN | apply Kd.R_drew)); exact Kd.R_mono HO_10.out (fun _ hk => trivial)⟩, (aB HB)⟩
                 ·rw [if_neg c55] at H
                  have c55b0 : (t494 != (decide ((t482.length : Int) > 0))) = false := by simpa using c55
                  (try (have c55b1 : decide (t494 = (decide ((t482.length : Int) > 0))) = true := by simpa using c55))
                  (try (have c55b9 : (t494 = decide (0 < t482.length)) = True := by simpa using c55))
                  (try (have c55b2 : (t494 == (decide ((t482.length : Int) > 0))) = true := by simpa using c55))
                  clear c55
                  rcases Bool.eq_false_or_eq_true t494 with rfl | rfl
                  ·replace H := iT rfl H
                   by_cases c58 : 0 < (t482.length : Int)
                   ·rw [if_pos c58] at H
                    have c58b0 : decide (0 < (t482.length : Int)) = true := decide_eq_true c58
                    have c58b1 : decide (0 < t482.length) = true := decide_eq_true (by omega)
                    clear c58
                    have H' := Aside0.mk H
                    clear H
                    obtain ⟨Ao59, co59, eo59⟩ := Kd.R_slice HO_10.out
                    subst eo59
                    have p497 : 0 ≤ (0 : Int) := (by omega)
                    have q497 : 0 < (t482.length : Int) := of_decide_eq_true asmB
                    obtain ⟨ad497, e497, hx497_0⟩ := Kd.at_int (Kd.R_reads' HO_10.out).2.2 0 p497 q497
                    cases e497
                    have qi497 : (0 < t482.length) = True := eq_true (by omega)
                    (try rw [show ((0 : Int)).toNat = 0 from rfl] at hx497_0)
                    (try rw [Addr.add_zero'] at hx497_0)
                    replace p497 := eq_true p497
                    replace q497 := eq_true q497
                    go_wp2
                    repeat (go_quiet (fail); try go_wp2)
                    go_meet
                    case rel => exact ⟨_, ((t493 != (rd t482 0))), rB, H', ⟨by have := HJ6.out; have := HJ24.out; have := HK3.out; first | omega | exact Nat.le_refl _⟩, ⟨upR HO_3.out⟩, ⟨by (with_reducible repeat (first | apply Kd.R_alloc | apply Kd.R_drewN | apply Kd.R_drew)); exact Kd.R_mono HO_10.out (fun _ hk => trivial)⟩, (aB HB)⟩
                   ·rw [if_neg c58] at H
                    exact absurd H (by simp)
                  ·replace H := iF (by decide) H
                   have H' := Aside0.mk H
                   clear H
                   have c55q : ¬ 0 < t482.length := (by intro h_; rw [show decide ((t482.length : Int) > 0) = true from decide_eq_true (by omega)] at c55b0; exact absurd c55b0 (by decide))
                   have c55r : ¬ 0 < (t482.length : Int) := (by omega)
                   replace c55r := eq_false c55r
                   clear c55b0; (try clear c55b1); (try clear c55b9); (try clear c55b2)
                   replace c55q := eq_false c55q
                   obtain ⟨Ao60, co60, eo60⟩ := Kd.R_slice HO_10.out
                   subst eo60
                   go_wp2
                   repeat (go_quiet (fail); try go_wp2)
                   go_meet
                   case rel => exact ⟨_, (false), rB, H', ⟨by have := HJ6.out; have := HJ24.out; have := HK3.out; first | omega | exact Nat.le_refl _⟩, ⟨upR HO_3.out⟩, ⟨by (with_reducible repeat (first | apply Kd.R_alloc | apply Kd.R_drewN | apply Kd.R_drew)); exact Kd.R_mono HO_10.out (fun _ hk => trivial)⟩, (aB HB)⟩
               ·(first | rw [c53b0] | (simp only [i64_w, i32_w]; rw [c53b0]) | skip)
                have H' := Aside0.mk H
                clear H
                go_wp2
                repeat (go_quiet (fail); try go_wp2)
                go_meet
                case rel => exact ⟨_, (true), rB, H', ⟨by have := HJ6.out; have := HJ24.out; have := HK3.out; first | omega | exact Nat.le_refl _⟩, ⟨upR HO_3.out⟩, ⟨by (with_reducible repeat (first | apply Kd.R_alloc | apply Kd.R_drewN | apply Kd.R_drew)); exact Kd.R_mono HO_10.out (fun _ hk => trivial)⟩, (aB HB)⟩
              case rest =>
               apply Classical.byContradiction
               intro hn_
               letI h_ : (0 : Nat) = 1 := (hn_ (by
                clear hn_
                clear HC49
                try clear c33b0
                obtain ⟨kq, x151_48, rfl, HA, HJ48, HO_3, HO_10, HB⟩ := hcut
                cases kq with
                | zero => exact absurd HA.out (by simp [laws_FnLeadTrips.j4])
                | succ kj48 =>
                 have H := HA.out
                 clear HA
                 simp only [laws_FnLeadTrips.j4] at H
                 rcases Bool.eq_false_or_eq_true x151_48 with rfl | rfl
                 ·replace H := iT rfl H
                  exact absurd (Option.some.inj H) (by rw [hT]; decide)
                 ·replace H := iF (by decide) H
                  have HC62 := Aside0.mk H
                  clear H
                  go_upto_if 152 with (fail)
                  repeat (go_quiet (fail); go_upto_if 152 with (fail))
                  go_cut [] (fun wc => ∃ (kq : Nat), Aside0 (laws_FnLeadTrips.j5 kq l0 = some r) ∧ Aside0 (kq ≤ kj48) ∧ Aside0 (Below w.heap.size w wc))
                  case first =>
                   have H := HC62.out
                   clear HC62
                   rcases Bool.eq_false_or_eq_true t494 with rfl | rfl
                   ·replace H := iT rfl H
                    replace H := Option.bind_eq_some_iff.mp H
                    obtain ⟨⟨t498, t499⟩, A640, H⟩ := H
                    replace H : ((impl_RankLeads.f kj48 t498).bind fun bt502 => (if t499 = true then (if bt502.2 = true then ((laws_rHas.f kj48 bt502.1 t493).bind fun t506 => (if t506 = true then (some false) else (if (bt502.1.length : Int) = (wrap64 ((t482.length : Int) - 1)) then (laws_FnLeadTrips.j5 kj48 l0) else (some false)))) else (some false)) else (some false))) = some r := H
                    have A64 := Aside0.mk A640
                    clear A640
                    replace H := Option.bind_eq_some_iff.mp H
                    obtain ⟨⟨t502, t503⟩, A650, H⟩ := H
                    replace H : (if t499 = true then (if t503 = true then ((laws_rHas.f kj48 t502 t493).bind fun t506 => (if t506 = true then (some false) else (if (t502.length : Int) = (wrap64 ((t482.length : Int) - 1)) then (laws_FnLeadTrips.j5 kj48 l0) else (some false)))) else (some false)) else (some false)) = some r := H
                    have A65 := Aside0.mk A650
                    clear A650
                    rcases Bool.eq_false_or_eq_true t499 with rfl | rfl
                    ·replace H := iT rfl H
                     rcases Bool.eq_false_or_eq_true t503 with rfl | rfl
                     ·replace H := iT rfl H
                      replace H := bA H
                      obtain ⟨t506, A68, H⟩ := H
                      rcases Bool.eq_false_or_eq_true t506 with rfl | rfl
                      ·replace H := iT rfl H
                       exact absurd (Option.some.inj H) (by rw [hT]; decide)
                      ·replace H := iF (by decide) H
                       replace H := ifI H
                       rcases H with ⟨H, -, c74b0, c74b1⟩ | ⟨H, c74, c74b0, c74b1⟩
                       ·(first | rw [c74b0] | (simp only [i64_w, i32_w]; rw [c74b0]) | skip)
                        have H' := Aside0.mk H
                        clear H
                        go_wp2_with (first | (go_at_call 29; (with_reducible refine (impl_ChangeLead.calls kj48 _ _ t468 t493 1 t498 true _ ?side1 ?side2 A64.out).mono ?_); (case side1 => repeat (first | exact (Kd.R_reads' HO_3.out).2.2 | (with_reducible refine Kd.C_alloc ?_ _) | (with_reducible refine Kd.C_drewN ?_ _) | (with_reducible refine Kd.C_drew ?_))); (case side2 => exact (Kd.R_reads' HO_3.out).2.1); rintro e w75 ⟨v500, rfl, ho0, hb⟩; have HO501 := Aside0.mk (Kd.R_lower (Kd.R_new' ho0 (Kd.R_lt (upR HO_3.out))) (below_size (bW HB))); replace HO_3 := Aside0.mk (Kd.R_elder' (upR HO_3.out) (Kd.R_base ho0) hb); replace HO_10 := uR HO_10 hb; replace HB := uB HB hb; (try clear hb); (try clear hk); (try clear ho0); obtain ⟨Ao76, co76, eo76⟩ := Kd.R_slice HO501.out; subst eo76) | (go_at_call 34; (with_reducible refine (impl_RankLeads.calls kj48 _ _ t498 t502 true _ ?side1 ?side2 A65.out).mono ?_); (case side1 => repeat (first | exact (Kd.R_reads' HO501.out).2.2 | (with_reducible refine Kd.C_alloc ?_ _) | (with_reducible refine Kd.C_drewN ?_ _) | (with_reducible refine Kd.C_drew ?_))); (case side2 => exact (Kd.R_reads' HO501.out).2.1); rintro e w77 ⟨v504, rfl, ho0, hb⟩; have HO505 := Aside0.mk (Kd.R_lower (Kd.R_new' ho0 (Kd.R_lt (upR HO_10.out))) (below_size (bW HB))); replace HO_3 := uR HO_3 hb; replace HO_10 := Aside0.mk (Kd.R_elder' (upR HO_10.out) (Kd.R_base ho0) hb); replace HO501 := uR HO501 hb; replace HB := uB HB hb; (try clear hb); (try clear hk); (try clear ho0); obtain ⟨Ao78, co78, eo78⟩ := Kd.R_slice HO505.out; subst eo78) | (go_at_call 40; (with_reducible refine (laws_rHas.calls kj48 _ _ t502 t493 false _ ?side1 ?side2 A68.out).mono ?_); (case side1 => repeat (first | exact (Kd.R_reads' HO505.out).2.2 | (with_reducible refine Kd.C_alloc ?_ _) | (with_reducible refine Kd.C_drewN ?_ _) | (with_reducible refine Kd.C_drew ?_))); (case side2 => exact (Kd.R_reads' HO505.out).2.1); rintro e w' ⟨rfl, ⟨nd, rfl⟩⟩; (try first | exact ⟨rfl, _, World.drewN_drewN _ _ _⟩ | exact ⟨rfl, _, Eq.trans (World.drewN_drewN _ _ _) (congrArg (World.drewN _) (Nat.add_assoc _ _ _))⟩); obtain ⟨Ao79, co79, eo79⟩ := Kd.R_slice HO_10.out; subst eo79))
                        repeat (go_quiet (first | (go_at_call 29; (with_reducible refine (impl_ChangeLead.calls kj48 _ _ t468 t493 1 t498 true _ ?side1 ?side2 A64.out).mono ?_); (case side1 => repeat (first | exact (Kd.R_reads' HO_3.out).2.2 | (with_reducible refine Kd.C_alloc ?_ _) | (with_reducible refine Kd.C_drewN ?_ _) | (with_reducible refine Kd.C_drew ?_))); (case side2 => exact (Kd.R_reads' HO_3.out).2.1); rintro e w75 ⟨v500, rfl, ho0, hb⟩; have HO501 := Aside0.mk (Kd.R_lower (Kd.R_new' ho0 (Kd.R_lt (upR HO_3.out))) (below_size (bW HB))); replace HO_3 := Aside0.mk (Kd.R_elder' (upR HO_3.out) (Kd.R_base ho0) hb); replace HO_10 := uR HO_10 hb; replace HB := uB HB hb; (try clear hb); (try clear hk); (try clear ho0); obtain ⟨Ao76, co76, eo76⟩ := Kd.R_slice HO501.out; subst eo76) | (go_at_call 34; (with_reducible refine (impl_RankLeads.calls kj48 _ _ t498 t502 true _ ?side1 ?side2 A65.out).mono ?_); (case side1 => repeat (first | exact (Kd.R_reads' HO501.out).2.2 | (with_reducible refine Kd.C_alloc ?_ _) | (with_reducible refine Kd.C_drewN ?_ _) | (with_reducible refine Kd.C_drew ?_))); (case side2 => exact (Kd.R_reads' HO501.out).2.1); rintro e w77 ⟨v504, rfl, ho0, hb⟩; have HO505 := Aside0.mk (Kd.R_lower (Kd.R_new' ho0 (Kd.R_lt (upR HO_10.out))) (below_size (bW HB))); replace HO_3 := uR HO_3 hb; replace HO_10 := Aside0.mk (Kd.R_elder' (upR HO_10.out) (Kd.R_base ho0) hb); replace HO501 := uR HO501 hb; replace HB := uB HB hb; (try clear hb); (try clear hk); (try clear ho0); obtain ⟨Ao78, co78, eo78⟩ := Kd.R_slice HO505.out; subst eo78) | (go_at_call 40; (with_reducible refine (laws_rHas.calls kj48 _ _ t502 t493 false _ ?side1 ?side2 A68.out).mono ?_); (case side1 => repeat (first | exact (Kd.R_reads' HO505.out).2.2 | (with_reducible refine Kd.C_alloc ?_ _) | (with_reducible refine Kd.C_drewN ?_ _) | (with_reducible refine Kd.C_drew ?_))); (case side2 => exact (Kd.R_reads' HO505.out).2.1); rintro e w' ⟨rfl, ⟨nd, rfl⟩⟩; (try first | exact ⟨rfl, _, World.drewN_drewN _ _ _⟩ | exact ⟨rfl, _, Eq.trans (World.drewN_drewN _ _ _) (congrArg (World.drewN _) (Nat.add_assoc _ _ _))⟩); obtain ⟨Ao79, co79, eo79⟩ := Kd.R_slice HO_10.out; subst eo79)); try go_wp2_with (first | (go_at_call 29; (with_reducible refine (impl_ChangeLead.calls kj48 _ _ t468 t493 1 t498 true _ ?side1 ?side2 A64.out).mono ?_); (case side1 => repeat (first | exact (Kd.R_reads' HO_3.out).2.2 | (with_reducible refine Kd.C_alloc ?_ _) | (with_reducible refine Kd.C_drewN ?_ _) | (with_reducible refine Kd.C_drew ?_))); (case side2 => exact (Kd.R_reads' HO_3.out).2.1); rintro e w75 ⟨v500, rfl, ho0, hb⟩; have HO501 := Aside0.mk (Kd.R_lower (Kd.R_new' ho0 (Kd.R_lt (upR HO_3.out))) (below_size (bW HB))); replace HO_3 := Aside0.mk (Kd.R_elder' (upR HO_3.out) (Kd.R_base ho0) hb); replace HO_10 := uR HO_10 hb; replace HB := uB HB hb; (try clear hb); (try clear hk); (try clear ho0); obtain ⟨Ao76, co76, eo76⟩ := Kd.R_slice HO501.out; subst eo76) | (go_at_call 34; (with_reducible refine (impl_RankLeads.calls kj48 _ _ t498 t502 true _ ?side1 ?side2 A65.out).mono ?_); (case side1 => repeat (first | exact (Kd.R_reads' HO501.out).2.2 | (with_reducible refine Kd.C_alloc ?_ _) | (with_reducible refine Kd.C_drewN ?_ _) | (with_reducible refine Kd.C_drew ?_))); (case side2 => exact (Kd.R_reads' HO501.out).2.1); rintro e w77 ⟨v504, rfl, ho0, hb⟩; have HO505 := Aside0.mk (Kd.R_lower (Kd.R_new' ho0 (Kd.R_lt (upR HO_10.out))) (below_size (bW HB))); replace HO_3 := uR HO_3 hb; replace HO_10 := Aside0.mk (Kd.R_elder' (upR HO_10.out) (Kd.R_base ho0) hb); replace HO501 := uR HO501 hb; replace HB := uB HB hb; (try clear hb); (try clear hk); (try clear ho0); obtain ⟨Ao78, co78, eo78⟩ := Kd.R_slice HO505.out; subst eo78) | (go_at_call 40; (with_reducible refine (laws_rHas.calls kj48 _ _ t502 t493 false _ ?side1 ?side2 A68.out).mono ?_); (case side1 => repeat (first | exact (Kd.R_reads' HO505.out).2.2 | (with_reducible refine Kd.C_alloc ?_ _) | (with_reducible refine Kd.C_drewN ?_ _) | (with_reducible refine Kd.C_drew ?_))); (case side2 => exact (Kd.R_reads' HO505.out).2.1); rintro e w' ⟨rfl, ⟨nd, rfl⟩⟩; (try first | exact ⟨rfl, _, World.drewN_drewN _ _ _⟩ | exact ⟨rfl, _, Eq.trans (World.drewN_drewN _ _ _) (congrArg (World.drewN _) (Nat.add_assoc _ _ _))⟩); obtain ⟨Ao79, co79, eo79⟩ := Kd.R_slice HO_10.out; subst eo79)))
                        go_meet
                        case rel => exact ⟨_, H', ⟨by have := HJ6.out; have := HJ24.out; have := HK3.out; have := HJ48.out; first | omega | exact Nat.le_refl _⟩, (aB HB)⟩
                       ·(first | rw [c74b0] | (simp only [i64_w, i32_w]; rw [c74b0]) | skip)
                        exact absurd (Option.some.inj H) (by rw [hT]; decide)
                     ·replace H := iF (by decide) H
                      exact absurd (Option.some.inj H) (by rw [hT]; decide)
                    ·replace H := iF (by decide) H
                     exact absurd (Option.some.inj H) (by rw [hT]; decide)
                   ·replace H := iF (by decide) H
                    have H' := Aside0.mk H
                    clear H
                    go_wp2
                    repeat (go_quiet (fail); try go_wp2)
                    go_meet
                    case rel => exact ⟨_, H', ⟨by have := HJ6.out; have := HJ24.out; have := HK3.out; have := HJ48.out; first | omega | exact Nat.le_refl _⟩, (aB HB)⟩
                  case rest =>
                   apply Classical.byContradiction
                   intro hn_
                   letI h_ : (0 : Nat) = 1 := (hn_ (by
                    clear hn_
                    clear HC62
                    try clear c33b0
                    obtain ⟨kq, HA, HJ61, HB⟩ := hcut
                    cases kq with
                    | zero => exact absurd HA.out (by simp [laws_FnLeadTrips.j5])
                    | succ kj61 =>
                     have H := HA.out
                     clear HA
                     simp only [laws_FnLeadTrips.j5] at H
                     replace H := Option.bind_eq_some_iff.mp H
                     obtain ⟨⟨t507, t508, t509⟩, A910, H⟩ := H
                     replace H : ((impl_ChangeLead.f kj61 t507 t508 t509).bind fun bt512 => ((spec_ChangeLead.f kj61 t507 t508 t509).bind fun bt516 => (if (bt512.2 == bt516.2) = true then ((laws_rLeads.f kj61 bt512.1 bt516.1).bind fun t520 => (some t520)) else (some false)))) = some r := H
                     have A91 := Aside0.mk A910
                     clear A910
                     replace H := Option.bind_eq_some_iff.mp H
                     obtain ⟨⟨t512, t513⟩, A920, H⟩ := H
                     replace H : ((spec_ChangeLead.f kj61 t507 t508 t509).bind fun bt516 => (if (t513 == bt516.2) = true then ((laws_rLeads.f kj61 t512 bt516.1).bind fun t520 => (some t520)) else (some false))) = some r := H
                     have A92 := Aside0.mk A920
                     clear A920
                     replace H := Option.bind_eq_some_iff.mp H
                     obtain ⟨⟨t516, t517⟩, A930, H⟩ := H
                     replace H : (if (t513 == t517) = true then ((laws_rLeads.f kj61 t512 t516).bind fun t520 => (some t520)) else (some false)) = some r := H
                     have A93 := Aside0.mk A930
                     clear A930
                     by_cases c94 : (t513 == t517) = true
                     ·rw [if_pos c94] at H
                      have c94b0 : (t513 == t517) = true := c94
                      (try (have c94b1 : decide (t513 = t517) = true := by simpa using c94))
                      (try (have c94b2 : (t513 == t517) = true := by simpa using c94))
                      clear c94
                      replace H := bA H
                      obtain ⟨t520, A95, H⟩ := H
                      obtain rfl := (Option.some.inj H)
                      go_wp2_with (first | (go_at_call 41; (with_reducible refine (spec_DrawChangeLead.calls kj61 _ _ l0 t507 t508 t509 _ ?side1 ?side2 A91.out).mono ?_); (case side1 => repeat (first | exact (Kd.C_below HR0.out HB.out) | (with_reducible refine Kd.C_alloc ?_ _) | (with_reducible refine Kd.C_drewN ?_ _) | (with_reducible refine Kd.C_drew ?_))); (case side2 => exact HC0.out); rintro e w96 ⟨v510, rfl, ho0, hb⟩; have HO511 := Aside0.mk (Kd.R_lower ho0 (below_size (bW HB))); replace HB := uB HB hb; (try clear hb); (try clear hk); (try clear ho0); obtain ⟨Ao97, co97, eo97⟩ := Kd.R_slice HO511.out; subst eo97) | (go_at_call 29; (with_reducible refine (impl_ChangeLead.calls kj61 _ _ t507 t508 t509 t512 t513 _ ?side1 ?side2 A92.out).mono ?_); (case side1 => repeat (first | exact (Kd.R_reads' HO511.out).2.2 | (with_reducible refine Kd.C_alloc ?_ _) | (with_reducible refine Kd.C_drewN ?_ _) | (with_reducible refine Kd.C_drew ?_))); (case side2 => exact (Kd.R_reads' HO511.out).2.1); rintro e w98 ⟨v514, rfl, ho0, hb⟩; have HO515 := Aside0.mk (Kd.R_lower (Kd.R_new' ho0 (Kd.R_lt (upR HO511.out))) (below_size (bW HB))); replace HO511 := Aside0.mk (Kd.R_elder' (upR HO511.out) (Kd.R_base ho0) hb); replace HB := uB HB hb; (try clear hb); (try clear hk); (try clear ho0)) | (go_at_call 28; (with_reducible refine (spec_ChangeLead.calls kj61 _ _ t507 t508 t509 t516 t517 _ ?side1 ?side2 A93.out).mono ?_); (case side1 => repeat (first | exact (Kd.R_reads' HO511.out).2.2 | (with_reducible refine Kd.C_alloc ?_ _) | (with_reducible refine Kd.C_drewN ?_ _) | (with_reducible refine Kd.C_drew ?_))); (case side2 => exact (Kd.R_reads' HO511.out).2.1); rintro e w99 ⟨v518, rfl, ho0, hb⟩; have HO519 := Aside0.mk (Kd.R_lower (Kd.R_new' (Kd.R_new' ho0 (Kd.R_lt (upR HO511.out))) (Kd.R_lt (upR HO515.out))) (below_size (bW HB))); replace HO511 := Aside0.mk (Kd.R_elder' (upR HO511.out) (Kd.R_base ho0) hb); replace HO515 := Aside0.mk (Kd.R_elder' (upR HO515.out) (Kd.R_base ho0) hb); replace HB := uB HB hb; (try clear hb); (try clear hk); (try clear ho0); obtain ⟨Ao100, co100, eo100⟩ := Kd.R_slice HO515.out; subst eo100; obtain ⟨Ao101, co101, eo101⟩ := Kd.R_slice HO519.out; subst eo101) | (go_at_call 42; (with_reducible refine (laws_rLeads.calls kj61 _ _ t512 _ _ t516 t520 _ ?side1 ?side2 ?side3 ?side4 A95.out).mono ?_); (case side1 => repeat (first | exact (Kd.R_reads' HO515.out).2.2 | (with_reducible refine Kd.C_alloc ?_ _) | (with_reducible refine Kd.C_drewN ?_ _) | (with_reducible refine Kd.C_drew ?_))); (case side2 => exact (Kd.R_reads' HO515.out).2.1); (case side3 => repeat (first | exact (Kd.R_reads' HO519.out).2.2 | (with_reducible refine Kd.C_alloc ?_ _) | (with_reducible refine Kd.C_drewN ?_ _) | (with_reducible refine Kd.C_drew ?_))); (case side4 => exact (Kd.R_reads' HO519.out).2.1); rintro e w' ⟨rfl, ⟨nd, rfl⟩⟩; (try first | exact ⟨rfl, _, World.drewN_drewN _ _ _⟩ | exact ⟨rfl, _, Eq.trans (World.drewN_drewN _ _ _) (congrArg (World.drewN _) (Nat.add_assoc _ _ _))⟩)))
                      repeat (go_quiet (first | (go_at_call 41; (with_reducible refine (spec_DrawChangeLead.calls kj61 _ _ l0 t507 t508 t509 _ ?side1 ?side2 A91.out).mono ?_); (case side1 => repeat (first | exact (Kd.C_below HR0.out HB.out) | (with_reducible refine Kd.C_alloc ?_ _) | (with_reducible refine Kd.C_drewN ?_ _) | (with_reducible refine Kd.C_drew ?_))); (case side2 => exact HC0.out); rintro e w96 ⟨v510, rfl, ho0, hb⟩; have HO511 := Aside0.mk (Kd.R_lower ho0 (below_size (bW HB))); replace HB := uB HB hb; (try clear hb); (try clear hk); (try clear ho0); obtain ⟨Ao97, co97, eo97⟩ := Kd.R_slice HO511.out; subst eo97) | (go_at_call 29; (with_reducible refine (impl_ChangeLead.calls kj61 _ _ t507 t508 t509 t512 t513 _ ?side1 ?side2 A92.out).mono ?_); (case side1 => repeat (first | exact (Kd.R_reads' HO511.out).2.2 | (with_reducible refine Kd.C_alloc ?_ _) | (with_reducible refine Kd.C_drewN ?_ _) | (with_reducible refine Kd.C_drew ?_))); (case side2 => exact (Kd.R_reads' HO511.out).2.1); rintro e w98 ⟨v514, rfl, ho0, hb⟩; have HO515 := Aside0.mk (Kd.R_lower (Kd.R_new' ho0 (Kd.R_lt (upR HO511.out))) (below_size (bW HB))); replace HO511 := Aside0.mk (Kd.R_elder' (upR HO511.out) (Kd.R_base ho0) hb); replace HB := uB HB hb; (try clear hb); (try clear hk); (try clear ho0)) | (go_at_call 28; (with_reducible refine (spec_ChangeLead.calls kj61 _ _ t507 t508 t509 t516 t517 _ ?side1 ?side2 A93.out).mono ?_); (case side1 => repeat (first | exact (Kd.R_reads' HO511.out).2.2 | (with_reducible refine Kd.C_alloc ?_ _) | (with_reducible refine Kd.C_drewN ?_ _) | (with_reducible refine Kd.C_drew ?_))); (case side2 => exact (Kd.R_reads' HO511.out).2.1); rintro e w99 ⟨v518, rfl, ho0, hb⟩; have HO519 := Aside0.mk (Kd.R_lower (Kd.R_new' (Kd.R_new' ho0 (Kd.R_lt (upR HO511.out))) (Kd.R_lt (upR HO515.out))) (below_size (bW HB))); replace HO511 := Aside0.mk (Kd.R_elder' (upR HO511.out) (Kd.R_base ho0) hb); replace HO515 := Aside0.mk (Kd.R_elder' (upR HO515.out) (Kd.R_base ho0) hb); replace HB := uB HB hb; (try clear hb); (try clear hk); (try clear ho0); obtain ⟨Ao100, co100, eo100⟩ := Kd.R_slice HO515.out; subst eo100; obtain ⟨Ao101, co101, eo101⟩ := Kd.R_slice HO519.out; subst eo101) | (go_at_call 42; (with_reducible refine (laws_rLeads.calls kj61 _ _ t512 _ _ t516 t520 _ ?side1 ?side2 ?side3 ?side4 A95.out).mono ?_); (case side1 => repeat (first | exact (Kd.R_reads' HO515.out).2.2 | (with_reducible refine Kd.C_alloc ?_ _) | (with_reducible refine Kd.C_drewN ?_ _) | (with_reducible refine Kd.C_drew ?_))); (case side2 => exact (Kd.R_reads' HO515.out).2.1); (case side3 => repeat (first | exact (Kd.R_reads' HO519.out).2.2 | (with_reducible refine Kd.C_alloc ?_ _) | (with_reducible refine Kd.C_drewN ?_ _) | (with_reducible refine Kd.C_drew ?_))); (case side4 => exact (Kd.R_reads' HO519.out).2.1); rintro e w' ⟨rfl, ⟨nd, rfl⟩⟩; (try first | exact ⟨rfl, _, World.drewN_drewN _ _ _⟩ | exact ⟨rfl, _, Eq.trans (World.drewN_drewN _ _ _) (congrArg (World.drewN _) (Nat.add_assoc _ _ _))⟩))); try go_wp2_with (first | (go_at_call 41; (with_reducible refine (spec_DrawChangeLead.calls kj61 _ _ l0 t507 t508 t509 _ ?side1 ?side2 A91.out).mono ?_); (case side1 => repeat (first | exact (Kd.C_below HR0.out HB.out) | (with_reducible refine Kd.C_alloc ?_ _) | (with_reducible refine Kd.C_drewN ?_ _) | (with_reducible refine Kd.C_drew ?_))); (case side2 => exact HC0.out); rintro e w96 ⟨v510, rfl, ho0, hb⟩; have HO511 := Aside0.mk (Kd.R_lower ho0 (below_size (bW HB))); replace HB := uB HB hb; (try clear hb); (try clear hk); (try clear ho0); obtain ⟨Ao97, co97, eo97⟩ := Kd.R_slice HO511.out; subst eo97) | (go_at_call 29; (with_reducible refine (impl_ChangeLead.calls kj61 _ _ t507 t508 t509 t512 t513 _ ?side1 ?side2 A92.out).mono ?_); (case side1 => repeat (first | exact (Kd.R_reads' HO511.out).2.2 | (with_reducible refine Kd.C_alloc ?_ _) | (with_reducible refine Kd.C_drewN ?_ _) | (with_reducible refine Kd.C_drew ?_))); (case side2 => exact (Kd.R_reads' HO511.out).2.1); rintro e w98 ⟨v514, rfl, ho0, hb⟩; have HO515 := Aside0.mk (Kd.R_lower (Kd.R_new' ho0 (Kd.R_lt (upR HO511.out))) (below_size (bW HB))); replace HO511 := Aside0.mk (Kd.R_elder' (upR HO511.out) (Kd.R_base ho0) hb); replace HB := uB HB hb; (try clear hb); (try clear hk); (try clear ho0)) | (go_at_call 28; (with_reducible refine (spec_ChangeLead.calls kj61 _ _ t507 t508 t509 t516 t517 _ ?side1 ?side2 A93.out).mono ?_); (case side1 => repeat (first | exact (Kd.R_reads' HO511.out).2.2 | (with_reducible refine Kd.C_alloc ?_ _) | (with_reducible refine Kd.C_drewN ?_ _) | (with_reducible refine Kd.C_drew ?_))); (case side2 => exact (Kd.R_reads' HO511.out).2.1); rintro e w99 ⟨v518, rfl, ho0, hb⟩; have HO519 := Aside0.mk (Kd.R_lower (Kd.R_new' (Kd.R_new' ho0 (Kd.R_lt (upR HO511.out))) (Kd.R_lt (upR HO515.out))) (below_size (bW HB))); replace HO511 := Aside0.mk (Kd.R_elder' (upR HO511.out) (Kd.R_base ho0) hb); replace HO515 := Aside0.mk (Kd.R_elder' (upR HO515.out) (Kd.R_base ho0) hb); replace HB := uB HB hb; (try clear hb); (try clear hk); (try clear ho0); obtain ⟨Ao100, co100, eo100⟩ := Kd.R_slice HO515.out; subst eo100; obtain ⟨Ao101, co101, eo101⟩ := Kd.R_slice HO519.out; subst eo101) | (go_at_call 42; (with_reducible refine (laws_rLeads.calls kj61 _ _ t512 _ _ t516 t520 _ ?side1 ?side2 ?side3 ?side4 A95.out).mono ?_); (case side1 => repeat (first | exact (Kd.R_reads' HO515.out).2.2 | (with_reducible refine Kd.C_alloc ?_ _) | (with_reducible refine Kd.C_drewN ?_ _) | (with_reducible refine Kd.C_drew ?_))); (case side2 => exact (Kd.R_reads' HO515.out).2.1); (case side3 => repeat (first | exact (Kd.R_reads' HO519.out).2.2 | (with_reducible refine Kd.C_alloc ?_ _) | (with_reducible refine Kd.C_drewN ?_ _) | (with_reducible refine Kd.C_drew ?_))); (case side4 => exact (Kd.R_reads' HO519.out).2.1); rintro e w' ⟨rfl, ⟨nd, rfl⟩⟩; (try first | exact ⟨rfl, _, World.drewN_drewN _ _ _⟩ | exact ⟨rfl, _, Eq.trans (World.drewN_drewN _ _ _) (congrArg (World.drewN _) (Nat.add_assoc _ _ _))⟩))))
                      go_ret
                      exact ⟨eB, (bW HB)⟩
                     ·rw [if_neg c94] at H
                      have c94b0 : (t513 == t517) = false := by simpa using c94
                      (try (have c94b1 : decide (t513 = t517) = false := by simpa using c94))
                      (try (have c94b2 : (t513 == t517) = false := by simpa using c94))
                      (try (have c94b3 : ¬ (t513 = t517) := by simpa using c94))
                      clear c94
                      exact absurd (Option.some.inj H) (by rw [hT]; decide)
                    )).elim
                   omega
                )).elim
               omega
            )).elim
           omega
        )).elim
       omega
    )).elim
   omega
/-- THE ONE PURE STATEMENT of laws_FnLeadTrips: yours. -/

def laws_FnLeadTrips.Pure : Prop := ∀ (l0 : List Int), l0.length ≤ maxLen → l0.length * 1 ≤ 140737488351232 → (∀ x ∈ l0, (Lit.int .u8 x).wf = true) → ∃ k, laws_FnLeadTrips.f k l0 = some true
theorem laws_FnLeadTrips.walk (P : laws_FnLeadTrips.Pure) (a0 : Option Addr) (len0 cap0 : Nat) (z0 : List Int) (w : World) (w0 : (a0 = none ∧ len0 = 0 ∧ cap0 = 0 ∧ z0 = []) ∨ ∃ x, a0 = some x ∧ len0 ≤ cap0 ∧ cap0 ≤ maxLen ∧ z0.length = cap0 ∧ (∀ i, i < z0.length → w.cell? (x.add i) = some (.int .u8 (z0.getD i 0))) ∧ ∀ n ∈ z0, (Lit.int .u8 n).wf = true) (y0 : len0 * 1 ≤ 140737488351232) :
  Calls Try.prog 11 #[.slice a0 len0 cap0] w fun e w' => e = .returned (.bool true) ∧ Below w.heap.size w w' := by
 obtain ⟨l0, rfl, hr0, hm0, hw0, hc0⟩ := ReadsInt.ofRowC w0
 obtain ⟨k, h⟩ := P l0 hm0 y0 hw0
 refine (laws_FnLeadTrips.calls k _ _ l0 true w (Kd.C_of_reads (d := (0 : Int)) (h1 := fun _ => rfl) hr0) hc0 h rfl).mono ?_
 rintro e w' ⟨rfl, hd⟩
 exact ⟨rfl, hd⟩

end Go.Proofs.Ytldgjibimolcdaa.QFnLeadTrips
