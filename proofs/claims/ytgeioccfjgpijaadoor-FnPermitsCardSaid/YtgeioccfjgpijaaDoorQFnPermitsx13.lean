/- Contracts of Go functions that FnPermits reaches: the call computes what the plain function says. No condition. -/
import Derived.Test.YtgeioccfjgpijaaDoorQFnPermitsx0
import Derived.Test.YtgeioccfjgpijaaDoorQFnPermitsx4
import Derived.Test.YtgeioccfjgpijaaDoorQFnPermitsx5
import Derived.Test.YtgeioccfjgpijaaDoorQFnPermitsx6
import Derived.Test.YtgeioccfjgpijaaDoorQFnPermitsx7
import Derived.Test.YtgeioccfjgpijaaDoorQFnPermitsx8
import Derived.Test.YtgeioccfjgpijaaDoorQFnPermitsx9
import Derived.Test.YtgeioccfjgpijaaDoorQFnPermitsx10
import Derived.Test.YtgeioccfjgpijaaDoorQFnPermitsx11
import Derived.Test.YtgeioccfjgpijaaDoorQFnPermitsx12
namespace Go.Proofs.YtgeioccfjgpijaaDoor.QFnPermits
open Go.RowKit Go.Proofs.YtgeioccfjgpijaaDoorW.PrintWords Go.Proofs.YtgeioccfjgpijaaDoorW.PrintLast Go.Proofs.YtgeioccfjgpijaaDoorW.PrintMore
attribute [local go_sem] max2_int min2_int max_two min_two max_three min_three max_four min_four   -- for this text's walks alone
set_option linter.unusedVariables false
set_option linter.unusedSimpArgs false

/-! ### laws_FnPermits: function 12 -/
mutual
def laws_FnPermits.j0 : Nat → List Int → Int → Bool → List (S26) → Bool → Bool → Option (Bool)
 | 0, _, _, _, _, _, _ => none
 | k + 1, x0, x4, x5, x6, x7, x74 => if x74 = true then (some false) else (laws_FnPermits.l0 k x0 x4 x5 x6 x7 0)
def laws_FnPermits.l0 : Nat → List Int → Int → Bool → List (S26) → Bool → Int → Option (Bool)
 | 0, _, _, _, _, _, _ => none
 | k + 1, x0, x4, x5, x6, x7, x10 => if x10 < (x6.length : Int) then (if x7 = true then (laws_FnPermits.j2 k x0 x4 x5 x6 x7 x10 x5) else (laws_FnPermits.j2 k x0 x4 x5 x6 x7 x10 false)) else (laws_FnPermits.j2 k x0 x4 x5 x6 x7 x10 false)
def laws_FnPermits.j2 : Nat → List Int → Int → Bool → List (S26) → Bool → Int → Bool → Option (Bool)
 | 0, _, _, _, _, _, _, _ => none
 | k + 1, x0, x4, x5, x6, x7, x10, x84 => if x84 = true then (if 0 ≤ x10 then (if x10 < (x6.length : Int) then (if ((rd_T26 x6 x10).f0) = x4 then ((impl_AllowedOn.f k x6 ((rd_T26 x6 x10).f1) ((rd_T26 x6 x10).f2)).bind fun bt543 => ((impl_UsePermit.f k x6 x4 ((rd_T26 x6 x10).f3) ((rd_T26 x6 x10).f4)).bind fun bt545 => (if bt543.2 = true then (if bt543.1 = x4 then (if bt545.2 = true then (if (bt545.1.length : Int) = (x6.length : Int) then (if x10 < (bt545.1.length : Int) then (laws_FnPermits.j3 k x0 x4 x5 x6 x7 x10 bt545.1 (((rd_T26 bt545.1 x10).f5) != 3) ((rd_T26 x6 x10).f0) ((rd_T26 x6 x10).f1) ((rd_T26 x6 x10).f2) ((rd_T26 x6 x10).f3) ((rd_T26 x6 x10).f4) ((rd_T26 x6 x10).f5)) else (none)) else (laws_FnPermits.j3 k x0 x4 x5 x6 x7 x10 bt545.1 true ((rd_T26 x6 x10).f0) ((rd_T26 x6 x10).f1) ((rd_T26 x6 x10).f2) ((rd_T26 x6 x10).f3) ((rd_T26 x6 x10).f4) ((rd_T26 x6 x10).f5))) else (laws_FnPermits.j3 k x0 x4 x5 x6 x7 x10 bt545.1 true ((rd_T26 x6 x10).f0) ((rd_T26 x6 x10).f1) ((rd_T26 x6 x10).f2) ((rd_T26 x6 x10).f3) ((rd_T26 x6 x10).f4) ((rd_T26 x6 x10).f5))) else (laws_FnPermits.j3 k x0 x4 x5 x6 x7 x10 bt545.1 true ((rd_T26 x6 x10).f0) ((rd_T26 x6 x10).f1) ((rd_T26 x6 x10).f2) ((rd_T26 x6 x10).f3) ((rd_T26 x6 x10).f4) ((rd_T26 x6 x10).f5))) else (laws_FnPermits.j3 k x0 x4 x5 x6 x7 x10 bt545.1 true ((rd_T26 x6 x10).f0) ((rd_T26 x6 x10).f1) ((rd_T26 x6 x10).f2) ((rd_T26 x6 x10).f3) ((rd_T26 x6 x10).f4) ((rd_T26 x6 x10).f5))))) else (laws_FnPermits.l0 k x0 x4 x5 x6 x7 (wrap64 (x10 + 1)))) else (none)) else (none)) else ((spec_DrawUsePermit.f k x0).bind fun bt558 => ((impl_UsePermit.f k bt558.1 bt558.2.1 bt558.2.2.1 bt558.2.2.2).bind fun bt564 => ((spec_UsePermit.f k bt558.1 bt558.2.1 bt558.2.2.1 bt558.2.2.2).bind fun bt568 => (if (bt564.2 != bt568.2) = true then (laws_FnPermits.j4 k x0 true) else ((laws_rPermits.f k bt564.1 bt568.1).bind fun t572 => (if t572 = true then ((impl_ArePermits.f k bt558.1).bind fun t573 => ((spec_ArePermits.f k bt558.1).bind fun t574 => (laws_FnPermits.j4 k x0 (t573 != t574)))) else (laws_FnPermits.j4 k x0 true)))))))
def laws_FnPermits.j3 : Nat → List Int → Int → Bool → List (S26) → Bool → Int → List (S26) → Bool → Int → ByteArray → Int → Int → Int → Int → Option (Bool)
 | 0, _, _, _, _, _, _, _, _, _, _, _, _, _, _ => none
 | k + 1, x0, x4, x5, x6, x7, x10, x14, x139, x543000, x543001, x543002, x543003, x543004, x543005 => if x139 = true then (some false) else (if x543003 < 999 then ((impl_LapsePermits.f k x14 (wrap64 (x543003 + 1))).bind fun bt550 => ((impl_AllowedOn.f k bt550.1 x543001 x543002).bind fun bt555 => (if bt550.2.2 = true then (if bt550.2.1 < 1 then (some false) else (if bt555.2 = true then (some false) else (if (bt550.1.length : Int) = (x6.length : Int) then (if 0 ≤ x10 then (if x10 < (bt550.1.length : Int) then (if ((rd_T26 bt550.1 x10).f5) = 4 then (laws_FnPermits.l0 k x0 x4 x5 x6 x7 (wrap64 (x10 + 1))) else (some false)) else (none)) else (none)) else (some false)))) else (some false)))) else (laws_FnPermits.l0 k x0 x4 x5 x6 x7 (wrap64 (x10 + 1))))
def laws_FnPermits.j4 : Nat → List Int → Bool → Option (Bool)
 | 0, _, _ => none
 | k + 1, x0, x223 => if x223 = true then (some false) else ((spec_DrawLapsePermits.f k x0).bind fun bt575 => ((impl_LapsePermits.f k bt575.1 bt575.2).bind fun bt579 => ((spec_LapsePermits.f k bt575.1 bt575.2).bind fun bt584 => (if (bt579.2.2 != bt584.2.2) = true then (laws_FnPermits.j5 k x0 true) else (if bt579.2.1 = bt584.2.1 then ((laws_rPermits.f k bt579.1 bt584.1).bind fun t589 => (laws_FnPermits.j5 k x0 (!t589))) else (laws_FnPermits.j5 k x0 true))))))
def laws_FnPermits.j5 : Nat → List Int → Bool → Option (Bool)
 | 0, _, _ => none
 | k + 1, x0, x256 => if x256 = true then (some false) else ((spec_DrawAllowedOn.f k x0).bind fun bt590 => ((impl_AllowedOn.f k bt590.1 bt590.2.1 bt590.2.2).bind fun bt595 => ((spec_AllowedOn.f k bt590.1 bt590.2.1 bt590.2.2).bind fun bt597 => (if bt595.1 = bt597.1 then (some (bt595.2 == bt597.2)) else (some false)))))
end
def laws_FnPermits.f (k : Nat) (l0 : List Int) : Option (Bool) := (laws_rBig.f l0).bind fun t526 => (if t526 = true then (some true) else ((spec_DrawDecidePermit.f k l0).bind fun bt527 => ((impl_DecidePermit.f k bt527.1 bt527.2.1 bt527.2.2).bind fun bt532 => ((spec_DecidePermit.f k bt527.1 bt527.2.1 bt527.2.2).bind fun bt536 => (if (bt532.2 != bt536.2) = true then (laws_FnPermits.j0 k l0 bt527.2.1 bt527.2.2 bt532.1 bt532.2 true) else ((laws_rPermits.f k bt532.1 bt536.1).bind fun t540 => (laws_FnPermits.j0 k l0 bt527.2.1 bt527.2.2 bt532.1 bt532.2 (!t540))))))))
theorem laws_FnPermits.mono_l : ∀ k, (∀ y0 y1 y2 y3 y4 y5, LeO (laws_FnPermits.j0 k y0 y1 y2 y3 y4 y5) (laws_FnPermits.j0 (k + 1) y0 y1 y2 y3 y4 y5)) ∧ (∀ y0 y1 y2 y3 y4 y5, LeO (laws_FnPermits.l0 k y0 y1 y2 y3 y4 y5) (laws_FnPermits.l0 (k + 1) y0 y1 y2 y3 y4 y5)) ∧ (∀ y0 y1 y2 y3 y4 y5 y6, LeO (laws_FnPermits.j2 k y0 y1 y2 y3 y4 y5 y6) (laws_FnPermits.j2 (k + 1) y0 y1 y2 y3 y4 y5 y6)) ∧ (∀ y0 y1 y2 y3 y4 y5 y6 y7 y8 y9 y10 y11 y12 y13, LeO (laws_FnPermits.j3 k y0 y1 y2 y3 y4 y5 y6 y7 y8 y9 y10 y11 y12 y13) (laws_FnPermits.j3 (k + 1) y0 y1 y2 y3 y4 y5 y6 y7 y8 y9 y10 y11 y12 y13)) ∧ (∀ y0 y1, LeO (laws_FnPermits.j4 k y0 y1) (laws_FnPermits.j4 (k + 1) y0 y1)) ∧ (∀ y0 y1, LeO (laws_FnPermits.j5 k y0 y1) (laws_FnPermits.j5 (k + 1) y0 y1))
 | 0 => ⟨fun _ _ _ _ _ _ r h => by simp [laws_FnPermits.j0] at h, fun _ _ _ _ _ _ r h => by simp [laws_FnPermits.l0] at h, fun _ _ _ _ _ _ _ r h => by simp [laws_FnPermits.j2] at h, fun _ _ _ _ _ _ _ _ _ _ _ _ _ _ r h => by simp [laws_FnPermits.j3] at h, fun _ _ r h => by simp [laws_FnPermits.j4] at h, fun _ _ r h => by simp [laws_FnPermits.j5] at h⟩
 | k + 1 => by
  obtain ⟨ih0, ih1, ih2, ih3, ih4, ih5⟩ := laws_FnPermits.mono_l k
  refine ⟨?_, ?_, ?_, ?_, ?_, ?_⟩
  ·intro y0 y1 y2 y3 y4 y5
   unfold laws_FnPermits.j0
   repeat' with_reducible first | apply ih0 | apply ih1 | apply ih2 | apply ih3 | apply ih4 | apply ih5 | apply impl_AllowedOn.mono | apply impl_ArePermits.mono | apply impl_DecidePermit.mono | apply impl_LapsePermits.mono | apply impl_UsePermit.mono | apply laws_rPermits.mono | apply spec_AllowedOn.mono | apply spec_ArePermits.mono | apply spec_DecidePermit.mono | apply spec_DrawAllowedOn.mono | apply spec_DrawDecidePermit.mono | apply spec_DrawLapsePermits.mono | apply spec_DrawUsePermit.mono | apply spec_LapsePermits.mono | apply spec_UsePermit.mono | exact LeO.refl _ | exact LeO.none _ | refine LeO.ite ?_ ?_ | refine LeO.bind ?_ (fun _ => ?_)
  ·intro y0 y1 y2 y3 y4 y5
   unfold laws_FnPermits.l0
   repeat' with_reducible first | apply ih0 | apply ih1 | apply ih2 | apply ih3 | apply ih4 | apply ih5 | apply impl_AllowedOn.mono | apply impl_ArePermits.mono | apply impl_DecidePermit.mono | apply impl_LapsePermits.mono | apply impl_UsePermit.mono | apply laws_rPermits.mono | apply spec_AllowedOn.mono | apply spec_ArePermits.mono | apply spec_DecidePermit.mono | apply spec_DrawAllowedOn.mono | apply spec_DrawDecidePermit.mono | apply spec_DrawLapsePermits.mono | apply spec_DrawUsePermit.mono | apply spec_LapsePermits.mono | apply spec_UsePermit.mono | exact LeO.refl _ | exact LeO.none _ | refine LeO.ite ?_ ?_ | refine LeO.bind ?_ (fun _ => ?_)
  ·intro y0 y1 y2 y3 y4 y5 y6
   unfold laws_FnPermits.j2
   repeat' with_reducible first | apply ih0 | apply ih1 | apply ih2 | apply ih3 | apply ih4 | apply ih5 | apply impl_AllowedOn.mono | apply impl_ArePermits.mono | apply impl_DecidePermit.mono | apply impl_LapsePermits.mono | apply impl_UsePermit.mono | apply laws_rPermits.mono | apply spec_AllowedOn.mono | apply spec_ArePermits.mono | apply spec_DecidePermit.mono | apply spec_DrawAllowedOn.mono | apply spec_DrawDecidePermit.mono | apply spec_DrawLapsePermits.mono | apply spec_DrawUsePermit.mono | apply spec_LapsePermits.mono | apply spec_UsePermit.mono | exact LeO.refl _ | exact LeO.none _ | refine LeO.ite ?_ ?_ | refine LeO.bind ?_ (fun _ => ?_)
  ·intro y0 y1 y2 y3 y4 y5 y6 y7 y8 y9 y10 y11 y12 y13
   unfold laws_FnPermits.j3
   repeat' with_reducible first | apply ih0 | apply ih1 | apply ih2 | apply ih3 | apply ih4 | apply ih5 | apply impl_AllowedOn.mono | apply impl_ArePermits.mono | apply impl_DecidePermit.mono | apply impl_LapsePermits.mono | apply impl_UsePermit.mono | apply laws_rPermits.mono | apply spec_AllowedOn.mono | apply spec_ArePermits.mono | apply spec_DecidePermit.mono | apply spec_DrawAllowedOn.mono | apply spec_DrawDecidePermit.mono | apply spec_DrawLapsePermits.mono | apply spec_DrawUsePermit.mono | apply spec_LapsePermits.mono | apply spec_UsePermit.mono | exact LeO.refl _ | exact LeO.none _ | refine LeO.ite ?_ ?_ | refine LeO.bind ?_ (fun _ => ?_)
  ·intro y0 y1
   unfold laws_FnPermits.j4
   repeat' with_reducible first | apply ih0 | apply ih1 | apply ih2 | apply ih3 | apply ih4 | apply ih5 | apply impl_AllowedOn.mono | apply impl_ArePermits.mono | apply impl_DecidePermit.mono | apply impl_LapsePermits.mono | apply impl_UsePermit.mono | apply laws_rPermits.mono | apply spec_AllowedOn.mono | apply spec_ArePermits.mono | apply spec_DecidePermit.mono | apply spec_DrawAllowedOn.mono | apply spec_DrawDecidePermit.mono | apply spec_DrawLapsePermits.mono | apply spec_DrawUsePermit.mono | apply spec_LapsePermits.mono | apply spec_UsePermit.mono | exact LeO.refl _ | exact LeO.none _ | refine LeO.ite ?_ ?_ | refine LeO.bind ?_ (fun _ => ?_)
  ·intro y0 y1
   unfold laws_FnPermits.j5
   repeat' with_reducible first | apply ih0 | apply ih1 | apply ih2 | apply ih3 | apply ih4 | apply ih5 | apply impl_AllowedOn.mono | apply impl_ArePermits.mono | apply impl_DecidePermit.mono | apply impl_LapsePermits.mono | apply impl_UsePermit.mono | apply laws_rPermits.mono | apply spec_AllowedOn.mono | apply spec_ArePermits.mono | apply spec_DecidePermit.mono | apply spec_DrawAllowedOn.mono | apply spec_DrawDecidePermit.mono | apply spec_DrawLapsePermits.mono | apply spec_DrawUsePermit.mono | apply spec_LapsePermits.mono | apply spec_UsePermit.mono | exact LeO.refl _ | exact LeO.none _ | refine LeO.ite ?_ ?_ | refine LeO.bind ?_ (fun _ => ?_)
theorem laws_FnPermits.mono : ∀ a0 k, LeO (laws_FnPermits.f k a0) (laws_FnPermits.f (k + 1) a0) := by
 intro a0 k
 obtain ⟨ih0, ih1, ih2, ih3, ih4, ih5⟩ := laws_FnPermits.mono_l k
 unfold laws_FnPermits.f
 repeat' with_reducible first | apply ih0 | apply ih1 | apply ih2 | apply ih3 | apply ih4 | apply ih5 | apply impl_AllowedOn.mono | apply impl_ArePermits.mono | apply impl_DecidePermit.mono | apply impl_LapsePermits.mono | apply impl_UsePermit.mono | apply laws_rPermits.mono | apply spec_AllowedOn.mono | apply spec_ArePermits.mono | apply spec_DecidePermit.mono | apply spec_DrawAllowedOn.mono | apply spec_DrawDecidePermit.mono | apply spec_DrawLapsePermits.mono | apply spec_DrawUsePermit.mono | apply spec_LapsePermits.mono | apply spec_UsePermit.mono | exact LeO.refl _ | exact LeO.none _ | refine LeO.ite ?_ ?_ | refine LeO.bind ?_ (fun _ => ?_)
set_option maxHeartbeats 8000000 in
set_option maxRecDepth 100000 in
theorem laws_FnPermits.calls (k : Nat) (A0 : Option Addr) (c0 : Nat) (l0 : List Int) (r : Bool) (w : World) (hr0 : Kd.C (Kd.int .u8) w A0 l0.length l0) (hc0 : l0.length ≤ c0) (h : laws_FnPermits.f k l0 = some r) (hT : r = true) :
  Calls Tryd.prog 12 #[.slice A0 l0.length c0] w fun e w' => e = .returned (.bool r) ∧ Below w.heap.size w w' := by
 have hu26 := Tryd.underlying26
 have HR0 := Aside0.mk hr0
 have HC0 := Aside0.mk hc0
 clear hr0 hc0
 have HB := Aside0.mk (Below.refl w.heap.size w)
 have H := h
 clear h
 unfold laws_FnPermits.f at H
 replace H := bA H
 obtain ⟨t526, A2, H⟩ := H
 rcases Bool.eq_false_or_eq_true t526 with rfl | rfl
 ·replace H := iT rfl H
  obtain rfl := (Option.some.inj H)
  go_enter Tryd.func12, Tryd.ntmps12
  go_wp2_with (first | ((with_reducible refine gC 42 ?_); refine lA (some 45) Tryd.func42 (laws_rBig.calls _ _ l0 true _ ?side1 ?side2 A2.out) ?_; (case side1 => repeat (first | exact HR0.out | (with_reducible refine Kd.C_alloc ?_ _) | (with_reducible refine Kd.C_drewN ?_ _) | (with_reducible refine Kd.C_drew ?_))); (case side2 => exact HC0.out); rintro _ ⟨nd, rfl⟩))
  go_ret
  exact ⟨eB, (bW HB)⟩
 ·replace H := iF (by decide) H
  replace H := Option.bind_eq_some_iff.mp H
  obtain ⟨⟨t527, t528, t529⟩, A40, H⟩ := H
  replace H : ((impl_DecidePermit.f k t527 t528 t529).bind fun bt532 => ((spec_DecidePermit.f k t527 t528 t529).bind fun bt536 => (if (bt532.2 != bt536.2) = true then (laws_FnPermits.j0 k l0 t528 t529 bt532.1 bt532.2 true) else ((laws_rPermits.f k bt532.1 bt536.1).bind fun t540 => (laws_FnPermits.j0 k l0 t528 t529 bt532.1 bt532.2 (!t540)))))) = some r := H
  have A4 := Aside0.mk A40
  clear A40
  replace H := Option.bind_eq_some_iff.mp H
  obtain ⟨⟨t532, t533⟩, A50, H⟩ := H
  replace H : ((spec_DecidePermit.f k t527 t528 t529).bind fun bt536 => (if (t533 != bt536.2) = true then (laws_FnPermits.j0 k l0 t528 t529 t532 t533 true) else ((laws_rPermits.f k t532 bt536.1).bind fun t540 => (laws_FnPermits.j0 k l0 t528 t529 t532 t533 (!t540))))) = some r := H
  have A5 := Aside0.mk A50
  clear A50
  replace H := Option.bind_eq_some_iff.mp H
  obtain ⟨⟨t536, t537⟩, A60, H⟩ := H
  replace H : (if (t533 != t537) = true then (laws_FnPermits.j0 k l0 t528 t529 t532 t533 true) else ((laws_rPermits.f k t532 t536).bind fun t540 => (laws_FnPermits.j0 k l0 t528 t529 t532 t533 (!t540)))) = some r := H
  have A6 := Aside0.mk A60
  clear A60
  have HC7 := Aside0.mk H
  clear H
  go_enter Tryd.func12, Tryd.ntmps12
  go_upto_region 6 with (first | ((with_reducible refine gC 42 ?_); refine lA (some 45) Tryd.func42 (laws_rBig.calls _ _ l0 false _ ?side1 ?side2 A2.out) ?_; (case side1 => repeat (first | exact HR0.out | (with_reducible refine Kd.C_alloc ?_ _) | (with_reducible refine Kd.C_drewN ?_ _) | (with_reducible refine Kd.C_drew ?_))); (case side2 => exact HC0.out); rintro _ ⟨nd, rfl⟩) | ((with_reducible refine gate_callee (f := 43) rfl ?_); refine goesL_ (some 48) rfl rfl Tryd.func43 (by kernel_rfl) rfl #[.slice A0 l0.length c0] rfl argsB ?_; (with_reducible refine (spec_DrawDecidePermit.calls k _ _ l0 t527 t528 t529 _ ?side1 ?side2 A4.out).mono ?_); (case side1 => repeat (first | exact HR0.out | (with_reducible refine Kd.C_alloc ?_ _) | (with_reducible refine Kd.C_drewN ?_ _) | (with_reducible refine Kd.C_drew ?_))); (case side2 => exact HC0.out); rintro e w8 ⟨v530, rfl, ho0, hb⟩; refine ⟨_, rfl, ?_⟩; have HO531 := Aside0.mk (Kd.R_lower ho0 (below_size (bW HB))); replace HB := uB HB hb; (try clear hb); (try clear hk); (try clear ho0); obtain ⟨Ao9, co9, eo9⟩ := Kd.R_slice HO531.out; subst eo9) | ((with_reducible refine gate_callee (f := 36) rfl ?_); refine goesL_ (some 56) rfl rfl Tryd.func36 (by kernel_rfl) rfl #[.slice Ao9 t527.length co9, .int .i64 t528, .bool t529] rfl argsB ?_; (with_reducible refine (impl_DecidePermit.calls k _ _ t527 t528 t529 t532 t533 _ ?side1 ?side2 A5.out).mono ?_); (case side1 => repeat (first | exact (Kd.R_reads' HO531.out).2.2 | (with_reducible refine Kd.C_alloc ?_ _) | (with_reducible refine Kd.C_drewN ?_ _) | (with_reducible refine Kd.C_drew ?_))); (case side2 => exact (Kd.R_reads' HO531.out).2.1); rintro e w10 ⟨v534, rfl, ho0, hb⟩; refine ⟨_, rfl, ?_⟩; have HO535 := Aside0.mk (Kd.R_lower (Kd.R_new' ho0 (Kd.R_lt (upR HO531.out))) (below_size (bW HB))); replace HO531 := Aside0.mk (Kd.R_elder' (upR HO531.out) (Kd.R_base ho0) hb); replace HB := uB HB hb; (try clear hb); (try clear hk); (try clear ho0)) | ((with_reducible refine gate_callee (f := 35) rfl ?_); refine goesL_ (some 63) rfl rfl Tryd.func35 (by kernel_rfl) rfl #[.slice Ao9 t527.length co9, .int .i64 t528, .bool t529] rfl argsB ?_; (with_reducible refine (spec_DecidePermit.calls k _ _ t527 t528 t529 t536 t537 _ ?side1 ?side2 A6.out).mono ?_); (case side1 => repeat (first | exact (Kd.R_reads' HO531.out).2.2 | (with_reducible refine Kd.C_alloc ?_ _) | (with_reducible refine Kd.C_drewN ?_ _) | (with_reducible refine Kd.C_drew ?_))); (case side2 => exact (Kd.R_reads' HO531.out).2.1); rintro e w11 ⟨v538, rfl, ho0, hb⟩; refine ⟨_, rfl, ?_⟩; have HO539 := Aside0.mk (Kd.R_lower (Kd.R_new' (Kd.R_new' ho0 (Kd.R_lt (upR HO531.out))) (Kd.R_lt (upR HO535.out))) (below_size (bW HB))); replace HO531 := Aside0.mk (Kd.R_elder' (upR HO531.out) (Kd.R_base ho0) hb); replace HO535 := Aside0.mk (Kd.R_elder' (upR HO535.out) (Kd.R_base ho0) hb); replace HB := uB HB hb; (try clear hb); (try clear hk); (try clear ho0)))
  (try simp only [Act.put, List.setIfInBounds_toArray, List.set_cons_zero, List.set_cons_succ])
  go_cut [74] (fun v74 wc => ∃ (kq : Nat) (x74_6 : Bool), v74 = .bool x74_6 ∧ Aside0 (laws_FnPermits.j0 kq l0 t528 t529 t532 t533 x74_6 = some r) ∧ Aside0 (kq ≤ k) ∧ Aside0 (Kd.R k26 26 wc w.heap.size (fun _ => True) v534 t532) ∧ Aside0 (Below w.heap.size w wc))
  case first =>
   have H := HC7.out
   clear HC7
   by_cases c12 : (t533 != t537) = true
   ·rw [if_pos c12] at H
    have c12b0 : (t533 != t537) = true := c12
    (try (have c12b1 : decide (t533 = t537) = false := by simpa using c12))
    (try (have c12b2 : (t533 == t537) = false := by simpa using c12))
    (try (have c12b3 : ¬ (t533 = t537) := by simpa using c12))
    clear c12
    (first | rw [c12b0] | (simp only [i64_w, i32_w]; rw [c12b0]) | skip)
    have H' := Aside0.mk H
    clear H
    go_wp2
    go_meet
    case rel => exact ⟨_, (true), rB, H', leB, ⟨by (with_reducible repeat (first | apply Kd.R_alloc | apply Kd.R_drewN | apply Kd.R_drew)); exact Kd.R_mono HO535.out (fun _ hk => trivial)⟩, (aB HB)⟩
   ·rw [if_neg c12] at H
    have c12b0 : (t533 != t537) = false := by simpa using c12
    (try (have c12b1 : decide (t533 = t537) = true := by simpa using c12))
    (try (have c12b2 : (t533 == t537) = true := by simpa using c12))
    clear c12
    (first | rw [c12b0] | (simp only [i64_w, i32_w]; rw [c12b0]) | skip)
    replace H := bA H
    obtain ⟨t540, A13, H⟩ := H
    have H' := Aside0.mk H
    clear H
    obtain ⟨Ao14, co14, eo14⟩ := Kd.R_slice HO535.out
    subst eo14
    obtain ⟨Ao15, co15, eo15⟩ := Kd.R_slice HO539.out
    subst eo15
    go_wp2_with (first | (go_at_call 44; (with_reducible refine (laws_rPermits.calls k _ _ t532 _ _ t536 t540 _ ?side1 ?side2 ?side3 ?side4 A13.out).mono ?_); (case side1 => repeat (first | exact (Kd.R_reads' HO535.out).2.2 | (with_reducible refine Kd.C_alloc ?_ _) | (with_reducible refine Kd.C_drewN ?_ _) | (with_reducible refine Kd.C_drew ?_))); (case side2 => exact (Kd.R_reads' HO535.out).2.1); (case side3 => repeat (first | exact (Kd.R_reads' HO539.out).2.2 | (with_reducible refine Kd.C_alloc ?_ _) | (with_reducible refine Kd.C_drewN ?_ _) | (with_reducible refine Kd.C_drew ?_))); (case side4 => exact (Kd.R_reads' HO539.out).2.1); rintro e w' ⟨rfl, ⟨nd, rfl⟩⟩))
    go_meet
    case rel => exact ⟨_, (!t540), rB, H', leB, ⟨by (with_reducible repeat (first | apply Kd.R_alloc | apply Kd.R_drewN | apply Kd.R_drew)); exact Kd.R_mono HO535.out (fun _ hk => trivial)⟩, (aB HB)⟩
  case rest =>
   apply Classical.byContradiction
   intro hn_
   letI h_ : (0 : Nat) = 1 := (hn_ (by
    clear hn_
    clear HC7
    obtain ⟨kq, x74_6, rfl, HA, HJ6, HO_6, HB⟩ := hcut
    cases kq with
    | zero => exact absurd HA.out (by simp [laws_FnPermits.j0])
    | succ kj6 =>
     have H := HA.out
     clear HA
     simp only [laws_FnPermits.j0] at H
     rcases Bool.eq_false_or_eq_true x74_6 with rfl | rfl
     ·replace H := iT rfl H
      exact absurd (Option.some.inj H) (by rw [hT]; decide)
     ·replace H := iF (by decide) H
      have H' := Aside0.mk H
      clear H
      go_wp2
      go_loopg [10] kj6 (fun kq v10 w' => ∃ (x10_2 : Int), v10 = .int .i64 x10_2 ∧ Aside0 (laws_FnPermits.l0 kq l0 t528 t529 t532 t533 x10_2 = some r) ∧ Aside0 (kq ≤ kj6) ∧ Aside0 (Kd.R k26 26 w' w.heap.size (fun _ => True) v534 t532) ∧ Aside0 (Below w.heap.size w w'))
      case atStart => exact ⟨(0), rB, H', ⟨Nat.le_refl _⟩, ⟨upR HO_6.out⟩, (aB HB)⟩
      case round =>
       apply Classical.byContradiction
       intro hn_
       letI h_ : (0 : Nat) = 1 := (hn_ (by
        clear hn_
        clear H'
        obtain ⟨x10_2, rfl, HA, HK2, HO_6, HB⟩ := hrel
        cases gk with
        | zero => exact absurd HA.out (by simp [laws_FnPermits.l0])
        | succ k2 =>
         have H := HA.out
         clear HA
         simp only [laws_FnPermits.l0] at H
         have HC17 := Aside0.mk H
         clear H
         go_upto_region 9 with (fail)
         go_cut [84] (fun v84 wc => ∃ (kq : Nat) (x84_16 : Bool), v84 = .bool x84_16 ∧ Aside0 (laws_FnPermits.j2 kq l0 t528 t529 t532 t533 x10_2 x84_16 = some r) ∧ Aside0 (kq ≤ k2) ∧ Aside0 (Kd.R k26 26 wc w.heap.size (fun _ => True) v534 t532) ∧ Aside0 (Below w.heap.size w wc))
         case first =>
          have H := HC17.out
          clear HC17
          replace H := ifD H
          rcases H with ⟨H, -, c18b0⟩ | ⟨H, -, c18b0⟩
          ·(first | rw [c18b0] | (simp only [i64_w, i32_w]; rw [c18b0]) | skip)
           rcases Bool.eq_false_or_eq_true t533 with rfl | rfl
           ·replace H := iT rfl H
            have H' := Aside0.mk H
            clear H
            obtain ⟨Ao20, co20, eo20⟩ := Kd.R_slice HO_6.out
            subst eo20
            go_wp2
            go_meet
            case rel => exact ⟨_, (t529), rB, H', ⟨by have := HJ6.out; have := HK2.out; first | omega | exact Nat.le_refl _⟩, ⟨upR HO_6.out⟩, (aB HB)⟩
           ·replace H := iF (by decide) H
            have H' := Aside0.mk H
            clear H
            obtain ⟨Ao21, co21, eo21⟩ := Kd.R_slice HO_6.out
            subst eo21
            go_wp2
            go_meet
            case rel => exact ⟨_, (false), rB, H', ⟨by have := HJ6.out; have := HK2.out; first | omega | exact Nat.le_refl _⟩, ⟨upR HO_6.out⟩, (aB HB)⟩
          ·(first | rw [c18b0] | (simp only [i64_w, i32_w]; rw [c18b0]) | skip)
           have H' := Aside0.mk H
           clear H
           obtain ⟨Ao22, co22, eo22⟩ := Kd.R_slice HO_6.out
           subst eo22
           go_wp2
           go_meet
           case rel => exact ⟨_, (false), rB, H', ⟨by have := HJ6.out; have := HK2.out; first | omega | exact Nat.le_refl _⟩, ⟨upR HO_6.out⟩, (aB HB)⟩
         case rest =>
          apply Classical.byContradiction
          intro hn_
          letI h_ : (0 : Nat) = 1 := (hn_ (by
           clear hn_
           clear HC17
           obtain ⟨kq, x84_16, rfl, HA, HJ16, HO_6, HB⟩ := hcut
           cases kq with
           | zero => exact absurd HA.out (by simp [laws_FnPermits.j2])
           | succ kj16 =>
            have H := HA.out
            clear HA
            simp only [laws_FnPermits.j2] at H
            rcases Bool.eq_false_or_eq_true x84_16 with rfl | rfl
            ·replace H := iT rfl H
             by_cases c24 : 0 ≤ x10_2
             ·rw [if_pos c24] at H
              have c24b0 : decide (0 ≤ x10_2) = true := decide_eq_true c24
              clear c24
              by_cases c25 : x10_2 < (t532.length : Int)
              ·rw [if_pos c25] at H
               have c25b0 : decide (x10_2 < (t532.length : Int)) = true := decide_eq_true c25
               clear c25
               replace H := ifI H
               rcases H with ⟨H, -, c26b0, c26b1⟩ | ⟨H, c26, c26b0, c26b1⟩
               ·replace H := Option.bind_eq_some_iff.mp H
                obtain ⟨⟨t543, t544⟩, A270, H⟩ := H
                replace H : ((impl_UsePermit.f kj16 t532 t528 ((rd_T26 t532 x10_2).f3) ((rd_T26 t532 x10_2).f4)).bind fun bt545 => (if t544 = true then (if t543 = t528 then (if bt545.2 = true then (if (bt545.1.length : Int) = (t532.length : Int) then (if x10_2 < (bt545.1.length : Int) then (laws_FnPermits.j3 kj16 l0 t528 t529 t532 t533 x10_2 bt545.1 (((rd_T26 bt545.1 x10_2).f5) != 3) ((rd_T26 t532 x10_2).f0) ((rd_T26 t532 x10_2).f1) ((rd_T26 t532 x10_2).f2) ((rd_T26 t532 x10_2).f3) ((rd_T26 t532 x10_2).f4) ((rd_T26 t532 x10_2).f5)) else (none)) else (laws_FnPermits.j3 kj16 l0 t528 t529 t532 t533 x10_2 bt545.1 true ((rd_T26 t532 x10_2).f0) ((rd_T26 t532 x10_2).f1) ((rd_T26 t532 x10_2).f2) ((rd_T26 t532 x10_2).f3) ((rd_T26 t532 x10_2).f4) ((rd_T26 t532 x10_2).f5))) else (laws_FnPermits.j3 kj16 l0 t528 t529 t532 t533 x10_2 bt545.1 true ((rd_T26 t532 x10_2).f0) ((rd_T26 t532 x10_2).f1) ((rd_T26 t532 x10_2).f2) ((rd_T26 t532 x10_2).f3) ((rd_T26 t532 x10_2).f4) ((rd_T26 t532 x10_2).f5))) else (laws_FnPermits.j3 kj16 l0 t528 t529 t532 t533 x10_2 bt545.1 true ((rd_T26 t532 x10_2).f0) ((rd_T26 t532 x10_2).f1) ((rd_T26 t532 x10_2).f2) ((rd_T26 t532 x10_2).f3) ((rd_T26 t532 x10_2).f4) ((rd_T26 t532 x10_2).f5))) else (laws_FnPermits.j3 kj16 l0 t528 t529 t532 t533 x10_2 bt545.1 true ((rd_T26 t532 x10_2).f0) ((rd_T26 t532 x10_2).f1) ((rd_T26 t532 x10_2).f2) ((rd_T26 t532 x10_2).f3) ((rd_T26 t532 x10_2).f4) ((rd_T26 t532 x10_2).f5)))) = some r := H
                have A27 := Aside0.mk A270
                clear A270
                replace H := Option.bind_eq_some_iff.mp H
                obtain ⟨⟨t545, t546⟩, A280, H⟩ := H
                replace H : (if t544 = true then (if t543 = t528 then (if t546 = true then (if (t545.length : Int) = (t532.length : Int) then (if x10_2 < (t545.length : Int) then (laws_FnPermits.j3 kj16 l0 t528 t529 t532 t533 x10_2 t545 (((rd_T26 t545 x10_2).f5) != 3) ((rd_T26 t532 x10_2).f0) ((rd_T26 t532 x10_2).f1) ((rd_T26 t532 x10_2).f2) ((rd_T26 t532 x10_2).f3) ((rd_T26 t532 x10_2).f4) ((rd_T26 t532 x10_2).f5)) else (none)) else (laws_FnPermits.j3 kj16 l0 t528 t529 t532 t533 x10_2 t545 true ((rd_T26 t532 x10_2).f0) ((rd_T26 t532 x10_2).f1) ((rd_T26 t532 x10_2).f2) ((rd_T26 t532 x10_2).f3) ((rd_T26 t532 x10_2).f4) ((rd_T26 t532 x10_2).f5))) else (laws_FnPermits.j3 kj16 l0 t528 t529 t532 t533 x10_2 t545 true ((rd_T26 t532 x10_2).f0) ((rd_T26 t532 x10_2).f1) ((rd_T26 t532 x10_2).f2) ((rd_T26 t532 x10_2).f3) ((rd_T26 t532 x10_2).f4) ((rd_T26 t532 x10_2).f5))) else (laws_FnPermits.j3 kj16 l0 t528 t529 t532 t533 x10_2 t545 true ((rd_T26 t532 x10_2).f0) ((rd_T26 t532 x10_2).f1) ((rd_T26 t532 x10_2).f2) ((rd_T26 t532 x10_2).f3) ((rd_T26 t532 x10_2).f4) ((rd_T26 t532 x10_2).f5))) else (laws_FnPermits.j3 kj16 l0 t528 t529 t532 t533 x10_2 t545 true ((rd_T26 t532 x10_2).f0) ((rd_T26 t532 x10_2).f1) ((rd_T26 t532 x10_2).f2) ((rd_T26 t532 x10_2).f3) ((rd_T26 t532 x10_2).f4) ((rd_T26 t532 x10_2).f5))) = some r := H
                have A28 := Aside0.mk A280
                clear A280
                have HC29 := Aside0.mk H
                clear H
                obtain ⟨Ao30, co30, eo30⟩ := Kd.R_slice HO_6.out
                subst eo30
                have p541 : 0 ≤ (x10_2 : Int) := of_decide_eq_true asmB
                have q541 : x10_2 < (t532.length : Int) := of_decide_eq_true asmB
                obtain ⟨ad541, e541, hx541_0, hx541_1, hx541_2, hx541_3, hx541_4, hx541_5⟩ := at_T26 (Kd.R_reads' HO_6.out).2.2 x10_2 p541 q541
                cases e541
                replace p541 := eq_true p541
                replace q541 := eq_true q541
                go_upto_region 15 with (first | ((with_reducible refine gD 11 ?_); (try (refine gate_guard (by rfl) ?_; dsimp only)); refine bxE 11 26 #[.int .i64 0, .string (⟨#[]⟩ : ByteArray), .int .i64 0, .int .i64 0, .int .i64 0, .int .i64 0] fun gb542 w31 hg hbox hb => ?_; have BK542 := Aside0.mk hbox; have GE542 := gB HB hg; replace HO_6 := Aside0.mk (Kd.R_below (Kd.R_elderB (upR HO_6.out) gb542 (Nat.le_of_eq hg.symm)) hb); replace HB := uB HB hb; clear hb hbox hg; have hcz32_0 := ci BK542.out 0 0 rfl; have hcz32_1 : w31.cell? ⟨gb542, 1, none⟩ = some (.string (⟨#[]⟩ : ByteArray)) := cb BK542 1; have hcz32_2 := ci BK542.out 2 0 rfl; have hcz32_3 := ci BK542.out 3 0 rfl; have hcz32_4 := ci BK542.out 4 0 rfl; have hcz32_5 := ci BK542.out 5 0 rfl; have hfz32_0 := fun j_ : Nat => blk_frozen BK542.out j_) | ((with_reducible refine gC 24 ?_); refine lA (some 101) Tryd.func24 (impl_AllowedOn.calls kj16 _ _ t532 ((rd_T26 t532 x10_2).f1) ((rd_T26 t532 x10_2).f2) t543 t544 _ ?side1 ?side2 A27.out) ?_; (case side1 => refine (Kd.R_reads' (e := 26) (base := w.heap.size) (ok := fun k_ => (True ∧ k_ ≠ gb542)) (n := t532.length) (c := co30) ?_).2.2; exact (by (with_reducible repeat (first | apply Kd.R_alloc | apply Kd.R_drewN | apply Kd.R_drew)); exact (Kd.R_mono (Kd.R_far (p := ⟨gb542, 5, none⟩) (Kd.R_far (p := ⟨gb542, 4, none⟩) (Kd.R_far (p := ⟨gb542, 3, none⟩) (Kd.R_far (p := ⟨gb542, 2, none⟩) (Kd.R_far (p := ⟨gb542, 1, none⟩) (Kd.R_far (p := ⟨gb542, 0, none⟩) (Kd.R_mono HO_6.out (fun k_ hk => (⟨hk, hk.2⟩ : _ ∧ k_ ≠ gb542))) (fun _ hk => hk.2) (.int .i64 ((rd_T26 t532 x10_2).f0))) (fun _ hk => hk.2) (.string ((rd_T26 t532 x10_2).f1))) (fun _ hk => hk.2) (.int .i64 ((rd_T26 t532 x10_2).f2))) (fun _ hk => hk.2) (.int .i64 ((rd_T26 t532 x10_2).f3))) (fun _ hk => hk.2) (.int .i64 ((rd_T26 t532 x10_2).f4))) (fun _ hk => hk.2) (.int .i64 ((rd_T26 t532 x10_2).f5))) (fun _ h_ => h_.1)))); (case side2 => exact (Kd.R_reads' HO_6.out).2.1); intro w33 hb; replace HO_6 := Aside0.mk (Kd.R_below (by (with_reducible repeat (first | apply Kd.R_alloc | apply Kd.R_drewN | apply Kd.R_drew)); exact (Kd.R_mono (Kd.R_far (p := ⟨gb542, 5, none⟩) (Kd.R_far (p := ⟨gb542, 4, none⟩) (Kd.R_far (p := ⟨gb542, 3, none⟩) (Kd.R_far (p := ⟨gb542, 2, none⟩) (Kd.R_far (p := ⟨gb542, 1, none⟩) (Kd.R_far (p := ⟨gb542, 0, none⟩) (Kd.R_mono HO_6.out (fun k_ hk => (⟨hk, hk.2⟩ : _ ∧ k_ ≠ gb542))) (fun _ hk => hk.2) (.int .i64 ((rd_T26 t532 x10_2).f0))) (fun _ hk => hk.2) (.string ((rd_T26 t532 x10_2).f1))) (fun _ hk => hk.2) (.int .i64 ((rd_T26 t532 x10_2).f2))) (fun _ hk => hk.2) (.int .i64 ((rd_T26 t532 x10_2).f3))) (fun _ hk => hk.2) (.int .i64 ((rd_T26 t532 x10_2).f4))) (fun _ hk => hk.2) (.int .i64 ((rd_T26 t532 x10_2).f5))) (fun _ h_ => h_.1))) hb); replace BK542 := uQ BK542 hb #[.int .i64 ((rd_T26 t532 x10_2).f0), .string ((rd_T26 t532 x10_2).f1), .int .i64 ((rd_T26 t532 x10_2).f2), .int .i64 ((rd_T26 t532 x10_2).f3), .int .i64 ((rd_T26 t532 x10_2).f4), .int .i64 ((rd_T26 t532 x10_2).f5)]; replace HB := uB HB hb; (try clear hb); (try clear hk); have hcz34_0 := ci BK542.out 0 ((rd_T26 t532 x10_2).f0) rfl; have hcz34_1 : w33.cell? ⟨gb542, 1, none⟩ = some (.string ((rd_T26 t532 x10_2).f1)) := cb BK542 1; have hcz34_2 := ci BK542.out 2 ((rd_T26 t532 x10_2).f2) rfl; have hcz34_3 := ci BK542.out 3 ((rd_T26 t532 x10_2).f3) rfl; have hcz34_4 := ci BK542.out 4 ((rd_T26 t532 x10_2).f4) rfl; have hcz34_5 := ci BK542.out 5 ((rd_T26 t532 x10_2).f5) rfl; have hfz34_0 := fun j_ : Nat => blk_frozen BK542.out j_) | ((with_reducible refine gate_callee (f := 34) rfl ?_); refine goesL_ (some 111) rfl rfl Tryd.func34 (by kernel_rfl) rfl #[.slice (some ad541) t532.length co30, .int .i64 t528, .int .i64 ((rd_T26 t532 x10_2).f3), .int .i64 ((rd_T26 t532 x10_2).f4)] rfl argsB ?_; (with_reducible refine (impl_UsePermit.calls kj16 _ _ t532 t528 ((rd_T26 t532 x10_2).f3) ((rd_T26 t532 x10_2).f4) t545 t546 _ ?side1 ?side2 A28.out).mono ?_); (case side1 => repeat (first | exact (Kd.R_reads' HO_6.out).2.2 | (with_reducible refine Kd.C_alloc ?_ _) | (with_reducible refine Kd.C_drewN ?_ _) | (with_reducible refine Kd.C_drew ?_))); (case side2 => exact (Kd.R_reads' HO_6.out).2.1); rintro e w35 ⟨v547, rfl, ho0, hb⟩; refine ⟨_, rfl, ?_⟩; have HO548 := Aside0.mk (Kd.R_lower (Kd.R_newB (Kd.R_new' ho0 (Kd.R_lt (upR HO_6.out))) (g := gb542) (o := .cells #[.int .i64 ((rd_T26 t532 x10_2).f0), .string ((rd_T26 t532 x10_2).f1), .int .i64 ((rd_T26 t532 x10_2).f2), .int .i64 ((rd_T26 t532 x10_2).f3), .int .i64 ((rd_T26 t532 x10_2).f4), .int .i64 ((rd_T26 t532 x10_2).f5)] 26 (0, 0)) (upK BK542.out)) (below_size (bW HB))); replace HO_6 := Aside0.mk (Kd.R_elder' (upR HO_6.out) (Kd.R_base ho0) hb); replace BK542 := uK BK542 hb; replace HB := uB HB hb; (try clear hb); (try clear hk); (try clear ho0)))
                (try simp only [Act.put, List.setIfInBounds_toArray, List.set_cons_zero, List.set_cons_succ])
                go_cut [139] (fun v139 wc => ∃ (kq : Nat) (x139_28 : Bool), v139 = .bool x139_28 ∧ Aside0 (laws_FnPermits.j3 kq l0 t528 t529 t532 t533 x10_2 t545 x139_28 ((rd_T26 t532 x10_2).f0) ((rd_T26 t532 x10_2).f1) ((rd_T26 t532 x10_2).f2) ((rd_T26 t532 x10_2).f3) ((rd_T26 t532 x10_2).f4) ((rd_T26 t532 x10_2).f5) = some r) ∧ Aside0 (kq ≤ kj16) ∧ Aside0 (Kd.R k26 26 wc w.heap.size (fun k_ => some k_ ≠ (v547 : Value).ownBlock ∧ k_ ≠ gb542) (.slice (some ad541) t532.length co30) t532) ∧ Aside0 (Kd.R k26 26 wc w.heap.size (fun k_ => some k_ ≠ ((.slice (some ad541) t532.length co30) : Value).ownBlock ∧ k_ ≠ gb542) v547 t545) ∧ Aside0 (wc.heap[gb542]? = some (.cells #[.int .i64 ((rd_T26 t532 x10_2).f0), .string ((rd_T26 t532 x10_2).f1), .int .i64 ((rd_T26 t532 x10_2).f2), .int .i64 ((rd_T26 t532 x10_2).f3), .int .i64 ((rd_T26 t532 x10_2).f4), .int .i64 ((rd_T26 t532 x10_2).f5)] 26 (0, 0))) ∧ Aside0 (Below w.heap.size w wc))
                case first =>
                 have H := HC29.out
                 clear HC29
                 rcases Bool.eq_false_or_eq_true t544 with rfl | rfl
                 ·replace H := iT rfl H
                  replace H := ifI H
                  rcases H with ⟨H, -, c37b0, c37b1⟩ | ⟨H, c37, c37b0, c37b1⟩
                  ·(first | rw [c37b0] | (simp only [i64_w, i32_w]; rw [c37b0]) | skip)
                   rcases Bool.eq_false_or_eq_true t546 with rfl | rfl
                   ·replace H := iT rfl H
                    replace H := ifI H
                    rcases H with ⟨H, c39, c39b0, c39b1⟩ | ⟨H, c39, c39b0, c39b1⟩
                    ·have c39b2 : (t545.length == t532.length) = true := by first | simpa using c39 | (simp at c39 ⊢; omega)
                     clear c39
                     by_cases c40 : x10_2 < (t545.length : Int)
                     ·rw [if_pos c40] at H
                      have c40b0 : decide (x10_2 < (t545.length : Int)) = true := decide_eq_true c40
                      clear c40
                      have H' := Aside0.mk H
                      clear H
                      obtain ⟨Ao41, co41, eo41⟩ := Kd.R_slice HO548.out
                      subst eo41
                      have p549 : 0 ≤ (x10_2 : Int) := of_decide_eq_true asmB
                      have q549 : x10_2 < (t545.length : Int) := of_decide_eq_true asmB
                      obtain ⟨ad549, e549, hx549_0, hx549_1, hx549_2, hx549_3, hx549_4, hx549_5⟩ := at_T26 (Kd.R_reads' HO548.out).2.2 x10_2 p549 q549
                      cases e549
                      replace p549 := eq_true p549
                      replace q549 := eq_true q549
                      go_wp2
                      go_meet
                      case rel => exact ⟨_, ((((rd_T26 t545 x10_2).f5) != 3)), rB, H', ⟨by have := HJ6.out; have := HK2.out; have := HJ16.out; first | omega | exact Nat.le_refl _⟩, ⟨by (with_reducible repeat (first | apply Kd.R_alloc | apply Kd.R_drewN | apply Kd.R_drew)); exact Kd.R_mono HO_6.out (fun _ hk => ⟨hk.2, hk.1.2⟩)⟩, ⟨by (with_reducible repeat (first | apply Kd.R_alloc | apply Kd.R_drewN | apply Kd.R_drew)); exact Kd.R_mono HO548.out (fun _ hk => ⟨hk.1.2, hk.2⟩)⟩, (aK BK542), (aB HB)⟩
                     ·rw [if_neg c40] at H
                      exact absurd H (by simp)
                    ·have c39b2 : (t545.length == t532.length) = false := by first | simpa using c39 | (simp at c39 ⊢; omega)
                     have H' := Aside0.mk H
                     clear H
                     obtain ⟨Ao42, co42, eo42⟩ := Kd.R_slice HO548.out
                     subst eo42
                     go_wp2
                     go_meet
                     case rel => exact ⟨_, (true), rB, H', ⟨by have := HJ6.out; have := HK2.out; have := HJ16.out; first | omega | exact Nat.le_refl _⟩, ⟨by (with_reducible repeat (first | apply Kd.R_alloc | apply Kd.R_drewN | apply Kd.R_drew)); exact Kd.R_mono HO_6.out (fun _ hk => ⟨hk.2, hk.1.2⟩)⟩, ⟨by (with_reducible repeat (first | apply Kd.R_alloc | apply Kd.R_drewN | apply Kd.R_drew)); exact Kd.R_mono HO548.out (fun _ hk => ⟨hk.1.2, hk.2⟩)⟩, (aK BK542), (aB HB)⟩
                   ·replace H := iF (by decide) H
                    have H' := Aside0.mk H
                    clear H
                    go_wp2
                    go_meet
                    case rel => exact ⟨_, (true), rB, H', ⟨by have := HJ6.out; have := HK2.out; have := HJ16.out; first | omega | exact Nat.le_refl _⟩, ⟨by (with_reducible repeat (first | apply Kd.R_alloc | apply Kd.R_drewN | apply Kd.R_drew)); exact Kd.R_mono HO_6.out (fun _ hk => ⟨hk.2, hk.1.2⟩)⟩, ⟨by (with_reducible repeat (first | apply Kd.R_alloc | apply Kd.R_drewN | apply Kd.R_drew)); exact Kd.R_mono HO548.out (fun _ hk => ⟨hk.1.2, hk.2⟩)⟩, (aK BK542), (aB HB)⟩
                  ·(first | rw [c37b0] | (simp only [i64_w, i32_w]; rw [c37b0]) | skip)
                   have H' := Aside0.mk H
                   clear H
                   go_wp2
                   go_meet
                   case rel => exact ⟨_, (true), rB, H', ⟨by have := HJ6.out; have := HK2.out; have := HJ16.out; first | omega | exact Nat.le_refl _⟩, ⟨by (with_reducible repeat (first | apply Kd.R_alloc | apply Kd.R_drewN | apply Kd.R_drew)); exact Kd.R_mono HO_6.out (fun _ hk => ⟨hk.2, hk.1.2⟩)⟩, ⟨by (with_reducible repeat (first | apply Kd.R_alloc | apply Kd.R_drewN | apply Kd.R_drew)); exact Kd.R_mono HO548.out (fun _ hk => ⟨hk.1.2, hk.2⟩)⟩, (aK BK542), (aB HB)⟩
                 ·replace H := iF (by decide) H
                  have H' := Aside0.mk H
                  clear H
                  go_wp2
                  go_meet
                  case rel => exact ⟨_, (true), rB, H', ⟨by have := HJ6.out; have := HK2.out; have := HJ16.out; first | omega | exact Nat.le_refl _⟩, ⟨by (with_reducible repeat (first | apply Kd.R_alloc | apply Kd.R_drewN | apply Kd.R_drew)); exact Kd.R_mono HO_6.out (fun _ hk => ⟨hk.2, hk.1.2⟩)⟩, ⟨by (with_reducible repeat (first | apply Kd.R_alloc | apply Kd.R_drewN | apply Kd.R_drew)); exact Kd.R_mono HO548.out (fun _ hk => ⟨hk.1.2, hk.2⟩)⟩, (aK BK542), (aB HB)⟩
                case rest =>
                 apply Classical.byContradiction
                 intro hn_
                 letI h_ : (0 : Nat) = 1 := (hn_ (by
                  clear hn_
                  clear HC29
                  try clear c24
                  try clear c24b0
                  try clear c25
                  try clear c25b0
                  try clear c26
                  try clear c26b0
                  try clear c26b1
                  try clear hcz32_0
                  try clear hcz32_1
                  try clear hcz32_2
                  try clear hcz32_3
                  try clear hcz32_4
                  try clear hcz32_5
                  try clear hcz34_0
                  try clear hcz34_1
                  try clear hcz34_2
                  try clear hcz34_3
                  try clear hcz34_4
                  try clear hcz34_5
                  try clear hfz32_0
                  try clear hfz34_0
                  try clear hx541_0
                  try clear hx541_1
                  try clear hx541_2
                  try clear hx541_3
                  try clear hx541_4
                  try clear hx541_5
                  try clear p541
                  try clear q541
                  obtain ⟨kq, x139_28, rfl, HA, HJ28, HO_6, HO_14, BK542, HB⟩ := hcut
                  cases kq with
                  | zero => exact absurd HA.out (by simp [laws_FnPermits.j3])
                  | succ kj28 =>
                   have H := HA.out
                   clear HA
                   simp only [laws_FnPermits.j3] at H
                   rcases Bool.eq_false_or_eq_true x139_28 with rfl | rfl
                   ·replace H := iT rfl H
                    exact absurd (Option.some.inj H) (by rw [hT]; decide)
                   ·replace H := iF (by decide) H
                    replace H := ifD H
                    rcases H with ⟨H, -, c44b0⟩ | ⟨H, -, c44b0⟩
                    ·replace H := Option.bind_eq_some_iff.mp H
                     obtain ⟨⟨t550, t551, t552⟩, A450, H⟩ := H
                     replace H : ((impl_AllowedOn.f kj28 t550 ((rd_T26 t532 x10_2).f1) ((rd_T26 t532 x10_2).f2)).bind fun bt555 => (if t552 = true then (if t551 < 1 then (some false) else (if bt555.2 = true then (some false) else (if (t550.length : Int) = (t532.length : Int) then (if 0 ≤ x10_2 then (if x10_2 < (t550.length : Int) then (if ((rd_T26 t550 x10_2).f5) = 4 then (laws_FnPermits.l0 kj28 l0 t528 t529 t532 t533 (wrap64 (x10_2 + 1))) else (some false)) else (none)) else (none)) else (some false)))) else (some false))) = some r := H
                     have A45 := Aside0.mk A450
                     clear A450
                     replace H := Option.bind_eq_some_iff.mp H
                     obtain ⟨⟨t555, t556⟩, A460, H⟩ := H
                     replace H : (if t552 = true then (if t551 < 1 then (some false) else (if t556 = true then (some false) else (if (t550.length : Int) = (t532.length : Int) then (if 0 ≤ x10_2 then (if x10_2 < (t550.length : Int) then (if ((rd_T26 t550 x10_2).f5) = 4 then (laws_FnPermits.l0 kj28 l0 t528 t529 t532 t533 (wrap64 (x10_2 + 1))) else (some false)) else (none)) else (none)) else (some false)))) else (some false)) = some r := H
                     have A46 := Aside0.mk A460
                     clear A460
                     rcases Bool.eq_false_or_eq_true t552 with rfl | rfl
                     ·replace H := iT rfl H
                      replace H := ifD H
                      rcases H with ⟨H, -, c48b0⟩ | ⟨H, -, c48b0⟩
                      ·exact absurd (Option.some.inj H) (by rw [hT]; decide)
                      ·rcases Bool.eq_false_or_eq_true t556 with rfl | rfl
                       ·replace H := iT rfl H
                        exact absurd (Option.some.inj H) (by rw [hT]; decide)
                       ·replace H := iF (by decide) H
                        replace H := ifI H
                        rcases H with ⟨H, c62, c62b0, c62b1⟩ | ⟨H, c62, c62b0, c62b1⟩
                        ·have c62b2 : (t550.length == t532.length) = true := by first | simpa using c62 | (simp at c62 ⊢; omega)
                         clear c62
                         by_cases c63 : 0 ≤ x10_2
                         ·rw [if_pos c63] at H
                          have c63b0 : decide (0 ≤ x10_2) = true := decide_eq_true c63
                          clear c63
                          by_cases c64 : x10_2 < (t550.length : Int)
                          ·rw [if_pos c64] at H
                           have c64b0 : decide (x10_2 < (t550.length : Int)) = true := decide_eq_true c64
                           clear c64
                           replace H := ifI H
                           rcases H with ⟨H, -, c65b0, c65b1⟩ | ⟨H, c65, c65b0, c65b1⟩
                           ·have H' := Aside0.mk H
                            clear H
                            have hcz66_0 := ci BK542.out 0 ((rd_T26 t532 x10_2).f0) rfl
                            have hcz66_1 : wc.cell? ⟨gb542, 1, none⟩ = some (.string ((rd_T26 t532 x10_2).f1)) := cb BK542 1
                            have hcz66_2 := ci BK542.out 2 ((rd_T26 t532 x10_2).f2) rfl
                            have hcz66_3 := ci BK542.out 3 ((rd_T26 t532 x10_2).f3) rfl
                            have hcz66_4 := ci BK542.out 4 ((rd_T26 t532 x10_2).f4) rfl
                            have hcz66_5 := ci BK542.out 5 ((rd_T26 t532 x10_2).f5) rfl
                            have hfz66_0 := fun j_ : Nat => blk_frozen BK542.out j_
                            obtain ⟨Ao67, co67, eo67⟩ := Kd.R_slice HO_14.out
                            subst eo67
                            go_wp2_with (first | ((with_reducible refine gate_callee (f := 32) rfl ?_); refine goesL_ (some 148) rfl rfl Tryd.func32 (by kernel_rfl) rfl #[.slice Ao67 t545.length co67, .int .i64 (wrap64 (((rd_T26 t532 x10_2).f3) + 1))] rfl argsB ?_; (with_reducible refine (impl_LapsePermits.calls kj28 _ _ t545 (wrap64 (((rd_T26 t532 x10_2).f3) + 1)) t550 t551 true _ ?side1 ?side2 A45.out).mono ?_); (case side1 => repeat (first | exact (Kd.R_reads' HO_14.out).2.2 | (with_reducible refine Kd.C_alloc ?_ _) | (with_reducible refine Kd.C_drewN ?_ _) | (with_reducible refine Kd.C_drew ?_))); (case side2 => exact (Kd.R_reads' HO_14.out).2.1); rintro e w68 ⟨v553, rfl, ho0, hb⟩; refine ⟨_, rfl, ?_⟩; have HO554 := Aside0.mk (Kd.R_lower (Kd.R_newB (Kd.R_new' (Kd.R_new' ho0 (Kd.R_lt (upR HO_6.out))) (Kd.R_lt (upR HO_14.out))) (g := gb542) (o := .cells #[.int .i64 ((rd_T26 t532 x10_2).f0), .string ((rd_T26 t532 x10_2).f1), .int .i64 ((rd_T26 t532 x10_2).f2), .int .i64 ((rd_T26 t532 x10_2).f3), .int .i64 ((rd_T26 t532 x10_2).f4), .int .i64 ((rd_T26 t532 x10_2).f5)] 26 (0, 0)) (upK BK542.out)) (below_size (bW HB))); replace HO_6 := Aside0.mk (Kd.R_elder' (upR HO_6.out) (Kd.R_base ho0) hb); replace HO_14 := Aside0.mk (Kd.R_elder' (upR HO_14.out) (Kd.R_base ho0) hb); replace BK542 := uK BK542 hb; replace HB := uB HB hb; (try clear hb); (try clear hk); (try clear ho0); have hcz69_0 := ci BK542.out 0 ((rd_T26 t532 x10_2).f0) rfl; have hcz69_1 : w68.cell? ⟨gb542, 1, none⟩ = some (.string ((rd_T26 t532 x10_2).f1)) := cb BK542 1; have hcz69_2 := ci BK542.out 2 ((rd_T26 t532 x10_2).f2) rfl; have hcz69_3 := ci BK542.out 3 ((rd_T26 t532 x10_2).f3) rfl; have hcz69_4 := ci BK542.out 4 ((rd_T26 t532 x10_2).f4) rfl; have hcz69_5 := ci BK542.out 5 ((rd_T26 t532 x10_2).f5) rfl; have hfz69_0 := fun j_ : Nat => blk_frozen BK542.out j_; obtain ⟨Ao70, co70, eo70⟩ := Kd.R_slice HO554.out; subst eo70) | ((with_reducible refine gC 24 ?_); refine lA (some 158) Tryd.func24 (impl_AllowedOn.calls kj28 _ _ t550 ((rd_T26 t532 x10_2).f1) ((rd_T26 t532 x10_2).f2) t555 false _ ?side1 ?side2 A46.out) ?_; (case side1 => repeat (first | exact (Kd.R_reads' HO554.out).2.2 | (with_reducible refine Kd.C_alloc ?_ _) | (with_reducible refine Kd.C_drewN ?_ _) | (with_reducible refine Kd.C_drew ?_))); (case side2 => exact (Kd.R_reads' HO554.out).2.1); intro w71 hb; replace HO_6 := uR HO_6 hb; replace HO_14 := uR HO_14 hb; replace HO554 := uR HO554 hb; replace BK542 := uK BK542 hb; replace HB := uB HB hb; (try clear hb); (try clear hk); have p557 : 0 ≤ (x10_2 : Int) := of_decide_eq_true asmB; have q557 : x10_2 < (t550.length : Int) := of_decide_eq_true asmB; obtain ⟨ad557, e557, hx557_0, hx557_1, hx557_2, hx557_3, hx557_4, hx557_5⟩ := at_T26 (Kd.R_reads' HO554.out).2.2 x10_2 p557 q557; cases e557; replace p557 := eq_true p557; replace q557 := eq_true q557))
                            go_roundg kj28
                            case measure => have := HJ6.out; have := HK2.out; have := HJ16.out; have := HJ28.out; omega
                            case rel => exact ⟨(wrap64 (x10_2 + 1)), rB, H', ⟨by have := HJ6.out; have := HK2.out; have := HJ16.out; have := HJ28.out; omega⟩, ⟨by (with_reducible repeat (first | apply Kd.R_alloc | apply Kd.R_drewN | apply Kd.R_drew)); exact Kd.R_mono HO_6.out (fun _ hk => trivial)⟩, (aB HB)⟩
                           ·exact absurd (Option.some.inj H) (by rw [hT]; decide)
                          ·rw [if_neg c64] at H
                           exact absurd H (by simp)
                         ·rw [if_neg c63] at H
                          exact absurd H (by simp)
                        ·have c62b2 : (t550.length == t532.length) = false := by first | simpa using c62 | (simp at c62 ⊢; omega)
                         exact absurd (Option.some.inj H) (by rw [hT]; decide)
                     ·replace H := iF (by decide) H
                      exact absurd (Option.some.inj H) (by rw [hT]; decide)
                    ·have H' := Aside0.mk H
                     clear H
                     have hcz90_0 := ci BK542.out 0 ((rd_T26 t532 x10_2).f0) rfl
                     have hcz90_1 : wc.cell? ⟨gb542, 1, none⟩ = some (.string ((rd_T26 t532 x10_2).f1)) := cb BK542 1
                     have hcz90_2 := ci BK542.out 2 ((rd_T26 t532 x10_2).f2) rfl
                     have hcz90_3 := ci BK542.out 3 ((rd_T26 t532 x10_2).f3) rfl
                     have hcz90_4 := ci BK542.out 4 ((rd_T26 t532 x10_2).f4) rfl
                     have hcz90_5 := ci BK542.out 5 ((rd_T26 t532 x10_2).f5) rfl
                     have hfz90_0 := fun j_ : Nat => blk_frozen BK542.out j_
                     go_wp2
                     go_roundg kj28
                     case measure => have := HJ6.out; have := HK2.out; have := HJ16.out; have := HJ28.out; omega
                     case rel => exact ⟨(wrap64 (x10_2 + 1)), rB, H', ⟨by have := HJ6.out; have := HK2.out; have := HJ16.out; have := HJ28.out; omega⟩, ⟨by (with_reducible repeat (first | apply Kd.R_alloc | apply Kd.R_drewN | apply Kd.R_drew)); exact Kd.R_mono HO_6.out (fun _ hk => trivial)⟩, (aB HB)⟩
                  )).elim
                 omega
               ·have H' := Aside0.mk H
                clear H
                obtain ⟨Ao91, co91, eo91⟩ := Kd.R_slice HO_6.out
                subst eo91
                have p541 : 0 ≤ (x10_2 : Int) := of_decide_eq_true asmB
                have q541 : x10_2 < (t532.length : Int) := of_decide_eq_true asmB
                obtain ⟨ad541, e541, hx541_0, hx541_1, hx541_2, hx541_3, hx541_4, hx541_5⟩ := at_T26 (Kd.R_reads' HO_6.out).2.2 x10_2 p541 q541
                cases e541
                replace p541 := eq_true p541
                replace q541 := eq_true q541
                go_wp2_with (first | ((with_reducible refine gD 11 ?_); (try (refine gate_guard (by rfl) ?_; dsimp only)); refine bxE 11 26 #[.int .i64 0, .string (⟨#[]⟩ : ByteArray), .int .i64 0, .int .i64 0, .int .i64 0, .int .i64 0] fun gb542 w92 hg hbox hb => ?_; have BK542 := Aside0.mk hbox; have GE542 := gB HB hg; replace HO_6 := Aside0.mk (Kd.R_below (Kd.R_elderB (upR HO_6.out) gb542 (Nat.le_of_eq hg.symm)) hb); replace HB := uB HB hb; clear hb hbox hg; have hcz93_0 := ci BK542.out 0 0 rfl; have hcz93_1 : w92.cell? ⟨gb542, 1, none⟩ = some (.string (⟨#[]⟩ : ByteArray)) := cb BK542 1; have hcz93_2 := ci BK542.out 2 0 rfl; have hcz93_3 := ci BK542.out 3 0 rfl; have hcz93_4 := ci BK542.out 4 0 rfl; have hcz93_5 := ci BK542.out 5 0 rfl; have hfz93_0 := fun j_ : Nat => blk_frozen BK542.out j_))
                go_roundg kj16
                case measure => have := HJ6.out; have := HK2.out; have := HJ16.out; omega
                case rel => exact ⟨(wrap64 (x10_2 + 1)), rB, H', ⟨by have := HJ6.out; have := HK2.out; have := HJ16.out; omega⟩, ⟨by (with_reducible repeat (first | apply Kd.R_alloc | apply Kd.R_drewN | apply Kd.R_drew)); exact Kd.R_mono (Kd.R_far (p := ⟨gb542, 5, none⟩) (Kd.R_far (p := ⟨gb542, 4, none⟩) (Kd.R_far (p := ⟨gb542, 3, none⟩) (Kd.R_far (p := ⟨gb542, 2, none⟩) (Kd.R_far (p := ⟨gb542, 1, none⟩) (Kd.R_far (p := ⟨gb542, 0, none⟩) (Kd.R_mono HO_6.out (fun k_ hk => (⟨hk, hk.2⟩ : _ ∧ k_ ≠ gb542))) (fun _ hk => hk.2) (.int .i64 ((rd_T26 t532 x10_2).f0))) (fun _ hk => hk.2) (.string ((rd_T26 t532 x10_2).f1))) (fun _ hk => hk.2) (.int .i64 ((rd_T26 t532 x10_2).f2))) (fun _ hk => hk.2) (.int .i64 ((rd_T26 t532 x10_2).f3))) (fun _ hk => hk.2) (.int .i64 ((rd_T26 t532 x10_2).f4))) (fun _ hk => hk.2) (.int .i64 ((rd_T26 t532 x10_2).f5))) (fun _ hk => trivial)⟩, (aB HB)⟩
              ·rw [if_neg c25] at H
               exact absurd H (by simp)
             ·rw [if_neg c24] at H
              exact absurd H (by simp)
            ·replace H := iF (by decide) H
             replace H := Option.bind_eq_some_iff.mp H
             obtain ⟨⟨t558, t559, t560, t561⟩, A940, H⟩ := H
             replace H : ((impl_UsePermit.f kj16 t558 t559 t560 t561).bind fun bt564 => ((spec_UsePermit.f kj16 t558 t559 t560 t561).bind fun bt568 => (if (bt564.2 != bt568.2) = true then (laws_FnPermits.j4 kj16 l0 true) else ((laws_rPermits.f kj16 bt564.1 bt568.1).bind fun t572 => (if t572 = true then ((impl_ArePermits.f kj16 t558).bind fun t573 => ((spec_ArePermits.f kj16 t558).bind fun t574 => (laws_FnPermits.j4 kj16 l0 (t573 != t574)))) else (laws_FnPermits.j4 kj16 l0 true)))))) = some r := H
             have A94 := Aside0.mk A940
             clear A940
             replace H := Option.bind_eq_some_iff.mp H
             obtain ⟨⟨t564, t565⟩, A950, H⟩ := H
             replace H : ((spec_UsePermit.f kj16 t558 t559 t560 t561).bind fun bt568 => (if (t565 != bt568.2) = true then (laws_FnPermits.j4 kj16 l0 true) else ((laws_rPermits.f kj16 t564 bt568.1).bind fun t572 => (if t572 = true then ((impl_ArePermits.f kj16 t558).bind fun t573 => ((spec_ArePermits.f kj16 t558).bind fun t574 => (laws_FnPermits.j4 kj16 l0 (t573 != t574)))) else (laws_FnPermits.j4 kj16 l0 true))))) = some r := H
             have A95 := Aside0.mk A950
             clear A950
             replace H := Option.bind_eq_some_iff.mp H
             obtain ⟨⟨t568, t569⟩, A960, H⟩ := H
             replace H : (if (t565 != t569) = true then (laws_FnPermits.j4 kj16 l0 true) else ((laws_rPermits.f kj16 t564 t568).bind fun t572 => (if t572 = true then ((impl_ArePermits.f kj16 t558).bind fun t573 => ((spec_ArePermits.f kj16 t558).bind fun t574 => (laws_FnPermits.j4 kj16 l0 (t573 != t574)))) else (laws_FnPermits.j4 kj16 l0 true)))) = some r := H
             have A96 := Aside0.mk A960
             clear A960
             have HC97 := Aside0.mk H
             clear H
             go_upto_region 25 with (first | ((with_reducible refine gate_callee (f := 45) rfl ?_); refine goesL_ (some 187) rfl rfl Tryd.func45 (by kernel_rfl) rfl #[.slice A0 l0.length c0] rfl argsB ?_; (with_reducible refine (spec_DrawUsePermit.calls kj16 _ _ l0 t558 t559 t560 t561 _ ?side1 ?side2 A94.out).mono ?_); (case side1 => repeat (first | exact (Kd.C_below HR0.out HB.out) | (with_reducible refine Kd.C_alloc ?_ _) | (with_reducible refine Kd.C_drewN ?_ _) | (with_reducible refine Kd.C_drew ?_))); (case side2 => exact HC0.out); rintro e w98 ⟨v562, rfl, ho0, hb⟩; refine ⟨_, rfl, ?_⟩; have HO563 := Aside0.mk (Kd.R_lower (Kd.R_new' ho0 (Kd.R_lt (upR HO_6.out))) (below_size (bW HB))); replace HO_6 := Aside0.mk (Kd.R_elder' (upR HO_6.out) (Kd.R_base ho0) hb); replace HB := uB HB hb; (try clear hb); (try clear hk); (try clear ho0); obtain ⟨Ao99, co99, eo99⟩ := Kd.R_slice HO563.out; subst eo99) | ((with_reducible refine gate_callee (f := 34) rfl ?_); refine goesL_ (some 197) rfl rfl Tryd.func34 (by kernel_rfl) rfl #[.slice Ao99 t558.length co99, .int .i64 t559, .int .i64 t560, .int .i64 t561] rfl argsB ?_; (with_reducible refine (impl_UsePermit.calls kj16 _ _ t558 t559 t560 t561 t564 t565 _ ?side1 ?side2 A95.out).mono ?_); (case side1 => repeat (first | exact (Kd.R_reads' HO563.out).2.2 | (with_reducible refine Kd.C_alloc ?_ _) | (with_reducible refine Kd.C_drewN ?_ _) | (with_reducible refine Kd.C_drew ?_))); (case side2 => exact (Kd.R_reads' HO563.out).2.1); rintro e w100 ⟨v566, rfl, ho0, hb⟩; refine ⟨_, rfl, ?_⟩; have HO567 := Aside0.mk (Kd.R_lower (Kd.R_new' (Kd.R_new' ho0 (Kd.R_lt (upR HO_6.out))) (Kd.R_lt (upR HO563.out))) (below_size (bW HB))); replace HO_6 := Aside0.mk (Kd.R_elder' (upR HO_6.out) (Kd.R_base ho0) hb); replace HO563 := Aside0.mk (Kd.R_elder' (upR HO563.out) (Kd.R_base ho0) hb); replace HB := uB HB hb; (try clear hb); (try clear hk); (try clear ho0)) | ((with_reducible refine gate_callee (f := 33) rfl ?_); refine goesL_ (some 205) rfl rfl Tryd.func33 (by kernel_rfl) rfl #[.slice Ao99 t558.length co99, .int .i64 t559, .int .i64 t560, .int .i64 t561] rfl argsB ?_; (with_reducible refine (spec_UsePermit.calls kj16 _ _ t558 t559 t560 t561 t568 t569 _ ?side1 ?side2 A96.out).mono ?_); (case side1 => repeat (first | exact (Kd.R_reads' HO563.out).2.2 | (with_reducible refine Kd.C_alloc ?_ _) | (with_reducible refine Kd.C_drewN ?_ _) | (with_reducible refine Kd.C_drew ?_))); (case side2 => exact (Kd.R_reads' HO563.out).2.1); rintro e w101 ⟨v570, rfl, ho0, hb⟩; refine ⟨_, rfl, ?_⟩; have HO571 := Aside0.mk (Kd.R_lower (Kd.R_new' (Kd.R_new' (Kd.R_new' ho0 (Kd.R_lt (upR HO_6.out))) (Kd.R_lt (upR HO563.out))) (Kd.R_lt (upR HO567.out))) (below_size (bW HB))); replace HO_6 := Aside0.mk (Kd.R_elder' (upR HO_6.out) (Kd.R_base ho0) hb); replace HO563 := Aside0.mk (Kd.R_elder' (upR HO563.out) (Kd.R_base ho0) hb); replace HO567 := Aside0.mk (Kd.R_elder' (upR HO567.out) (Kd.R_base ho0) hb); replace HB := uB HB hb; (try clear hb); (try clear hk); (try clear ho0)))
             (try simp only [Act.put, List.setIfInBounds_toArray, List.set_cons_zero, List.set_cons_succ])
             go_cut [223] (fun v223 wc => ∃ (kq : Nat) (x223_96 : Bool), v223 = .bool x223_96 ∧ Aside0 (laws_FnPermits.j4 kq l0 x223_96 = some r) ∧ Aside0 (kq ≤ kj16) ∧ Aside0 (Below w.heap.size w wc))
             case first =>
              have H := HC97.out
              clear HC97
              by_cases c102 : (t565 != t569) = true
              ·rw [if_pos c102] at H
               have c102b0 : (t565 != t569) = true := c102
               (try (have c102b1 : decide (t565 = t569) = false := by simpa using c102))
               (try (have c102b2 : (t565 == t569) = false := by simpa using c102))
               (try (have c102b3 : ¬ (t565 = t569) := by simpa using c102))
               clear c102
               (first | rw [c102b0] | (simp only [i64_w, i32_w]; rw [c102b0]) | skip)
               have H' := Aside0.mk H
               clear H
               go_wp2
               go_meet
               case rel => exact ⟨_, (true), rB, H', ⟨by have := HJ6.out; have := HK2.out; have := HJ16.out; first | omega | exact Nat.le_refl _⟩, (aB HB)⟩
              ·rw [if_neg c102] at H
               have c102b0 : (t565 != t569) = false := by simpa using c102
               (try (have c102b1 : decide (t565 = t569) = true := by simpa using c102))
               (try (have c102b2 : (t565 == t569) = true := by simpa using c102))
               clear c102
               (first | rw [c102b0] | (simp only [i64_w, i32_w]; rw [c102b0]) | skip)
               replace H := bA H
               obtain ⟨t572, A103, H⟩ := H
               rcases Bool.eq_false_or_eq_true t572 with rfl | rfl
               ·replace H := iT rfl H
                replace H := bA H
                obtain ⟨t573, A105, H⟩ := H
                replace H := bA H
                obtain ⟨t574, A106, H⟩ := H
                have H' := Aside0.mk H
                clear H
                obtain ⟨Ao107, co107, eo107⟩ := Kd.R_slice HO567.out
                subst eo107
                obtain ⟨Ao108, co108, eo108⟩ := Kd.R_slice HO571.out
                subst eo108
                go_wp2_with (first | (go_at_call 44; (with_reducible refine (laws_rPermits.calls kj16 _ _ t564 _ _ t568 true _ ?side1 ?side2 ?side3 ?side4 A103.out).mono ?_); (case side1 => repeat (first | exact (Kd.R_reads' HO567.out).2.2 | (with_reducible refine Kd.C_alloc ?_ _) | (with_reducible refine Kd.C_drewN ?_ _) | (with_reducible refine Kd.C_drew ?_))); (case side2 => exact (Kd.R_reads' HO567.out).2.1); (case side3 => repeat (first | exact (Kd.R_reads' HO571.out).2.2 | (with_reducible refine Kd.C_alloc ?_ _) | (with_reducible refine Kd.C_drewN ?_ _) | (with_reducible refine Kd.C_drew ?_))); (case side4 => exact (Kd.R_reads' HO571.out).2.1); rintro e w' ⟨rfl, ⟨nd, rfl⟩⟩) | (go_at_call 21; (with_reducible refine (impl_ArePermits.calls kj16 _ _ t558 t573 _ ?side1 ?side2 A105.out).mono ?_); (case side1 => repeat (first | exact (Kd.R_reads' HO563.out).2.2 | (with_reducible refine Kd.C_alloc ?_ _) | (with_reducible refine Kd.C_drewN ?_ _) | (with_reducible refine Kd.C_drew ?_))); (case side2 => exact (Kd.R_reads' HO563.out).2.1); rintro e w109 ⟨rfl, hb⟩; replace HO_6 := uR HO_6 hb; replace HO563 := uR HO563 hb; replace HO567 := uR HO567 hb; replace HO571 := uR HO571 hb; replace HB := uB HB hb; (try clear hb); (try clear hk)) | (go_at_call 19; (with_reducible refine (spec_ArePermits.calls kj16 _ _ t558 t574 _ ?side1 ?side2 A106.out).mono ?_); (case side1 => repeat (first | exact (Kd.R_reads' HO563.out).2.2 | (with_reducible refine Kd.C_alloc ?_ _) | (with_reducible refine Kd.C_drewN ?_ _) | (with_reducible refine Kd.C_drew ?_))); (case side2 => exact (Kd.R_reads' HO563.out).2.1); rintro e w110 ⟨rfl, hb⟩; replace HO_6 := uR HO_6 hb; replace HO563 := uR HO563 hb; replace HO567 := uR HO567 hb; replace HO571 := uR HO571 hb; replace HB := uB HB hb; (try clear hb); (try clear hk)))
                go_meet
                case rel => exact ⟨_, ((t573 != t574)), rB, H', ⟨by have := HJ6.out; have := HK2.out; have := HJ16.out; first | omega | exact Nat.le_refl _⟩, (aB HB)⟩
               ·replace H := iF (by decide) H
                have H' := Aside0.mk H
                clear H
                obtain ⟨Ao111, co111, eo111⟩ := Kd.R_slice HO567.out
                subst eo111
                obtain ⟨Ao112, co112, eo112⟩ := Kd.R_slice HO571.out
                subst eo112
                go_wp2_with (first | (go_at_call 44; (with_reducible refine (laws_rPermits.calls kj16 _ _ t564 _ _ t568 false _ ?side1 ?side2 ?side3 ?side4 A103.out).mono ?_); (case side1 => repeat (first | exact (Kd.R_reads' HO567.out).2.2 | (with_reducible refine Kd.C_alloc ?_ _) | (with_reducible refine Kd.C_drewN ?_ _) | (with_reducible refine Kd.C_drew ?_))); (case side2 => exact (Kd.R_reads' HO567.out).2.1); (case side3 => repeat (first | exact (Kd.R_reads' HO571.out).2.2 | (with_reducible refine Kd.C_alloc ?_ _) | (with_reducible refine Kd.C_drewN ?_ _) | (with_reducible refine Kd.C_drew ?_))); (case side4 => exact (Kd.R_reads' HO571.out).2.1); rintro e w' ⟨rfl, ⟨nd, rfl⟩⟩))
                go_meet
                case rel => exact ⟨_, (true), rB, H', ⟨by have := HJ6.out; have := HK2.out; have := HJ16.out; first | omega | exact Nat.le_refl _⟩, (aB HB)⟩
             case rest =>
              apply Classical.byContradiction
              intro hn_
              letI h_ : (0 : Nat) = 1 := (hn_ (by
               clear hn_
               clear HC97
               obtain ⟨kq, x223_96, rfl, HA, HJ96, HB⟩ := hcut
               cases kq with
               | zero => exact absurd HA.out (by simp [laws_FnPermits.j4])
               | succ kj96 =>
                have H := HA.out
                clear HA
                simp only [laws_FnPermits.j4] at H
                rcases Bool.eq_false_or_eq_true x223_96 with rfl | rfl
                ·replace H := iT rfl H
                 exact absurd (Option.some.inj H) (by rw [hT]; decide)
                ·replace H := iF (by decide) H
                 replace H := Option.bind_eq_some_iff.mp H
                 obtain ⟨⟨t575, t576⟩, A1140, H⟩ := H
                 replace H : ((impl_LapsePermits.f kj96 t575 t576).bind fun bt579 => ((spec_LapsePermits.f kj96 t575 t576).bind fun bt584 => (if (bt579.2.2 != bt584.2.2) = true then (laws_FnPermits.j5 kj96 l0 true) else (if bt579.2.1 = bt584.2.1 then ((laws_rPermits.f kj96 bt579.1 bt584.1).bind fun t589 => (laws_FnPermits.j5 kj96 l0 (!t589))) else (laws_FnPermits.j5 kj96 l0 true))))) = some r := H
                 have A114 := Aside0.mk A1140
                 clear A1140
                 replace H := Option.bind_eq_some_iff.mp H
                 obtain ⟨⟨t579, t580, t581⟩, A1150, H⟩ := H
                 replace H : ((spec_LapsePermits.f kj96 t575 t576).bind fun bt584 => (if (t581 != bt584.2.2) = true then (laws_FnPermits.j5 kj96 l0 true) else (if t580 = bt584.2.1 then ((laws_rPermits.f kj96 t579 bt584.1).bind fun t589 => (laws_FnPermits.j5 kj96 l0 (!t589))) else (laws_FnPermits.j5 kj96 l0 true)))) = some r := H
                 have A115 := Aside0.mk A1150
                 clear A1150
                 replace H := Option.bind_eq_some_iff.mp H
                 obtain ⟨⟨t584, t585, t586⟩, A1160, H⟩ := H
                 replace H : (if (t581 != t586) = true then (laws_FnPermits.j5 kj96 l0 true) else (if t580 = t585 then ((laws_rPermits.f kj96 t579 t584).bind fun t589 => (laws_FnPermits.j5 kj96 l0 (!t589))) else (laws_FnPermits.j5 kj96 l0 true))) = some r := H
                 have A116 := Aside0.mk A1160
                 clear A1160
                 have HC117 := Aside0.mk H
                 clear H
                 go_upto_region 30 with (first | ((with_reducible refine gate_callee (f := 46) rfl ?_); refine goesL_ (some 226) rfl rfl Tryd.func46 (by kernel_rfl) rfl #[.slice A0 l0.length c0] rfl argsB ?_; (with_reducible refine (spec_DrawLapsePermits.calls kj96 _ _ l0 t575 t576 _ ?side1 ?side2 A114.out).mono ?_); (case side1 => repeat (first | exact (Kd.C_below HR0.out HB.out) | (with_reducible refine Kd.C_alloc ?_ _) | (with_reducible refine Kd.C_drewN ?_ _) | (with_reducible refine Kd.C_drew ?_))); (case side2 => exact HC0.out); rintro e w118 ⟨v577, rfl, ho0, hb⟩; refine ⟨_, rfl, ?_⟩; have HO578 := Aside0.mk (Kd.R_lower ho0 (below_size (bW HB))); replace HB := uB HB hb; (try clear hb); (try clear hk); (try clear ho0); obtain ⟨Ao119, co119, eo119⟩ := Kd.R_slice HO578.out; subst eo119) | ((with_reducible refine gate_callee (f := 32) rfl ?_); refine goesL_ (some 232) rfl rfl Tryd.func32 (by kernel_rfl) rfl #[.slice Ao119 t575.length co119, .int .i64 t576] rfl argsB ?_; (with_reducible refine (impl_LapsePermits.calls kj96 _ _ t575 t576 t579 t580 t581 _ ?side1 ?side2 A115.out).mono ?_); (case side1 => repeat (first | exact (Kd.R_reads' HO578.out).2.2 | (with_reducible refine Kd.C_alloc ?_ _) | (with_reducible refine Kd.C_drewN ?_ _) | (with_reducible refine Kd.C_drew ?_))); (case side2 => exact (Kd.R_reads' HO578.out).2.1); rintro e w120 ⟨v582, rfl, ho0, hb⟩; refine ⟨_, rfl, ?_⟩; have HO583 := Aside0.mk (Kd.R_lower (Kd.R_new' ho0 (Kd.R_lt (upR HO578.out))) (below_size (bW HB))); replace HO578 := Aside0.mk (Kd.R_elder' (upR HO578.out) (Kd.R_base ho0) hb); replace HB := uB HB hb; (try clear hb); (try clear hk); (try clear ho0)) | ((with_reducible refine gate_callee (f := 31) rfl ?_); refine goesL_ (some 239) rfl rfl Tryd.func31 (by kernel_rfl) rfl #[.slice Ao119 t575.length co119, .int .i64 t576] rfl argsB ?_; (with_reducible refine (spec_LapsePermits.calls kj96 _ _ t575 t576 t584 t585 t586 _ ?side1 ?side2 A116.out).mono ?_); (case side1 => repeat (first | exact (Kd.R_reads' HO578.out).2.2 | (with_reducible refine Kd.C_alloc ?_ _) | (with_reducible refine Kd.C_drewN ?_ _) | (with_reducible refine Kd.C_drew ?_))); (case side2 => exact (Kd.R_reads' HO578.out).2.1); rintro e w121 ⟨v587, rfl, ho0, hb⟩; refine ⟨_, rfl, ?_⟩; have HO588 := Aside0.mk (Kd.R_lower (Kd.R_new' (Kd.R_new' ho0 (Kd.R_lt (upR HO578.out))) (Kd.R_lt (upR HO583.out))) (below_size (bW HB))); replace HO578 := Aside0.mk (Kd.R_elder' (upR HO578.out) (Kd.R_base ho0) hb); replace HO583 := Aside0.mk (Kd.R_elder' (upR HO583.out) (Kd.R_base ho0) hb); replace HB := uB HB hb; (try clear hb); (try clear hk); (try clear ho0)))
                 (try simp only [Act.put, List.setIfInBounds_toArray, List.set_cons_zero, List.set_cons_succ])
                 go_cut [256] (fun v256 wc => ∃ (kq : Nat) (x256_116 : Bool), v256 = .bool x256_116 ∧ Aside0 (laws_FnPermits.j5 kq l0 x256_116 = some r) ∧ Aside0 (kq ≤ kj96) ∧ Aside0 (Below w.heap.size w wc))
                 case first =>
                  have H := HC117.out
                  clear HC117
                  by_cases c122 : (t581 != t586) = true
                  ·rw [if_pos c122] at H
                   have c122b0 : (t581 != t586) = true := c122
                   (try (have c122b1 : decide (t581 = t586) = false := by simpa using c122))
                   (try (have c122b2 : (t581 == t586) = false := by simpa using c122))
                   (try (have c122b3 : ¬ (t581 = t586) := by simpa using c122))
                   clear c122
                   (first | rw [c122b0] | (simp only [i64_w, i32_w]; rw [c122b0]) | skip)
                   have H' := Aside0.mk H
                   clear H
                   go_wp2
                   go_meet
                   case rel => exact ⟨_, (true), rB, H', ⟨by have := HJ6.out; have := HK2.out; have := HJ16.out; have := HJ96.out; first | omega | exact Nat.le_refl _⟩, (aB HB)⟩
                  ·rw [if_neg c122] at H
                   have c122b0 : (t581 != t586) = false := by simpa using c122
                   (try (have c122b1 : decide (t581 = t586) = true := by simpa using c122))
                   (try (have c122b2 : (t581 == t586) = true := by simpa using c122))
                   clear c122
                   (first | rw [c122b0] | (simp only [i64_w, i32_w]; rw [c122b0]) | skip)
                   replace H := ifI H
                   rcases H with ⟨H, -, c123b0, c123b1⟩ | ⟨H, c123, c123b0, c123b1⟩
                   ·replace H := bA H
                    obtain ⟨t589, A124, H⟩ := H
                    have H' := Aside0.mk H
                    clear H
                    obtain ⟨Ao125, co125, eo125⟩ := Kd.R_slice HO583.out
                    subst eo125
                    obtain ⟨Ao126, co126, eo126⟩ := Kd.R_slice HO588.out
                    subst eo126
                    go_wp2_with (first | (go_at_call 44; (with_reducible refine (laws_rPermits.calls kj96 _ _ t579 _ _ t584 t589 _ ?side1 ?side2 ?side3 ?side4 A124.out).mono ?_); (case side1 => repeat (first | exact (Kd.R_reads' HO583.out).2.2 | (with_reducible refine Kd.C_alloc ?_ _) | (with_reducible refine Kd.C_drewN ?_ _) | (with_reducible refine Kd.C_drew ?_))); (case side2 => exact (Kd.R_reads' HO583.out).2.1); (case side3 => repeat (first | exact (Kd.R_reads' HO588.out).2.2 | (with_reducible refine Kd.C_alloc ?_ _) | (with_reducible refine Kd.C_drewN ?_ _) | (with_reducible refine Kd.C_drew ?_))); (case side4 => exact (Kd.R_reads' HO588.out).2.1); rintro e w' ⟨rfl, ⟨nd, rfl⟩⟩))
                    go_meet
                    case rel => exact ⟨_, (!t589), rB, H', ⟨by have := HJ6.out; have := HK2.out; have := HJ16.out; have := HJ96.out; first | omega | exact Nat.le_refl _⟩, (aB HB)⟩
                   ·have H' := Aside0.mk H
                    clear H
                    go_wp2
                    go_meet
                    case rel => exact ⟨_, (true), rB, H', ⟨by have := HJ6.out; have := HK2.out; have := HJ16.out; have := HJ96.out; first | omega | exact Nat.le_refl _⟩, (aB HB)⟩
                 case rest =>
                  apply Classical.byContradiction
                  intro hn_
                  letI h_ : (0 : Nat) = 1 := (hn_ (by
                   clear hn_
                   clear HC117
                   obtain ⟨kq, x256_116, rfl, HA, HJ116, HB⟩ := hcut
                   cases kq with
                   | zero => exact absurd HA.out (by simp [laws_FnPermits.j5])
                   | succ kj116 =>
                    have H := HA.out
                    clear HA
                    simp only [laws_FnPermits.j5] at H
                    rcases Bool.eq_false_or_eq_true x256_116 with rfl | rfl
                    ·replace H := iT rfl H
                     exact absurd (Option.some.inj H) (by rw [hT]; decide)
                    ·replace H := iF (by decide) H
                     replace H := Option.bind_eq_some_iff.mp H
                     obtain ⟨⟨t590, t591, t592⟩, A1280, H⟩ := H
                     replace H : ((impl_AllowedOn.f kj116 t590 t591 t592).bind fun bt595 => ((spec_AllowedOn.f kj116 t590 t591 t592).bind fun bt597 => (if bt595.1 = bt597.1 then (some (bt595.2 == bt597.2)) else (some false)))) = some r := H
                     have A128 := Aside0.mk A1280
                     clear A1280
                     replace H := Option.bind_eq_some_iff.mp H
                     obtain ⟨⟨t595, t596⟩, A1290, H⟩ := H
                     replace H : ((spec_AllowedOn.f kj116 t590 t591 t592).bind fun bt597 => (if t595 = bt597.1 then (some (t596 == bt597.2)) else (some false))) = some r := H
                     have A129 := Aside0.mk A1290
                     clear A1290
                     replace H := Option.bind_eq_some_iff.mp H
                     obtain ⟨⟨t597, t598⟩, A1300, H⟩ := H
                     replace H : (if t595 = t597 then (some (t596 == t598)) else (some false)) = some r := H
                     have A130 := Aside0.mk A1300
                     clear A1300
                     replace H := ifI H
                     rcases H with ⟨H, -, c131b0, c131b1⟩ | ⟨H, c131, c131b0, c131b1⟩
                     ·obtain rfl := (Option.some.inj H)
                      go_wp2_with (first | ((with_reducible refine gate_callee (f := 47) rfl ?_); refine goesL_ (some 259) rfl rfl Tryd.func47 (by kernel_rfl) rfl #[.slice A0 l0.length c0] rfl argsB ?_; (with_reducible refine (spec_DrawAllowedOn.calls kj116 _ _ l0 t590 t591 t592 _ ?side1 ?side2 A128.out).mono ?_); (case side1 => repeat (first | exact (Kd.C_below HR0.out HB.out) | (with_reducible refine Kd.C_alloc ?_ _) | (with_reducible refine Kd.C_drewN ?_ _) | (with_reducible refine Kd.C_drew ?_))); (case side2 => exact HC0.out); rintro e w132 ⟨v593, rfl, ho0, hb⟩; refine ⟨_, rfl, ?_⟩; have HO594 := Aside0.mk (Kd.R_lower ho0 (below_size (bW HB))); replace HB := uB HB hb; (try clear hb); (try clear hk); (try clear ho0); obtain ⟨Ao133, co133, eo133⟩ := Kd.R_slice HO594.out; subst eo133) | ((with_reducible refine gC 24 ?_); refine lA (some 267) Tryd.func24 (impl_AllowedOn.calls kj116 _ _ t590 t591 t592 t595 t596 _ ?side1 ?side2 A129.out) ?_; (case side1 => repeat (first | exact (Kd.R_reads' HO594.out).2.2 | (with_reducible refine Kd.C_alloc ?_ _) | (with_reducible refine Kd.C_drewN ?_ _) | (with_reducible refine Kd.C_drew ?_))); (case side2 => exact (Kd.R_reads' HO594.out).2.1); intro w134 hb; replace HO594 := uR HO594 hb; replace HB := uB HB hb; (try clear hb); (try clear hk)) | ((with_reducible refine gC 23 ?_); refine lA (some 274) Tryd.func23 (spec_AllowedOn.calls kj116 _ _ t590 t591 t592 t597 t598 _ ?side1 ?side2 A130.out) ?_; (case side1 => repeat (first | exact (Kd.R_reads' HO594.out).2.2 | (with_reducible refine Kd.C_alloc ?_ _) | (with_reducible refine Kd.C_drewN ?_ _) | (with_reducible refine Kd.C_drew ?_))); (case side2 => exact (Kd.R_reads' HO594.out).2.1); intro w135 hb; replace HO594 := uR HO594 hb; replace HB := uB HB hb; (try clear hb); (try clear hk)))
                      go_ret
                      exact ⟨eB, (bW HB)⟩
                     ·exact absurd (Option.some.inj H) (by rw [hT]; decide)
                   )).elim
                  omega
               )).elim
              omega
           )).elim
          omega
        )).elim
       omega
    )).elim
   omega
/-- THE ONE PURE STATEMENT of laws_FnPermits: yours. -/

def laws_FnPermits.Pure : Prop := ∀ (l0 : List Int), l0.length ≤ maxLen → l0.length * 1 ≤ 140737488351232 → (∀ x ∈ l0, (Lit.int .u8 x).wf = true) → ∃ k, laws_FnPermits.f k l0 = some true
theorem laws_FnPermits.walk (P : laws_FnPermits.Pure) (a0 : Option Addr) (len0 cap0 : Nat) (z0 : List Int) (w : World) (w0 : (a0 = none ∧ len0 = 0 ∧ cap0 = 0 ∧ z0 = []) ∨ ∃ x, a0 = some x ∧ len0 ≤ cap0 ∧ cap0 ≤ maxLen ∧ z0.length = cap0 ∧ (∀ i, i < z0.length → w.cell? (x.add i) = some (.int .u8 (z0.getD i 0))) ∧ ∀ n ∈ z0, (Lit.int .u8 n).wf = true) (y0 : len0 * 1 ≤ 140737488351232) :
  Calls Tryd.prog 12 #[.slice a0 len0 cap0] w fun e w' => e = .returned (.bool true) ∧ Below w.heap.size w w' := by
 obtain ⟨l0, rfl, hr0, hm0, hw0, hc0⟩ := ReadsInt.ofRowC w0
 obtain ⟨k, h⟩ := P l0 hm0 y0 hw0
 refine (laws_FnPermits.calls k _ _ l0 true w (Kd.C_of_reads (d := (0 : Int)) (h1 := fun _ => rfl) hr0) hc0 h rfl).mono ?_
 rintro e w' ⟨rfl, hd⟩
 exact ⟨rfl, hd⟩

end Go.Proofs.YtgeioccfjgpijaaDoor.QFnPermits
