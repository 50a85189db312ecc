/- Contracts of Go functions that FnExactUndoEdits reaches: the call computes what the plain function says. No condition. -/
import Derived.Test.YtinelmmnajelaaaQFnExactUndoEditsx0
import Derived.Test.YtinelmmnajelaaaQFnExactUndoEditsx2
import Derived.Test.YtinelmmnajelaaaQFnExactUndoEditsx3
import Derived.Test.YtinelmmnajelaaaQFnExactUndoEditsx4
import Derived.Test.YtinelmmnajelaaaQFnExactUndoEditsx5
import Derived.Test.YtinelmmnajelaaaQFnExactUndoEditsx7
import Derived.Test.YtinelmmnajelaaaQFnExactUndoEditsx11
namespace Go.Proofs.Ytinelmmnajelaaa.QFnExactUndoEdits
open Go.RowKit Go.Proofs.YtinelmmnajelaaaW.PrintWords Go.Proofs.YtinelmmnajelaaaW.PrintLast Go.Proofs.YtinelmmnajelaaaW.PrintMore
attribute [local go_sem] max2_int min2_int max_two min_two max_three min_three max_four min_four   -- for this text's walks alone
set_option linter.unusedVariables false
set_option linter.unusedSimpArgs false

/-! ### laws_FnExactUndoEdits: function 10 -/
mutual
def laws_FnExactUndoEdits.j0 : Nat → List (S23) → List (S25) → Int → List (S28) → Bool → List (S26) → List (S28) → List (S28) → Bool → Bool → Option (Bool)
 | 0, _, _, _, _, _, _, _, _, _, _ => none
 | k + 1, x0, x1, x2, x8, x9, x10, x11, x12, x13, x57 => if x57 = true then (some false) else ((laws_toLegS.f k x0).bind fun t361 => ((laws_eqLegS.f k x10 t361).bind fun t364 => (if t364 = true then ((laws_toEditS.f k x1).bind fun t365 => ((laws_eqEditS.f k x11 t365).bind fun t368 => (if t368 = true then ((laws_markLegS.f k x10 1).bind fun bt369 => ((laws_markEditS.f k x11 bt369.1).bind fun bt371 => (if bt371.1 < 0 then (laws_FnExactUndoEdits.j1 k x0 x1 x2 x8 x9 x12 true) else ((laws_eqEditS.f k x12 x8).bind fun t373 => (if t373 = true then (laws_FnExactUndoEdits.j1 k x0 x1 x2 x8 x9 x12 (x13 != x9)) else (laws_FnExactUndoEdits.j1 k x0 x1 x2 x8 x9 x12 true)))))) else (some false)))) else (some false))))
def laws_FnExactUndoEdits.j1 : Nat → List (S23) → List (S25) → Int → List (S28) → Bool → List (S28) → Bool → Option (Bool)
 | 0, _, _, _, _, _, _, _ => none
 | k + 1, x0, x1, x2, x8, x9, x12, x86 => if x86 = true then (some false) else ((laws_markEditS.f k x12 1).bind fun bt374 => ((laws_heldEditS.f k bt374.2 1).bind fun t376 => (if t376 < 0 then (some false) else (if t376 = bt374.1 then ((laws_toLegS.f k x0).bind fun t377 => ((laws_toEditS.f k x1).bind fun t380 => ((impl_UndoEdits.f k t377 t380 x2).bind fun bt383 => ((laws_eqEditS.f k bt383.1 x8).bind fun t387 => (if t387 = true then (laws_FnExactUndoEdits.j2 k bt374.2 bt374.1 (bt383.2 != x9)) else (laws_FnExactUndoEdits.j2 k bt374.2 bt374.1 true)))))) else (some false)))))
def laws_FnExactUndoEdits.j2 : Nat → List (S28) → Int → Bool → Option (Bool)
 | 0, _, _, _ => none
 | k + 1, x12, x15, x115 => if x115 = true then (some false) else ((laws_heldEditS.f k x12 1).bind fun t388 => (if t388 < 0 then (some false) else (if t388 = x15 then (some true) else (some false))))
end
def laws_FnExactUndoEdits.f (k : Nat) (l0 : List (S23)) (l1 : List (S25)) (a2 : Int) : Option (Bool) := (laws_szLegS.f l0 1048576).bind fun t338 => (if t338 < 0 then (some true) else ((laws_szEditS.f l1 t338).bind fun t339 => (if t339 < 0 then (some true) else ((laws_toLegS.f k l0).bind fun t340 => ((laws_toEditS.f k l1).bind fun t343 => ((spec_UndoEdits.f k t340 t343 a2).bind fun bt346 => ((laws_toLegS.f k l0).bind fun t350 => ((laws_toEditS.f k l1).bind fun t353 => ((impl_UndoEdits.f k t350 t353 a2).bind fun bt356 => ((laws_eqEditS.f k bt356.1 bt346.1).bind fun t360 => (if t360 = true then (laws_FnExactUndoEdits.j0 k l0 l1 a2 bt346.1 bt346.2 t350 t353 bt356.1 bt356.2 (bt356.2 != bt346.2)) else (laws_FnExactUndoEdits.j0 k l0 l1 a2 bt346.1 bt346.2 t350 t353 bt356.1 bt356.2 true))))))))))))
theorem laws_FnExactUndoEdits.mono_l : ∀ k, (∀ y0 y1 y2 y3 y4 y5 y6 y7 y8 y9, LeO (laws_FnExactUndoEdits.j0 k y0 y1 y2 y3 y4 y5 y6 y7 y8 y9) (laws_FnExactUndoEdits.j0 (k + 1) y0 y1 y2 y3 y4 y5 y6 y7 y8 y9)) ∧ (∀ y0 y1 y2 y3 y4 y5 y6, LeO (laws_FnExactUndoEdits.j1 k y0 y1 y2 y3 y4 y5 y6) (laws_FnExactUndoEdits.j1 (k + 1) y0 y1 y2 y3 y4 y5 y6)) ∧ (∀ y0 y1 y2, LeO (laws_FnExactUndoEdits.j2 k y0 y1 y2) (laws_FnExactUndoEdits.j2 (k + 1) y0 y1 y2))
 | 0 => ⟨fun _ _ _ _ _ _ _ _ _ _ r h => by simp [laws_FnExactUndoEdits.j0] at h, fun _ _ _ _ _ _ _ r h => by simp [laws_FnExactUndoEdits.j1] at h, fun _ _ _ r h => by simp [laws_FnExactUndoEdits.j2] at h⟩
 | k + 1 => by
  obtain ⟨ih0, ih1, ih2⟩ := laws_FnExactUndoEdits.mono_l k
  refine ⟨?_, ?_, ?_⟩
  ·intro y0 y1 y2 y3 y4 y5 y6 y7 y8 y9
   unfold laws_FnExactUndoEdits.j0
   repeat' with_reducible first | apply ih0 | apply ih1 | apply ih2 | apply impl_UndoEdits.mono | apply laws_eqEditS.mono | apply laws_eqLegS.mono | apply laws_heldEditS.mono | apply laws_markEditS.mono | apply laws_markLegS.mono | apply laws_toEditS.mono | apply laws_toLegS.mono | apply spec_UndoEdits.mono | exact LeO.refl _ | exact LeO.none _ | refine LeO.ite ?_ ?_ | refine LeO.bind ?_ (fun _ => ?_)
  ·intro y0 y1 y2 y3 y4 y5 y6
   unfold laws_FnExactUndoEdits.j1
   repeat' with_reducible first | apply ih0 | apply ih1 | apply ih2 | apply impl_UndoEdits.mono | apply laws_eqEditS.mono | apply laws_eqLegS.mono | apply laws_heldEditS.mono | apply laws_markEditS.mono | apply laws_markLegS.mono | apply laws_toEditS.mono | apply laws_toLegS.mono | apply spec_UndoEdits.mono | exact LeO.refl _ | exact LeO.none _ | refine LeO.ite ?_ ?_ | refine LeO.bind ?_ (fun _ => ?_)
  ·intro y0 y1 y2
   unfold laws_FnExactUndoEdits.j2
   repeat' with_reducible first | apply ih0 | apply ih1 | apply ih2 | apply impl_UndoEdits.mono | apply laws_eqEditS.mono | apply laws_eqLegS.mono | apply laws_heldEditS.mono | apply laws_markEditS.mono | apply laws_markLegS.mono | apply laws_toEditS.mono | apply laws_toLegS.mono | apply spec_UndoEdits.mono | exact LeO.refl _ | exact LeO.none _ | refine LeO.ite ?_ ?_ | refine LeO.bind ?_ (fun _ => ?_)
theorem laws_FnExactUndoEdits.mono : ∀ a0 a1 a2 k, LeO (laws_FnExactUndoEdits.f k a0 a1 a2) (laws_FnExactUndoEdits.f (k + 1) a0 a1 a2) := by
 intro a0 a1 a2 k
 obtain ⟨ih0, ih1, ih2⟩ := laws_FnExactUndoEdits.mono_l k
 unfold laws_FnExactUndoEdits.f
 repeat' with_reducible first | apply ih0 | apply ih1 | apply ih2 | apply impl_UndoEdits.mono | apply laws_eqEditS.mono | apply laws_eqLegS.mono | apply laws_heldEditS.mono | apply laws_markEditS.mono | apply laws_markLegS.mono | apply laws_toEditS.mono | apply laws_toLegS.mono | apply spec_UndoEdits.mono | exact LeO.refl _ | exact LeO.none _ | refine LeO.ite ?_ ?_ | refine LeO.bind ?_ (fun _ => ?_)
set_option maxHeartbeats 8000000 in
set_option maxRecDepth 100000 in
theorem laws_FnExactUndoEdits.calls (k : Nat) (A0 : Option Addr) (c0 : Nat) (l0 : List (S23)) (A1 : Option Addr) (c1 : Nat) (l1 : List (S25)) (a2 : Int) (r : Bool) (w : World) (hr0 : Kd.C k23 w A0 l0.length l0) (hc0 : l0.length ≤ c0) (hr1 : Kd.C k25 w A1 l1.length l1) (hc1 : l1.length ≤ c1) (h : laws_FnExactUndoEdits.f k l0 l1 a2 = some r) (hT : r = true) :
  Calls Try.prog 10 #[.slice A0 l0.length c0, .slice A1 l1.length c1, .int .i64 a2] w fun e w' => e = .returned (.bool r) ∧ Below w.heap.size w w' := by
 have HR0 := Aside0.mk hr0
 have HC0 := Aside0.mk hc0
 clear hr0 hc0
 have HR1 := Aside0.mk hr1
 have HC1 := Aside0.mk hc1
 clear hr1 hc1
 have HB := Aside0.mk (Below.refl w.heap.size w)
 have H := h
 clear h
 unfold laws_FnExactUndoEdits.f at H
 replace H := bA H
 obtain ⟨t338, A4, H⟩ := H
 replace H := ifD H
 rcases H with ⟨H, -, c5b0⟩ | ⟨H, -, c5b0⟩
 ·obtain rfl := (Option.some.inj H)
  go_enter Try.func10, Try.ntmps10
  go_wp2_with (first | ((with_reducible refine gC 17 ?_); refine lA (some 21) Try.func17 (laws_szLegS.calls _ _ l0 1048576 t338 _ ?side1 ?side2 A4.out) ?_; (case side1 => repeat (first | exact HR0.out | (with_reducible refine Kd.C_alloc ?_ _) | (with_reducible refine Kd.C_drewN ?_ _) | (with_reducible refine Kd.C_drew ?_))); (case side2 => exact HC0.out); rintro _ ⟨nd, rfl⟩))
  go_ret
  exact ⟨eB, (bW HB)⟩
 ·replace H := bA H
  obtain ⟨t339, A6, H⟩ := H
  replace H := ifD H
  rcases H with ⟨H, -, c7b0⟩ | ⟨H, -, c7b0⟩
  ·obtain rfl := (Option.some.inj H)
   go_enter Try.func10, Try.ntmps10
   go_wp2_with (first | ((with_reducible refine gC 17 ?_); refine lA (some 21) Try.func17 (laws_szLegS.calls _ _ l0 1048576 t338 _ ?side1 ?side2 A4.out) ?_; (case side1 => repeat (first | exact HR0.out | (with_reducible refine Kd.C_alloc ?_ _) | (with_reducible refine Kd.C_drewN ?_ _) | (with_reducible refine Kd.C_drew ?_))); (case side2 => exact HC0.out); rintro _ ⟨nd, rfl⟩) | ((with_reducible refine gC 29 ?_); refine lA (some 26) Try.func29 (laws_szEditS.calls _ _ l1 t338 t339 _ ?side1 ?side2 A6.out) ?_; (case side1 => repeat (first | exact HR1.out | (with_reducible refine Kd.C_alloc ?_ _) | (with_reducible refine Kd.C_drewN ?_ _) | (with_reducible refine Kd.C_drew ?_))); (case side2 => exact HC1.out); rintro _ ⟨nd, rfl⟩))
   go_ret
   exact ⟨eB, (bW HB)⟩
  ·replace H := bA H
   obtain ⟨t340, A8, H⟩ := H
   replace H := bA H
   obtain ⟨t343, A9, H⟩ := H
   replace H := Option.bind_eq_some_iff.mp H
   obtain ⟨⟨t346, t347⟩, A100, H⟩ := H
   replace H : ((laws_toLegS.f k l0).bind fun t350 => ((laws_toEditS.f k l1).bind fun t353 => ((impl_UndoEdits.f k t350 t353 a2).bind fun bt356 => ((laws_eqEditS.f k bt356.1 t346).bind fun t360 => (if t360 = true then (laws_FnExactUndoEdits.j0 k l0 l1 a2 t346 t347 t350 t353 bt356.1 bt356.2 (bt356.2 != t347)) else (laws_FnExactUndoEdits.j0 k l0 l1 a2 t346 t347 t350 t353 bt356.1 bt356.2 true)))))) = some r := H
   have A10 := Aside0.mk A100
   clear A100
   replace H := bA H
   obtain ⟨t350, A11, H⟩ := H
   replace H := bA H
   obtain ⟨t353, A12, H⟩ := H
   replace H := Option.bind_eq_some_iff.mp H
   obtain ⟨⟨t356, t357⟩, A130, H⟩ := H
   replace H : ((laws_eqEditS.f k t356 t346).bind fun t360 => (if t360 = true then (laws_FnExactUndoEdits.j0 k l0 l1 a2 t346 t347 t350 t353 t356 t357 (t357 != t347)) else (laws_FnExactUndoEdits.j0 k l0 l1 a2 t346 t347 t350 t353 t356 t357 true))) = some r := H
   have A13 := Aside0.mk A130
   clear A130
   have HC14 := Aside0.mk H
   clear H
   go_enter Try.func10, Try.ntmps10
   go_upto_region 12 with (first | ((with_reducible refine gC 17 ?_); refine lA (some 21) Try.func17 (laws_szLegS.calls _ _ l0 1048576 t338 _ ?side1 ?side2 A4.out) ?_; (case side1 => repeat (first | exact HR0.out | (with_reducible refine Kd.C_alloc ?_ _) | (with_reducible refine Kd.C_drewN ?_ _) | (with_reducible refine Kd.C_drew ?_))); (case side2 => exact HC0.out); rintro _ ⟨nd, rfl⟩) | ((with_reducible refine gC 29 ?_); refine lA (some 26) Try.func29 (laws_szEditS.calls _ _ l1 t338 t339 _ ?side1 ?side2 A6.out) ?_; (case side1 => repeat (first | exact HR1.out | (with_reducible refine Kd.C_alloc ?_ _) | (with_reducible refine Kd.C_drewN ?_ _) | (with_reducible refine Kd.C_drew ?_))); (case side2 => exact HC1.out); rintro _ ⟨nd, rfl⟩) | ((with_reducible refine gate_callee (f := 19) rfl ?_); refine goesL_ (some 31) rfl rfl Try.func19 (by kernel_rfl) rfl #[.slice A0 l0.length c0] rfl argsB ?_; (with_reducible refine (laws_toLegS.calls k _ _ l0 t340 _ ?side1 ?side2 A8.out).mono ?_); (case side1 => repeat (first | exact HR0.out | (with_reducible refine Kd.C_alloc ?_ _) | (with_reducible refine Kd.C_drewN ?_ _) | (with_reducible refine Kd.C_drew ?_))); (case side2 => exact HC0.out); rintro e w15 ⟨v341, rfl, ho0, hb⟩; refine ⟨_, rfl, ?_⟩; have HO342 := Aside0.mk (Kd.R_lower ho0 (below_size (bW HB))); replace HB := uB HB hb; (try clear hb); (try clear hk); (try clear ho0)) | ((with_reducible refine gate_callee (f := 31) rfl ?_); refine goesL_ (some 33) rfl rfl Try.func31 (by kernel_rfl) rfl #[.slice A1 l1.length c1] rfl argsB ?_; (with_reducible refine (laws_toEditS.calls k _ _ l1 t343 _ ?side1 ?side2 A9.out).mono ?_); (case side1 => repeat (first | exact (Kd.C_below HR1.out HB.out) | (with_reducible refine Kd.C_alloc ?_ _) | (with_reducible refine Kd.C_drewN ?_ _) | (with_reducible refine Kd.C_drew ?_))); (case side2 => exact HC1.out); rintro e w16 ⟨v344, rfl, ho0, hb⟩; refine ⟨_, rfl, ?_⟩; have HO345 := Aside0.mk (Kd.R_lower ho0 (below_size (bW HB))); replace HO342 := uR HO342 hb; replace HB := uB HB hb; (try clear hb); (try clear hk); (try clear ho0); obtain ⟨Ao17, co17, eo17⟩ := Kd.R_slice HO342.out; subst eo17; obtain ⟨Ao18, co18, eo18⟩ := Kd.R_slice HO345.out; subst eo18) | ((with_reducible refine gate_callee (f := 45) rfl ?_); refine goesL_ (some 35) rfl rfl Try.func45 (by kernel_rfl) rfl #[.slice Ao17 t340.length co17, .slice Ao18 t343.length co18, .int .i64 a2] rfl argsB ?_; (with_reducible refine (spec_UndoEdits.calls k _ _ t340 _ _ t343 a2 t346 t347 _ ?side1 ?side2 ?side3 ?side4 A10.out).mono ?_); (case side1 => repeat (first | exact (Kd.R_reads' HO342.out).2.2 | (with_reducible refine Kd.C_alloc ?_ _) | (with_reducible refine Kd.C_drewN ?_ _) | (with_reducible refine Kd.C_drew ?_))); (case side2 => exact (Kd.R_reads' HO342.out).2.1); (case side3 => repeat (first | exact (Kd.R_reads' HO345.out).2.2 | (with_reducible refine Kd.C_alloc ?_ _) | (with_reducible refine Kd.C_drewN ?_ _) | (with_reducible refine Kd.C_drew ?_))); (case side4 => exact (Kd.R_reads' HO345.out).2.1); rintro e w19 ⟨v348, rfl, ho0, hb⟩; refine ⟨_, rfl, ?_⟩; have HO349 := Aside0.mk (Kd.R_lower (Kd.R_new' ho0 (Kd.R_lt (upR HO345.out))) (below_size (bW HB))); replace HO342 := uR HO342 hb; replace HO345 := Aside0.mk (Kd.R_elder' (upR HO345.out) (Kd.R_base ho0) hb); replace HB := uB HB hb; (try clear hb); (try clear hk); (try clear ho0)) | ((with_reducible refine gate_callee (f := 19) rfl ?_); refine goesL_ (some 39) rfl rfl Try.func19 (by kernel_rfl) rfl #[.slice A0 l0.length c0] rfl argsB ?_; (with_reducible refine (laws_toLegS.calls k _ _ l0 t350 _ ?side1 ?side2 A11.out).mono ?_); (case side1 => repeat (first | exact (Kd.C_below HR0.out HB.out) | (with_reducible refine Kd.C_alloc ?_ _) | (with_reducible refine Kd.C_drewN ?_ _) | (with_reducible refine Kd.C_drew ?_))); (case side2 => exact HC0.out); rintro e w20 ⟨v351, rfl, ho0, hb⟩; refine ⟨_, rfl, ?_⟩; have HO352 := Aside0.mk (Kd.R_lower (Kd.R_new' ho0 (Kd.R_lt (upR HO342.out))) (below_size (bW HB))); replace HO342 := Aside0.mk (Kd.R_elder' (upR HO342.out) (Kd.R_base ho0) hb); replace HO345 := uR HO345 hb; replace HO349 := uR HO349 hb; replace HB := uB HB hb; (try clear hb); (try clear hk); (try clear ho0)) | ((with_reducible refine gate_callee (f := 31) rfl ?_); refine goesL_ (some 41) rfl rfl Try.func31 (by kernel_rfl) rfl #[.slice A1 l1.length c1] rfl argsB ?_; (with_reducible refine (laws_toEditS.calls k _ _ l1 t353 _ ?side1 ?side2 A12.out).mono ?_); (case side1 => repeat (first | exact (Kd.C_below HR1.out HB.out) | (with_reducible refine Kd.C_alloc ?_ _) | (with_reducible refine Kd.C_drewN ?_ _) | (with_reducible refine Kd.C_drew ?_))); (case side2 => exact HC1.out); rintro e w21 ⟨v354, rfl, ho0, hb⟩; refine ⟨_, rfl, ?_⟩; have HO355 := Aside0.mk (Kd.R_lower (Kd.R_new' (Kd.R_new' ho0 (Kd.R_lt (upR HO345.out))) (Kd.R_lt (upR HO349.out))) (below_size (bW HB))); replace HO342 := uR HO342 hb; replace HO345 := Aside0.mk (Kd.R_elder' (upR HO345.out) (Kd.R_base ho0) hb); replace HO349 := Aside0.mk (Kd.R_elder' (upR HO349.out) (Kd.R_base ho0) hb); replace HO352 := uR HO352 hb; replace HB := uB HB hb; (try clear hb); (try clear hk); (try clear ho0); obtain ⟨Ao22, co22, eo22⟩ := Kd.R_slice HO352.out; subst eo22; obtain ⟨Ao23, co23, eo23⟩ := Kd.R_slice HO355.out; subst eo23) | ((with_reducible refine gate_callee (f := 46) rfl ?_); refine goesL_ (some 46) rfl rfl Try.func46 (by kernel_rfl) rfl #[.slice Ao22 t350.length co22, .slice Ao23 t353.length co23, .int .i64 a2] rfl argsB ?_; (with_reducible refine (impl_UndoEdits.calls k _ _ t350 _ _ t353 a2 t356 t357 _ ?side1 ?side2 ?side3 ?side4 A13.out).mono ?_); (case side1 => repeat (first | exact (Kd.R_reads' HO352.out).2.2 | (with_reducible refine Kd.C_alloc ?_ _) | (with_reducible refine Kd.C_drewN ?_ _) | (with_reducible refine Kd.C_drew ?_))); (case side2 => exact (Kd.R_reads' HO352.out).2.1); (case side3 => repeat (first | exact (Kd.R_reads' HO355.out).2.2 | (with_reducible refine Kd.C_alloc ?_ _) | (with_reducible refine Kd.C_drewN ?_ _) | (with_reducible refine Kd.C_drew ?_))); (case side4 => exact (Kd.R_reads' HO355.out).2.1); rintro e w24 ⟨v358, rfl, ho0, hb⟩; refine ⟨_, rfl, ?_⟩; have HO359 := Aside0.mk (Kd.R_lower (Kd.R_new' (Kd.R_new' (Kd.R_new' ho0 (Kd.R_lt (upR HO345.out))) (Kd.R_lt (upR HO349.out))) (Kd.R_lt (upR HO355.out))) (below_size (bW HB))); replace HO342 := uR HO342 hb; replace HO345 := Aside0.mk (Kd.R_elder' (upR HO345.out) (Kd.R_base ho0) hb); replace HO349 := Aside0.mk (Kd.R_elder' (upR HO349.out) (Kd.R_base ho0) hb); replace HO352 := uR HO352 hb; replace HO355 := Aside0.mk (Kd.R_elder' (upR HO355.out) (Kd.R_base ho0) hb); replace HB := uB HB hb; (try clear hb); (try clear hk); (try clear ho0)))
   (try simp only [Act.put, List.setIfInBounds_toArray, List.set_cons_zero, List.set_cons_succ])
   go_cut [57] (fun v57 wc => ∃ (kq : Nat) (x57_13 : Bool), v57 = .bool x57_13 ∧ Aside0 (laws_FnExactUndoEdits.j0 kq l0 l1 a2 t346 t347 t350 t353 t356 t357 x57_13 = some r) ∧ Aside0 (kq ≤ k) ∧ Aside0 (Kd.R k28 28 wc w.heap.size (fun k_ => some k_ ≠ ((.slice Ao23 t353.length co23) : Value).ownBlock ∧ some k_ ≠ (v358 : Value).ownBlock) v348 t346) ∧ Aside0 (Kd.R k26 26 wc w.heap.size (fun _ => True) (.slice Ao22 t350.length co22) t350) ∧ Aside0 (Kd.R k28 28 wc w.heap.size (fun k_ => some k_ ≠ (v348 : Value).ownBlock ∧ some k_ ≠ (v358 : Value).ownBlock) (.slice Ao23 t353.length co23) t353) ∧ Aside0 (Kd.R k28 28 wc w.heap.size (fun k_ => some k_ ≠ (v348 : Value).ownBlock ∧ some k_ ≠ ((.slice Ao23 t353.length co23) : Value).ownBlock) v358 t356) ∧ Aside0 (Below w.heap.size w wc))
   case first =>
    have H := HC14.out
    clear HC14
    replace H := bA H
    obtain ⟨t360, A25, H⟩ := H
    rcases Bool.eq_false_or_eq_true t360 with rfl | rfl
    ·replace H := iT rfl H
     have H' := Aside0.mk H
     clear H
     obtain ⟨Ao27, co27, eo27⟩ := Kd.R_slice HO359.out
     subst eo27
     obtain ⟨Ao28, co28, eo28⟩ := Kd.R_slice HO349.out
     subst eo28
     go_wp2_with (first | ((with_reducible refine gC 21 ?_); refine lA (some 51) Try.func21 (laws_eqEditS.calls k _ _ t356 _ _ t346 true _ ?side1 ?side2 ?side3 ?side4 A25.out) ?_; (case side1 => repeat (first | exact (Kd.R_reads' HO359.out).2.2 | (with_reducible refine Kd.C_alloc ?_ _) | (with_reducible refine Kd.C_drewN ?_ _) | (with_reducible refine Kd.C_drew ?_))); (case side2 => exact (Kd.R_reads' HO359.out).2.1); (case side3 => repeat (first | exact (Kd.R_reads' HO349.out).2.2 | (with_reducible refine Kd.C_alloc ?_ _) | (with_reducible refine Kd.C_drewN ?_ _) | (with_reducible refine Kd.C_drew ?_))); (case side4 => exact (Kd.R_reads' HO349.out).2.1); intro w29 hb; replace HO342 := uR HO342 hb; replace HO345 := uR HO345 hb; replace HO349 := uR HO349 hb; replace HO352 := uR HO352 hb; replace HO355 := uR HO355 hb; replace HO359 := uR HO359 hb; replace HB := uB HB hb; (try clear hb); (try clear hk)))
     go_meet
     case rel => exact ⟨_, ((t357 != t347)), rB, H', leB, ⟨by (with_reducible repeat (first | apply Kd.R_alloc | apply Kd.R_drewN | apply Kd.R_drew)); exact Kd.R_mono HO349.out (fun _ hk => ⟨hk.1.2, hk.2⟩)⟩, ⟨by (with_reducible repeat (first | apply Kd.R_alloc | apply Kd.R_drewN | apply Kd.R_drew)); exact Kd.R_mono HO352.out (fun _ hk => trivial)⟩, ⟨by (with_reducible repeat (first | apply Kd.R_alloc | apply Kd.R_drewN | apply Kd.R_drew)); exact Kd.R_mono HO355.out (fun _ hk => ⟨hk.1.2, hk.2⟩)⟩, ⟨by (with_reducible repeat (first | apply Kd.R_alloc | apply Kd.R_drewN | apply Kd.R_drew)); exact Kd.R_mono HO359.out (fun _ hk => ⟨hk.1.2, hk.2⟩)⟩, (aB HB)⟩
    ·replace H := iF (by decide) H
     have H' := Aside0.mk H
     clear H
     obtain ⟨Ao30, co30, eo30⟩ := Kd.R_slice HO359.out
     subst eo30
     obtain ⟨Ao31, co31, eo31⟩ := Kd.R_slice HO349.out
     subst eo31
     go_wp2_with (first | ((with_reducible refine gC 21 ?_); refine lA (some 51) Try.func21 (laws_eqEditS.calls k _ _ t356 _ _ t346 false _ ?side1 ?side2 ?side3 ?side4 A25.out) ?_; (case side1 => repeat (first | exact (Kd.R_reads' HO359.out).2.2 | (with_reducible refine Kd.C_alloc ?_ _) | (with_reducible refine Kd.C_drewN ?_ _) | (with_reducible refine Kd.C_drew ?_))); (case side2 => exact (Kd.R_reads' HO359.out).2.1); (case side3 => repeat (first | exact (Kd.R_reads' HO349.out).2.2 | (with_reducible refine Kd.C_alloc ?_ _) | (with_reducible refine Kd.C_drewN ?_ _) | (with_reducible refine Kd.C_drew ?_))); (case side4 => exact (Kd.R_reads' HO349.out).2.1); intro w32 hb; replace HO342 := uR HO342 hb; replace HO345 := uR HO345 hb; replace HO349 := uR HO349 hb; replace HO352 := uR HO352 hb; replace HO355 := uR HO355 hb; replace HO359 := uR HO359 hb; replace HB := uB HB hb; (try clear hb); (try clear hk)))
     go_meet
     case rel => exact ⟨_, (true), rB, H', leB, ⟨by (with_reducible repeat (first | apply Kd.R_alloc | apply Kd.R_drewN | apply Kd.R_drew)); exact Kd.R_mono HO349.out (fun _ hk => ⟨hk.1.2, hk.2⟩)⟩, ⟨by (with_reducible repeat (first | apply Kd.R_alloc | apply Kd.R_drewN | apply Kd.R_drew)); exact Kd.R_mono HO352.out (fun _ hk => trivial)⟩, ⟨by (with_reducible repeat (first | apply Kd.R_alloc | apply Kd.R_drewN | apply Kd.R_drew)); exact Kd.R_mono HO355.out (fun _ hk => ⟨hk.1.2, hk.2⟩)⟩, ⟨by (with_reducible repeat (first | apply Kd.R_alloc | apply Kd.R_drewN | apply Kd.R_drew)); exact Kd.R_mono HO359.out (fun _ hk => ⟨hk.1.2, hk.2⟩)⟩, (aB HB)⟩
   case rest =>
    clear HC14
    try clear c1
    try clear c5b0
    try clear c7b0
    obtain ⟨kq, x57_13, rfl, HA, HJ13, HO_8, HO_10, HO_11, HO_12, HB⟩ := hcut
    cases kq with
    | zero => exact absurd HA.out (by simp [laws_FnExactUndoEdits.j0])
    | succ kj13 =>
     have H := HA.out
     clear HA
     simp only [laws_FnExactUndoEdits.j0] at H
     rcases Bool.eq_false_or_eq_true x57_13 with rfl | rfl
     ·replace H := iT rfl H
      exact absurd (Option.some.inj H) (by rw [hT]; decide)
     ·replace H := iF (by decide) H
      replace H := bA H
      obtain ⟨t361, A34, H⟩ := H
      replace H := bA H
      obtain ⟨t364, A35, H⟩ := H
      rcases Bool.eq_false_or_eq_true t364 with rfl | rfl
      ·replace H := iT rfl H
       replace H := bA H
       obtain ⟨t365, A37, H⟩ := H
       replace H := bA H
       obtain ⟨t368, A38, H⟩ := H
       rcases Bool.eq_false_or_eq_true t368 with rfl | rfl
       ·replace H := iT rfl H
        replace H := Option.bind_eq_some_iff.mp H
        obtain ⟨⟨t369, t370⟩, A400, H⟩ := H
        replace H : ((laws_markEditS.f kj13 t353 t369).bind fun bt371 => (if bt371.1 < 0 then (laws_FnExactUndoEdits.j1 kj13 l0 l1 a2 t346 t347 t356 true) else ((laws_eqEditS.f kj13 t356 t346).bind fun t373 => (if t373 = true then (laws_FnExactUndoEdits.j1 kj13 l0 l1 a2 t346 t347 t356 (t357 != t347)) else (laws_FnExactUndoEdits.j1 kj13 l0 l1 a2 t346 t347 t356 true))))) = some r := H
        have A40 := Aside0.mk A400
        clear A400
        replace H := Option.bind_eq_some_iff.mp H
        obtain ⟨⟨t371, t372⟩, A410, H⟩ := H
        replace H : (if t371 < 0 then (laws_FnExactUndoEdits.j1 kj13 l0 l1 a2 t346 t347 t356 true) else ((laws_eqEditS.f kj13 t356 t346).bind fun t373 => (if t373 = true then (laws_FnExactUndoEdits.j1 kj13 l0 l1 a2 t346 t347 t356 (t357 != t347)) else (laws_FnExactUndoEdits.j1 kj13 l0 l1 a2 t346 t347 t356 true)))) = some r := H
        have A41 := Aside0.mk A410
        clear A410
        have HC42 := Aside0.mk H
        clear H
        go_upto_region 21 with (first | ((with_reducible refine gate_callee (f := 19) rfl ?_); refine goesL_ (some 60) rfl rfl Try.func19 (by kernel_rfl) rfl #[.slice A0 l0.length c0] rfl argsB ?_; (with_reducible refine (laws_toLegS.calls kj13 _ _ l0 t361 _ ?side1 ?side2 A34.out).mono ?_); (case side1 => repeat (first | exact (Kd.C_below HR0.out HB.out) | (with_reducible refine Kd.C_alloc ?_ _) | (with_reducible refine Kd.C_drewN ?_ _) | (with_reducible refine Kd.C_drew ?_))); (case side2 => exact HC0.out); rintro e w43 ⟨v362, rfl, ho0, hb⟩; refine ⟨_, rfl, ?_⟩; have HO363 := Aside0.mk (Kd.R_lower (Kd.R_new' ho0 (Kd.R_lt (upR HO_10.out))) (below_size (bW HB))); replace HO_8 := uR HO_8 hb; replace HO_10 := Aside0.mk (Kd.R_elder' (upR HO_10.out) (Kd.R_base ho0) hb); replace HO_11 := uR HO_11 hb; replace HO_12 := uR HO_12 hb; replace HB := uB HB hb; (try clear hb); (try clear hk); (try clear ho0); obtain ⟨Ao44, co44, eo44⟩ := Kd.R_slice HO363.out; subst eo44) | ((with_reducible refine gC 22 ?_); refine lA (some 61) Try.func22 (laws_eqLegS.calls kj13 _ _ t350 _ _ t361 true _ ?side1 ?side2 ?side3 ?side4 A35.out) ?_; (case side1 => repeat (first | exact (Kd.R_reads' HO_10.out).2.2 | (with_reducible refine Kd.C_alloc ?_ _) | (with_reducible refine Kd.C_drewN ?_ _) | (with_reducible refine Kd.C_drew ?_))); (case side2 => exact (Kd.R_reads' HO_10.out).2.1); (case side3 => repeat (first | exact (Kd.R_reads' HO363.out).2.2 | (with_reducible refine Kd.C_alloc ?_ _) | (with_reducible refine Kd.C_drewN ?_ _) | (with_reducible refine Kd.C_drew ?_))); (case side4 => exact (Kd.R_reads' HO363.out).2.1); intro w45 hb; replace HO_8 := uR HO_8 hb; replace HO_10 := uR HO_10 hb; replace HO_11 := uR HO_11 hb; replace HO_12 := uR HO_12 hb; replace HO363 := uR HO363 hb; replace HB := uB HB hb; (try clear hb); (try clear hk)) | ((with_reducible refine gate_callee (f := 31) rfl ?_); refine goesL_ (some 65) rfl rfl Try.func31 (by kernel_rfl) rfl #[.slice A1 l1.length c1] rfl argsB ?_; (with_reducible refine (laws_toEditS.calls kj13 _ _ l1 t365 _ ?side1 ?side2 A37.out).mono ?_); (case side1 => repeat (first | exact (Kd.C_below HR1.out HB.out) | (with_reducible refine Kd.C_alloc ?_ _) | (with_reducible refine Kd.C_drewN ?_ _) | (with_reducible refine Kd.C_drew ?_))); (case side2 => exact HC1.out); rintro e w46 ⟨v366, rfl, ho0, hb⟩; refine ⟨_, rfl, ?_⟩; have HO367 := Aside0.mk (Kd.R_lower (Kd.R_new' (Kd.R_new' (Kd.R_new' ho0 (Kd.R_lt (upR HO_8.out))) (Kd.R_lt (upR HO_11.out))) (Kd.R_lt (upR HO_12.out))) (below_size (bW HB))); replace HO_8 := Aside0.mk (Kd.R_elder' (upR HO_8.out) (Kd.R_base ho0) hb); replace HO_10 := uR HO_10 hb; replace HO_11 := Aside0.mk (Kd.R_elder' (upR HO_11.out) (Kd.R_base ho0) hb); replace HO_12 := Aside0.mk (Kd.R_elder' (upR HO_12.out) (Kd.R_base ho0) hb); replace HO363 := uR HO363 hb; replace HB := uB HB hb; (try clear hb); (try clear hk); (try clear ho0); obtain ⟨Ao47, co47, eo47⟩ := Kd.R_slice HO367.out; subst eo47) | ((with_reducible refine gC 21 ?_); refine lA (some 66) Try.func21 (laws_eqEditS.calls kj13 _ _ t353 _ _ t365 true _ ?side1 ?side2 ?side3 ?side4 A38.out) ?_; (case side1 => repeat (first | exact (Kd.R_reads' HO_11.out).2.2 | (with_reducible refine Kd.C_alloc ?_ _) | (with_reducible refine Kd.C_drewN ?_ _) | (with_reducible refine Kd.C_drew ?_))); (case side2 => exact (Kd.R_reads' HO_11.out).2.1); (case side3 => repeat (first | exact (Kd.R_reads' HO367.out).2.2 | (with_reducible refine Kd.C_alloc ?_ _) | (with_reducible refine Kd.C_drewN ?_ _) | (with_reducible refine Kd.C_drew ?_))); (case side4 => exact (Kd.R_reads' HO367.out).2.1); intro w48 hb; replace HO_8 := uR HO_8 hb; replace HO_10 := uR HO_10 hb; replace HO_11 := uR HO_11 hb; replace HO_12 := uR HO_12 hb; replace HO363 := uR HO363 hb; replace HO367 := uR HO367 hb; replace HB := uB HB hb; (try clear hb); (try clear hk)) | ((with_reducible refine gate_callee (f := 23) rfl ?_); refine goesL_ (some 70) rfl rfl Try.func23 (by kernel_rfl) rfl #[.slice Ao22 t350.length co22, .int .i64 1] rfl argsB ?_; (with_reducible refine (laws_markLegS.calls kj13 (fun k_ => some k_ = (.slice Ao22 t350.length co22 : Value).ownBlock) (.slice Ao22 t350.length co22) t350 1 t369 t370 w _ ?side1 ?side2 A40.out).mono ?_); (case side1 => repeat (first | (with_reducible first | exact HB.out | apply below_alloc | apply pw_below_drewN | apply below_drew1) | exact HB.out)); (case side2 => exact Kd.R_tight rfl HO_10.out); rintro e w49 ⟨rfl, hy0, hb, hkp⟩; refine ⟨_, rfl, ?_⟩; replace HO_8 := Aside0.mk (Kd.R_mono (ok' := fun k_ => some k_ ≠ (.slice Ao23 t353.length co23 : Value).ownBlock ∧ some k_ ≠ (v358 : Value).ownBlock ∧ some k_ ≠ (.slice Ao47 t365.length co47 : Value).ownBlock) (Kd.R_keptB ((Kd.R_apart' HO_8.out (Kd.R_typed HO_10.out) (by decide))) hkp (fun k_ hk_ hs_ => (hk_.2) hs_)) (fun k_ hk_ => ⟨hk_.1.1.1.1, hk_.1.1.1.2, hk_.1.1.2⟩)); replace HO_11 := Aside0.mk (Kd.R_mono (ok' := fun k_ => some k_ ≠ (v348 : Value).ownBlock ∧ some k_ ≠ (v358 : Value).ownBlock ∧ some k_ ≠ (.slice Ao47 t365.length co47 : Value).ownBlock) (Kd.R_keptB ((Kd.R_apart' HO_11.out (Kd.R_typed HO_10.out) (by decide))) hkp (fun k_ hk_ hs_ => (hk_.2) hs_)) (fun k_ hk_ => ⟨hk_.1.1.1.1, hk_.1.1.1.2, hk_.1.1.2⟩)); replace HO_12 := Aside0.mk (Kd.R_mono (ok' := fun k_ => some k_ ≠ (v348 : Value).ownBlock ∧ some k_ ≠ (.slice Ao23 t353.length co23 : Value).ownBlock ∧ some k_ ≠ (.slice Ao47 t365.length co47 : Value).ownBlock) (Kd.R_keptB ((Kd.R_apart' HO_12.out (Kd.R_typed HO_10.out) (by decide))) hkp (fun k_ hk_ hs_ => (hk_.2) hs_)) (fun k_ hk_ => ⟨hk_.1.1.1.1, hk_.1.1.1.2, hk_.1.1.2⟩)); replace HO363 := Aside0.mk (Kd.R_mono (ok' := fun k_ => some k_ ≠ (.slice Ao22 t350.length co22 : Value).ownBlock) (Kd.R_keptB (HO363.out) hkp (fun k_ hk_ hs_ => (hk_.2) hs_)) (fun k_ hk_ => hk_.1.2)); replace HO367 := Aside0.mk (Kd.R_mono (ok' := fun k_ => some k_ ≠ (v348 : Value).ownBlock ∧ some k_ ≠ (.slice Ao23 t353.length co23 : Value).ownBlock ∧ some k_ ≠ (v358 : Value).ownBlock) (Kd.R_keptB ((Kd.R_apart' HO367.out (Kd.R_typed HO_10.out) (by decide))) hkp (fun k_ hk_ hs_ => (hk_.2) hs_)) (fun k_ hk_ => ⟨hk_.1.1.1.1.2, hk_.1.1.1.2, hk_.1.1.2⟩)); replace HO_10 := Aside0.mk (Kd.R_reok rfl hy0 (fun k_ e_ => HO_10.out.1 k_ e_)); replace HB := Aside0.mk (hb); (try clear hb); (try clear hkp); (try clear hy0)) | ((with_reducible refine gate_callee (f := 24) rfl ?_); refine goesL_ (some 73) rfl rfl Try.func24 (by kernel_rfl) rfl #[.slice Ao23 t353.length co23, .int .i64 t369] rfl argsB ?_; (with_reducible refine (laws_markEditS.calls kj13 (fun k_ => some k_ = (.slice Ao23 t353.length co23 : Value).ownBlock) (.slice Ao23 t353.length co23) t353 t369 t371 t372 w _ ?side1 ?side2 A41.out).mono ?_); (case side1 => repeat (first | (with_reducible first | exact HB.out | apply below_alloc | apply pw_below_drewN | apply below_drew1) | exact HB.out)); (case side2 => exact Kd.R_tight rfl HO_11.out); rintro e w50 ⟨rfl, hy0, hb, hkp⟩; refine ⟨_, rfl, ?_⟩; replace HO_8 := Aside0.mk (Kd.R_mono (ok' := fun k_ => some k_ ≠ (.slice Ao23 t353.length co23 : Value).ownBlock ∧ some k_ ≠ (v358 : Value).ownBlock ∧ some k_ ≠ (.slice Ao47 t365.length co47 : Value).ownBlock) (Kd.R_keptB (HO_8.out) hkp (fun k_ hk_ hs_ => (hk_.1) hs_)) (fun k_ hk_ => ⟨hk_.1.1, hk_.1.2.1, hk_.1.2.2⟩)); replace HO_10 := Aside0.mk (Kd.R_mono (ok' := fun k_ => some k_ ≠ (.slice Ao44 t361.length co44 : Value).ownBlock) (Kd.R_keptB ((Kd.R_apart' HO_10.out (Kd.R_typed HO_11.out) (by decide))) hkp (fun k_ hk_ hs_ => (hk_.2) hs_)) (fun k_ hk_ => hk_.1.1.2)); replace HO_12 := Aside0.mk (Kd.R_mono (ok' := fun k_ => some k_ ≠ (v348 : Value).ownBlock ∧ some k_ ≠ (.slice Ao23 t353.length co23 : Value).ownBlock ∧ some k_ ≠ (.slice Ao47 t365.length co47 : Value).ownBlock) (Kd.R_keptB (HO_12.out) hkp (fun k_ hk_ hs_ => (hk_.2.1) hs_)) (fun k_ hk_ => ⟨hk_.1.1, hk_.1.2.1, hk_.1.2.2⟩)); replace HO363 := Aside0.mk (Kd.R_mono (ok' := fun k_ => some k_ ≠ (.slice Ao22 t350.length co22 : Value).ownBlock) (Kd.R_keptB ((Kd.R_apart' HO363.out (Kd.R_typed HO_11.out) (by decide))) hkp (fun k_ hk_ hs_ => (hk_.2) hs_)) (fun k_ hk_ => hk_.1.1)); replace HO_11 := Aside0.mk (Kd.R_reok rfl hy0 (fun k_ e_ => HO_11.out.1 k_ e_)); replace HO367 := Aside0.mk (Kd.R_mono (ok' := fun k_ => some k_ ≠ (v348 : Value).ownBlock ∧ some k_ ≠ (.slice Ao23 t353.length co23 : Value).ownBlock ∧ some k_ ≠ (v358 : Value).ownBlock) (Kd.R_keptB (HO367.out) hkp (fun k_ hk_ hs_ => (hk_.2.1) hs_)) (fun k_ hk_ => ⟨hk_.1.1, hk_.1.2.1, hk_.1.2.2⟩)); replace HB := Aside0.mk (hb); (try clear hb); (try clear hkp); (try clear hy0)))
        (try simp only [Act.put, List.setIfInBounds_toArray, List.set_cons_zero, List.set_cons_succ])
        go_cut [86] (fun v86 wc => ∃ (kq : Nat) (x86_41 : Bool), v86 = .bool x86_41 ∧ Aside0 (laws_FnExactUndoEdits.j1 kq l0 l1 a2 t346 t347 t356 x86_41 = some r) ∧ Aside0 (kq ≤ kj13) ∧ Aside0 (Kd.R k28 28 wc w.heap.size (fun k_ => some k_ ≠ (v358 : Value).ownBlock) v348 t346) ∧ Aside0 (Kd.R k28 28 wc w.heap.size (fun k_ => some k_ ≠ (v348 : Value).ownBlock) v358 t356) ∧ Aside0 (Below w.heap.size w wc))
        case first =>
         have H := HC42.out
         clear HC42
         replace H := ifD H
         rcases H with ⟨H, -, c51b0⟩ | ⟨H, -, c51b0⟩
         ·(first | rw [c51b0] | (simp only [i64_w, i32_w]; rw [c51b0]) | skip)
          have H' := Aside0.mk H
          clear H
          go_wp2
          go_meet
          case rel => exact ⟨_, (true), rB, H', ⟨by have := HJ13.out; first | omega | exact Nat.le_refl _⟩, ⟨by (with_reducible repeat (first | apply Kd.R_alloc | apply Kd.R_drewN | apply Kd.R_drew)); exact Kd.R_mono HO_8.out (fun _ hk => hk.2.1)⟩, ⟨by (with_reducible repeat (first | apply Kd.R_alloc | apply Kd.R_drewN | apply Kd.R_drew)); exact Kd.R_mono HO_12.out (fun _ hk => hk.1)⟩, (aB HB)⟩
         ·(first | rw [c51b0] | (simp only [i64_w, i32_w]; rw [c51b0]) | skip)
          replace H := bA H
          obtain ⟨t373, A52, H⟩ := H
          rcases Bool.eq_false_or_eq_true t373 with rfl | rfl
          ·replace H := iT rfl H
           have H' := Aside0.mk H
           clear H
           obtain ⟨Ao54, co54, eo54⟩ := Kd.R_slice HO_12.out
           subst eo54
           obtain ⟨Ao55, co55, eo55⟩ := Kd.R_slice HO_8.out
           subst eo55
           go_wp2_with (first | (go_at_call 21; (with_reducible refine (laws_eqEditS.calls kj13 _ _ t356 _ _ t346 true _ ?side1 ?side2 ?side3 ?side4 A52.out).mono ?_); (case side1 => repeat (first | exact (Kd.R_reads' HO_12.out).2.2 | (with_reducible refine Kd.C_alloc ?_ _) | (with_reducible refine Kd.C_drewN ?_ _) | (with_reducible refine Kd.C_drew ?_))); (case side2 => exact (Kd.R_reads' HO_12.out).2.1); (case side3 => repeat (first | exact (Kd.R_reads' HO_8.out).2.2 | (with_reducible refine Kd.C_alloc ?_ _) | (with_reducible refine Kd.C_drewN ?_ _) | (with_reducible refine Kd.C_drew ?_))); (case side4 => exact (Kd.R_reads' HO_8.out).2.1); rintro e w56 ⟨rfl, hb⟩; replace HO_8 := uR HO_8 hb; replace HO_10 := uR HO_10 hb; replace HO_11 := uR HO_11 hb; replace HO_12 := uR HO_12 hb; replace HO363 := uR HO363 hb; replace HO367 := uR HO367 hb; replace HB := uB HB hb; (try clear hb); (try clear hk)))
           go_meet
           case rel => exact ⟨_, ((t357 != t347)), rB, H', ⟨by have := HJ13.out; first | omega | exact Nat.le_refl _⟩, ⟨by (with_reducible repeat (first | apply Kd.R_alloc | apply Kd.R_drewN | apply Kd.R_drew)); exact Kd.R_mono HO_8.out (fun _ hk => hk.2.1)⟩, ⟨by (with_reducible repeat (first | apply Kd.R_alloc | apply Kd.R_drewN | apply Kd.R_drew)); exact Kd.R_mono HO_12.out (fun _ hk => hk.1)⟩, (aB HB)⟩
          ·replace H := iF (by decide) H
           have H' := Aside0.mk H
           clear H
           obtain ⟨Ao57, co57, eo57⟩ := Kd.R_slice HO_12.out
           subst eo57
           obtain ⟨Ao58, co58, eo58⟩ := Kd.R_slice HO_8.out
           subst eo58
           go_wp2_with (first | (go_at_call 21; (with_reducible refine (laws_eqEditS.calls kj13 _ _ t356 _ _ t346 false _ ?side1 ?side2 ?side3 ?side4 A52.out).mono ?_); (case side1 => repeat (first | exact (Kd.R_reads' HO_12.out).2.2 | (with_reducible refine Kd.C_alloc ?_ _) | (with_reducible refine Kd.C_drewN ?_ _) | (with_reducible refine Kd.C_drew ?_))); (case side2 => exact (Kd.R_reads' HO_12.out).2.1); (case side3 => repeat (first | exact (Kd.R_reads' HO_8.out).2.2 | (with_reducible refine Kd.C_alloc ?_ _) | (with_reducible refine Kd.C_drewN ?_ _) | (with_reducible refine Kd.C_drew ?_))); (case side4 => exact (Kd.R_reads' HO_8.out).2.1); rintro e w59 ⟨rfl, hb⟩; replace HO_8 := uR HO_8 hb; replace HO_10 := uR HO_10 hb; replace HO_11 := uR HO_11 hb; replace HO_12 := uR HO_12 hb; replace HO363 := uR HO363 hb; replace HO367 := uR HO367 hb; replace HB := uB HB hb; (try clear hb); (try clear hk)))
           go_meet
           case rel => exact ⟨_, (true), rB, H', ⟨by have := HJ13.out; first | omega | exact Nat.le_refl _⟩, ⟨by (with_reducible repeat (first | apply Kd.R_alloc | apply Kd.R_drewN | apply Kd.R_drew)); exact Kd.R_mono HO_8.out (fun _ hk => hk.2.1)⟩, ⟨by (with_reducible repeat (first | apply Kd.R_alloc | apply Kd.R_drewN | apply Kd.R_drew)); exact Kd.R_mono HO_12.out (fun _ hk => hk.1)⟩, (aB HB)⟩
        case rest =>
         clear HC42
         try clear c1
         try clear c5b0
         try clear c7b0
         obtain ⟨kq, x86_41, rfl, HA, HJ41, HO_8, HO_12, HB⟩ := hcut
         cases kq with
         | zero => exact absurd HA.out (by simp [laws_FnExactUndoEdits.j1])
         | succ kj41 =>
          have H := HA.out
          clear HA
          simp only [laws_FnExactUndoEdits.j1] at H
          rcases Bool.eq_false_or_eq_true x86_41 with rfl | rfl
          ·replace H := iT rfl H
           exact absurd (Option.some.inj H) (by rw [hT]; decide)
          ·replace H := iF (by decide) H
           replace H := Option.bind_eq_some_iff.mp H
           obtain ⟨⟨t374, t375⟩, A610, H⟩ := H
           replace H : ((laws_heldEditS.f kj41 t375 1).bind fun t376 => (if t376 < 0 then (some false) else (if t376 = t374 then ((laws_toLegS.f kj41 l0).bind fun t377 => ((laws_toEditS.f kj41 l1).bind fun t380 => ((impl_UndoEdits.f kj41 t377 t380 a2).bind fun bt383 => ((laws_eqEditS.f kj41 bt383.1 t346).bind fun t387 => (if t387 = true then (laws_FnExactUndoEdits.j2 kj41 t375 t374 (bt383.2 != t347)) else (laws_FnExactUndoEdits.j2 kj41 t375 t374 true)))))) else (some false)))) = some r := H
           have A61 := Aside0.mk A610
           clear A610
           replace H := bA H
           obtain ⟨t376, A62, H⟩ := H
           replace H := ifD H
           rcases H with ⟨H, -, c63b0⟩ | ⟨H, -, c63b0⟩
           ·exact absurd (Option.some.inj H) (by rw [hT]; decide)
           ·replace H := ifI H
            rcases H with ⟨H, -, c66b0, c66b1⟩ | ⟨H, c66, c66b0, c66b1⟩
            ·replace H := bA H
             obtain ⟨t377, A67, H⟩ := H
             replace H := bA H
             obtain ⟨t380, A68, H⟩ := H
             replace H := Option.bind_eq_some_iff.mp H
             obtain ⟨⟨t383, t384⟩, A690, H⟩ := H
             replace H : ((laws_eqEditS.f kj41 t383 t346).bind fun t387 => (if t387 = true then (laws_FnExactUndoEdits.j2 kj41 t375 t374 (t384 != t347)) else (laws_FnExactUndoEdits.j2 kj41 t375 t374 true))) = some r := H
             have A69 := Aside0.mk A690
             clear A690
             have HC70 := Aside0.mk H
             clear H
             obtain ⟨Ao71, co71, eo71⟩ := Kd.R_slice HO_12.out
             subst eo71
             go_upto_region 32 with (first | ((with_reducible refine gate_callee (f := 24) rfl ?_); refine goesL_ (some 89) rfl rfl Try.func24 (by kernel_rfl) rfl #[.slice Ao71 t356.length co71, .int .i64 1] rfl argsB ?_; (with_reducible refine (laws_markEditS.calls kj41 (fun k_ => some k_ = (.slice Ao71 t356.length co71 : Value).ownBlock) (.slice Ao71 t356.length co71) t356 1 t374 t375 w _ ?side1 ?side2 A61.out).mono ?_); (case side1 => repeat (first | (with_reducible first | exact HB.out | apply below_alloc | apply pw_below_drewN | apply below_drew1) | exact HB.out)); (case side2 => exact Kd.R_tight rfl HO_12.out); rintro e w72 ⟨rfl, hy0, hb, hkp⟩; refine ⟨_, rfl, ?_⟩; replace HO_8 := Aside0.mk (Kd.R_mono (ok' := fun k_ => some k_ ≠ (.slice Ao71 t356.length co71 : Value).ownBlock) (Kd.R_keptB (HO_8.out) hkp (fun k_ hk_ hs_ => (hk_) hs_)) (fun k_ hk_ => hk_.1)); replace HO_12 := Aside0.mk (Kd.R_reok rfl hy0 (fun k_ e_ => HO_12.out.1 k_ e_)); replace HB := Aside0.mk (hb); (try clear hb); (try clear hkp); (try clear hy0)) | ((with_reducible refine gate_callee (f := 25) rfl ?_); refine goesL_ (some 92) rfl rfl Try.func25 (by kernel_rfl) rfl #[.slice Ao71 t375.length co71, .int .i64 1] rfl (by (try simp only [List.map_toArray, List.map_cons, List.map_nil]); first | done | (rw [show t375.length = t356.length from (Kd.R_reads' HO_12.out).1.symm] <;> rfl) | rfl | (simp only [List.length_drop, List.length_take]; rfl)) ?_; (with_reducible refine (laws_heldEditS.calls kj41 _ _ t375 1 t376 _ ?side1 ?side2 A62.out).mono ?_); (case side1 => repeat (first | exact (Kd.R_reads' HO_12.out).2.2 | (with_reducible refine Kd.C_alloc ?_ _) | (with_reducible refine Kd.C_drewN ?_ _) | (with_reducible refine Kd.C_drew ?_))); (case side2 => rw [show t375.length = t356.length from (Kd.R_reads' HO_12.out).1.symm]; exact (Kd.R_reads' HO_12.out).2.1); rintro e w' ⟨rfl, ⟨nd, rfl⟩⟩; refine ⟨_, rfl, ?_⟩) | ((with_reducible refine gate_callee (f := 19) rfl ?_); refine goesL_ (some 100) rfl rfl Try.func19 (by kernel_rfl) rfl #[.slice A0 l0.length c0] rfl argsB ?_; (with_reducible refine (laws_toLegS.calls kj41 _ _ l0 t377 _ ?side1 ?side2 A67.out).mono ?_); (case side1 => repeat (first | exact (Kd.C_below HR0.out (bW HB)) | (with_reducible refine Kd.C_alloc ?_ _) | (with_reducible refine Kd.C_drewN ?_ _) | (with_reducible refine Kd.C_drew ?_))); (case side2 => exact HC0.out); rintro e w73 ⟨v378, rfl, ho0, hb⟩; refine ⟨_, rfl, ?_⟩; have HO379 := Aside0.mk (Kd.R_lower ho0 (below_size (bW HB))); replace HO_8 := uR HO_8 hb; replace HO_12 := uR HO_12 hb; replace HB := uB HB hb; (try clear hb); (try clear hk); (try clear ho0)) | ((with_reducible refine gate_callee (f := 31) rfl ?_); refine goesL_ (some 102) rfl rfl Try.func31 (by kernel_rfl) rfl #[.slice A1 l1.length c1] rfl argsB ?_; (with_reducible refine (laws_toEditS.calls kj41 _ _ l1 t380 _ ?side1 ?side2 A68.out).mono ?_); (case side1 => repeat (first | exact (Kd.C_below HR1.out HB.out) | (with_reducible refine Kd.C_alloc ?_ _) | (with_reducible refine Kd.C_drewN ?_ _) | (with_reducible refine Kd.C_drew ?_))); (case side2 => exact HC1.out); rintro e w74 ⟨v381, rfl, ho0, hb⟩; refine ⟨_, rfl, ?_⟩; have HO382 := Aside0.mk (Kd.R_lower (Kd.R_new' (Kd.R_new' ho0 (Kd.R_lt (upR HO_8.out))) (Kd.R_lt (upR HO_12.out))) (below_size (bW HB))); replace HO_8 := Aside0.mk (Kd.R_elder' (upR HO_8.out) (Kd.R_base ho0) hb); replace HO_12 := Aside0.mk (Kd.R_elder' (upR HO_12.out) (Kd.R_base ho0) hb); replace HO379 := uR HO379 hb; replace HB := uB HB hb; (try clear hb); (try clear hk); (try clear ho0); obtain ⟨Ao75, co75, eo75⟩ := Kd.R_slice HO379.out; subst eo75; obtain ⟨Ao76, co76, eo76⟩ := Kd.R_slice HO382.out; subst eo76) | ((with_reducible refine gate_callee (f := 46) rfl ?_); refine goesL_ (some 104) rfl rfl Try.func46 (by kernel_rfl) rfl #[.slice Ao75 t377.length co75, .slice Ao76 t380.length co76, .int .i64 a2] rfl argsB ?_; (with_reducible refine (impl_UndoEdits.calls kj41 _ _ t377 _ _ t380 a2 t383 t384 _ ?side1 ?side2 ?side3 ?side4 A69.out).mono ?_); (case side1 => repeat (first | exact (Kd.R_reads' HO379.out).2.2 | (with_reducible refine Kd.C_alloc ?_ _) | (with_reducible refine Kd.C_drewN ?_ _) | (with_reducible refine Kd.C_drew ?_))); (case side2 => exact (Kd.R_reads' HO379.out).2.1); (case side3 => repeat (first | exact (Kd.R_reads' HO382.out).2.2 | (with_reducible refine Kd.C_alloc ?_ _) | (with_reducible refine Kd.C_drewN ?_ _) | (with_reducible refine Kd.C_drew ?_))); (case side4 => exact (Kd.R_reads' HO382.out).2.1); rintro e w77 ⟨v385, rfl, ho0, hb⟩; refine ⟨_, rfl, ?_⟩; have HO386 := Aside0.mk (Kd.R_lower (Kd.R_new' (Kd.R_new' (Kd.R_new' ho0 (Kd.R_lt (upR HO_8.out))) (Kd.R_lt (upR HO_12.out))) (Kd.R_lt (upR HO382.out))) (below_size (bW HB))); replace HO_8 := Aside0.mk (Kd.R_elder' (upR HO_8.out) (Kd.R_base ho0) hb); replace HO_12 := Aside0.mk (Kd.R_elder' (upR HO_12.out) (Kd.R_base ho0) hb); replace HO379 := uR HO379 hb; replace HO382 := Aside0.mk (Kd.R_elder' (upR HO382.out) (Kd.R_base ho0) hb); replace HB := uB HB hb; (try clear hb); (try clear hk); (try clear ho0)))
             (try simp only [Act.put, List.setIfInBounds_toArray, List.set_cons_zero, List.set_cons_succ])
             go_cut [115] (fun v115 wc => ∃ (kq : Nat) (x115_69 : Bool), v115 = .bool x115_69 ∧ Aside0 (laws_FnExactUndoEdits.j2 kq t375 t374 x115_69 = some r) ∧ Aside0 (kq ≤ kj41) ∧ Aside0 (Kd.R k28 28 wc w.heap.size (fun _ => True) (.slice Ao71 t356.length co71) t375) ∧ Aside0 (Below w.heap.size w wc))
             case first =>
              have H := HC70.out
              clear HC70
              replace H := bA H
              obtain ⟨t387, A78, H⟩ := H
              rcases Bool.eq_false_or_eq_true t387 with rfl | rfl
              ·replace H := iT rfl H
               have H' := Aside0.mk H
               clear H
               obtain ⟨Ao80, co80, eo80⟩ := Kd.R_slice HO386.out
               subst eo80
               obtain ⟨Ao81, co81, eo81⟩ := Kd.R_slice HO_8.out
               subst eo81
               go_wp2_with (first | ((with_reducible refine gC 21 ?_); refine lA (some 109) Try.func21 (laws_eqEditS.calls kj41 _ _ t383 _ _ t346 true _ ?side1 ?side2 ?side3 ?side4 A78.out) ?_; (case side1 => repeat (first | exact (Kd.R_reads' HO386.out).2.2 | (with_reducible refine Kd.C_alloc ?_ _) | (with_reducible refine Kd.C_drewN ?_ _) | (with_reducible refine Kd.C_drew ?_))); (case side2 => exact (Kd.R_reads' HO386.out).2.1); (case side3 => repeat (first | exact (Kd.R_reads' HO_8.out).2.2 | (with_reducible refine Kd.C_alloc ?_ _) | (with_reducible refine Kd.C_drewN ?_ _) | (with_reducible refine Kd.C_drew ?_))); (case side4 => exact (Kd.R_reads' HO_8.out).2.1); intro w82 hb; replace HO_8 := uR HO_8 hb; replace HO_12 := uR HO_12 hb; replace HO379 := uR HO379 hb; replace HO382 := uR HO382 hb; replace HO386 := uR HO386 hb; replace HB := uB HB hb; (try clear hb); (try clear hk)))
               go_meet
               case rel => exact ⟨_, ((t384 != t347)), rB, H', ⟨by have := HJ13.out; have := HJ41.out; first | omega | exact Nat.le_refl _⟩, ⟨by (with_reducible repeat (first | apply Kd.R_alloc | apply Kd.R_drewN | apply Kd.R_drew)); exact Kd.R_mono HO_12.out (fun _ hk => trivial)⟩, (aB HB)⟩
              ·replace H := iF (by decide) H
               have H' := Aside0.mk H
               clear H
               obtain ⟨Ao83, co83, eo83⟩ := Kd.R_slice HO386.out
               subst eo83
               obtain ⟨Ao84, co84, eo84⟩ := Kd.R_slice HO_8.out
               subst eo84
               go_wp2_with (first | ((with_reducible refine gC 21 ?_); refine lA (some 109) Try.func21 (laws_eqEditS.calls kj41 _ _ t383 _ _ t346 false _ ?side1 ?side2 ?side3 ?side4 A78.out) ?_; (case side1 => repeat (first | exact (Kd.R_reads' HO386.out).2.2 | (with_reducible refine Kd.C_alloc ?_ _) | (with_reducible refine Kd.C_drewN ?_ _) | (with_reducible refine Kd.C_drew ?_))); (case side2 => exact (Kd.R_reads' HO386.out).2.1); (case side3 => repeat (first | exact (Kd.R_reads' HO_8.out).2.2 | (with_reducible refine Kd.C_alloc ?_ _) | (with_reducible refine Kd.C_drewN ?_ _) | (with_reducible refine Kd.C_drew ?_))); (case side4 => exact (Kd.R_reads' HO_8.out).2.1); intro w85 hb; replace HO_8 := uR HO_8 hb; replace HO_12 := uR HO_12 hb; replace HO379 := uR HO379 hb; replace HO382 := uR HO382 hb; replace HO386 := uR HO386 hb; replace HB := uB HB hb; (try clear hb); (try clear hk)))
               go_meet
               case rel => exact ⟨_, (true), rB, H', ⟨by have := HJ13.out; have := HJ41.out; first | omega | exact Nat.le_refl _⟩, ⟨by (with_reducible repeat (first | apply Kd.R_alloc | apply Kd.R_drewN | apply Kd.R_drew)); exact Kd.R_mono HO_12.out (fun _ hk => trivial)⟩, (aB HB)⟩
             case rest =>
              clear HC70
              try clear c1
              try clear c5b0
              try clear c7b0
              try clear c63b0
              try clear c66
              try clear c66b0
              try clear c66b1
              obtain ⟨kq, x115_69, rfl, HA, HJ69, HO_12, HB⟩ := hcut
              have hl12_69 := (Kd.R_reads' HO_12.out).1
              rw [hl12_69] at HO_12
              (try simp only [hl12_69])
              cases kq with
              | zero => exact absurd HA.out (by simp [laws_FnExactUndoEdits.j2])
              | succ kj69 =>
               have H := HA.out
               clear HA
               simp only [laws_FnExactUndoEdits.j2] at H
               rcases Bool.eq_false_or_eq_true x115_69 with rfl | rfl
               ·replace H := iT rfl H
                exact absurd (Option.some.inj H) (by rw [hT]; decide)
               ·replace H := iF (by decide) H
                replace H := bA H
                obtain ⟨t388, A87, H⟩ := H
                replace H := ifD H
                rcases H with ⟨H, -, c88b0⟩ | ⟨H, -, c88b0⟩
                ·exact absurd (Option.some.inj H) (by rw [hT]; decide)
                ·replace H := ifI H
                 rcases H with ⟨H, -, c89b0, c89b1⟩ | ⟨H, c89, c89b0, c89b1⟩
                 ·obtain rfl := (Option.some.inj H)
                  go_wp2_with (first | ((with_reducible refine gC 25 ?_); refine lA (some 118) Try.func25 (laws_heldEditS.calls kj69 _ _ t375 1 t388 _ ?side1 ?side2 A87.out) ?_; (case side1 => repeat (first | exact (Kd.R_reads' HO_12.out).2.2 | (with_reducible refine Kd.C_alloc ?_ _) | (with_reducible refine Kd.C_drewN ?_ _) | (with_reducible refine Kd.C_drew ?_))); (case side2 => exact (Kd.R_reads' HO_12.out).2.1); rintro _ ⟨nd, rfl⟩))
                  go_ret
                  exact ⟨eB, (bW HB)⟩
                 ·exact absurd (Option.some.inj H) (by rw [hT]; decide)
            ·exact absurd (Option.some.inj H) (by rw [hT]; decide)
       ·replace H := iF (by decide) H
        exact absurd (Option.some.inj H) (by rw [hT]; decide)
      ·replace H := iF (by decide) H
       exact absurd (Option.some.inj H) (by rw [hT]; decide)

end Go.Proofs.Ytinelmmnajelaaa.QFnExactUndoEdits
