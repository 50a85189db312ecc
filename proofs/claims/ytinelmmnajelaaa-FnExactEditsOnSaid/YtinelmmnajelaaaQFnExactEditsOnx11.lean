/- Contracts of Go functions that FnExactEditsOn reaches: the call computes what the plain function says. No condition. -/
import Derived.Test.YtinelmmnajelaaaQFnExactEditsOnx0
import Derived.Test.YtinelmmnajelaaaQFnExactEditsOnx2
import Derived.Test.YtinelmmnajelaaaQFnExactEditsOnx3
import Derived.Test.YtinelmmnajelaaaQFnExactEditsOnx4
import Derived.Test.YtinelmmnajelaaaQFnExactEditsOnx6
import Derived.Test.YtinelmmnajelaaaQFnExactEditsOnx10
namespace Go.Proofs.Ytinelmmnajelaaa.QFnExactEditsOn
open Go.RowKit Go.Proofs.YtinelmmnajelaaaW.PrintWords Go.Proofs.YtinelmmnajelaaaW.PrintLast Go.Proofs.YtinelmmnajelaaaW.PrintMore
attribute [local go_sem] max2_int min2_int max_two min_two max_three min_three max_four min_four   -- for this text's walks alone
set_option linter.unusedVariables false
set_option linter.unusedSimpArgs false

/-! ### laws_FnExactEditsOn: function 8 -/
mutual
def laws_FnExactEditsOn.j0 : Nat → List (S23) → List (S25) → Int → List Int → Bool → List (S26) → List (S28) → List Int → Bool → Bool → Option (Bool)
  | 0, _, _, _, _, _, _, _, _, _, _ => none
  | k + 1, x0, x1, x2, x8, x9, x10, x11, x12, x13, x57 => if x57 = true then (some false) else ((laws_toLegS.f k x0).bind fun t357 => ((laws_eqLegS.f k x10 t357).bind fun t360 => (if t360 = true then ((laws_toEditS.f k x1).bind fun t361 => ((laws_eqEditS.f k x11 t361).bind fun t364 => (if t364 = true then ((laws_markLegS.f k x10 1).bind fun bt365 => ((laws_markEditS.f k x11 bt365.1).bind fun bt367 => (if bt367.1 < 0 then (laws_FnExactEditsOn.j1 k x0 x1 x2 x8 x9 x12 true) else ((laws_eqIntS.f k x12 x8).bind fun t369 => (if t369 = true then (laws_FnExactEditsOn.j1 k x0 x1 x2 x8 x9 x12 (x13 != x9)) else (laws_FnExactEditsOn.j1 k x0 x1 x2 x8 x9 x12 true)))))) else (some false)))) else (some false))))
def laws_FnExactEditsOn.j1 : Nat → List (S23) → List (S25) → Int → List Int → Bool → List Int → Bool → Option (Bool)
  | 0, _, _, _, _, _, _, _ => none
  | k + 1, x0, x1, x2, x8, x9, x12, x86 => if x86 = true then (some false) else ((laws_markIntS.f k x12 1).bind fun bt370 => ((laws_heldIntS.f k bt370.2 1).bind fun t372 => (if t372 < 0 then (some false) else (if t372 = bt370.1 then ((laws_toLegS.f k x0).bind fun t373 => ((laws_toEditS.f k x1).bind fun t376 => ((impl_EditsOn.f k t373 t376 x2).bind fun bt379 => ((laws_eqIntS.f k bt379.1 x8).bind fun t383 => (if t383 = true then (laws_FnExactEditsOn.j2 k bt370.2 bt370.1 (bt379.2 != x9)) else (laws_FnExactEditsOn.j2 k bt370.2 bt370.1 true)))))) else (some false)))))
def laws_FnExactEditsOn.j2 : Nat → List Int → Int → Bool → Option (Bool)
  | 0, _, _, _ => none
  | k + 1, x12, x15, x115 => if x115 = true then (some false) else ((laws_heldIntS.f k x12 1).bind fun t384 => (if t384 < 0 then (some false) else (if t384 = x15 then (some true) else (some false))))
end
def laws_FnExactEditsOn.f (k : Nat) (l0 : List (S23)) (l1 : List (S25)) (a2 : Int) : Option (Bool) := (laws_szLegS.f l0 1048576).bind fun t334 => (if t334 < 0 then (some true) else ((laws_szEditS.f l1 t334).bind fun t335 => (if t335 < 0 then (some true) else ((laws_toLegS.f k l0).bind fun t336 => ((laws_toEditS.f k l1).bind fun t339 => ((spec_EditsOn.f k t336 t339 a2).bind fun bt342 => ((laws_toLegS.f k l0).bind fun t346 => ((laws_toEditS.f k l1).bind fun t349 => ((impl_EditsOn.f k t346 t349 a2).bind fun bt352 => ((laws_eqIntS.f k bt352.1 bt342.1).bind fun t356 => (if t356 = true then (laws_FnExactEditsOn.j0 k l0 l1 a2 bt342.1 bt342.2 t346 t349 bt352.1 bt352.2 (bt352.2 != bt342.2)) else (laws_FnExactEditsOn.j0 k l0 l1 a2 bt342.1 bt342.2 t346 t349 bt352.1 bt352.2 true))))))))))))
theorem laws_FnExactEditsOn.mono_l : ∀ k, (∀ y0 y1 y2 y3 y4 y5 y6 y7 y8 y9, LeO (laws_FnExactEditsOn.j0 k y0 y1 y2 y3 y4 y5 y6 y7 y8 y9) (laws_FnExactEditsOn.j0 (k + 1) y0 y1 y2 y3 y4 y5 y6 y7 y8 y9)) ∧ (∀ y0 y1 y2 y3 y4 y5 y6, LeO (laws_FnExactEditsOn.j1 k y0 y1 y2 y3 y4 y5 y6) (laws_FnExactEditsOn.j1 (k + 1) y0 y1 y2 y3 y4 y5 y6)) ∧ (∀ y0 y1 y2, LeO (laws_FnExactEditsOn.j2 k y0 y1 y2) (laws_FnExactEditsOn.j2 (k + 1) y0 y1 y2))
  | 0 => ⟨fun _ _ _ _ _ _ _ _ _ _ r h => by simp [laws_FnExactEditsOn.j0] at h, fun _ _ _ _ _ _ _ r h => by simp [laws_FnExactEditsOn.j1] at h, fun _ _ _ r h => by simp [laws_FnExactEditsOn.j2] at h⟩
  | k + 1 => by
    obtain ⟨ih0, ih1, ih2⟩ := laws_FnExactEditsOn.mono_l k
    refine ⟨?_, ?_, ?_⟩
    · intro y0 y1 y2 y3 y4 y5 y6 y7 y8 y9
      unfold laws_FnExactEditsOn.j0
      repeat' first
      | (with_reducible exact ih0 _ _ _ _ _ _ _ _ _ _)
      | (with_reducible exact ih1 _ _ _ _ _ _ _)
      | (with_reducible exact ih2 _ _ _)
      | (with_reducible exact impl_EditsOn.mono _ _ _ _)
      | (with_reducible exact laws_eqEditS.mono _ _ _)
      | (with_reducible exact laws_eqIntS.mono _ _ _)
      | (with_reducible exact laws_eqLegS.mono _ _ _)
      | (with_reducible exact laws_heldIntS.mono _ _ _)
      | (with_reducible exact laws_markEditS.mono _ _ _)
      | (with_reducible exact laws_markIntS.mono _ _ _)
      | (with_reducible exact laws_markLegS.mono _ _ _)
      | (with_reducible exact laws_toEditS.mono _ _)
      | (with_reducible exact laws_toLegS.mono _ _)
      | (with_reducible exact spec_EditsOn.mono _ _ _ _)
      | (with_reducible exact LeO.refl _)
      | (with_reducible exact LeO.none _)
      | (with_reducible refine LeO.ite ?_ ?_)
      | (with_reducible refine LeO.bind ?_ (fun _ => ?_))
      | exact ih0 _ _ _ _ _ _ _ _ _ _
      | exact ih1 _ _ _ _ _ _ _
      | exact ih2 _ _ _
      | exact impl_EditsOn.mono _ _ _ _
      | exact laws_eqEditS.mono _ _ _
      | exact laws_eqIntS.mono _ _ _
      | exact laws_eqLegS.mono _ _ _
      | exact laws_heldIntS.mono _ _ _
      | exact laws_markEditS.mono _ _ _
      | exact laws_markIntS.mono _ _ _
      | exact laws_markLegS.mono _ _ _
      | exact laws_toEditS.mono _ _
      | exact laws_toLegS.mono _ _
      | exact spec_EditsOn.mono _ _ _ _
      | exact LeO.none _
      | refine LeO.ite ?_ ?_
      | refine LeO.bind ?_ (fun _ => ?_)
    · intro y0 y1 y2 y3 y4 y5 y6
      unfold laws_FnExactEditsOn.j1
      repeat' first
      | (with_reducible exact ih0 _ _ _ _ _ _ _ _ _ _)
      | (with_reducible exact ih1 _ _ _ _ _ _ _)
      | (with_reducible exact ih2 _ _ _)
      | (with_reducible exact impl_EditsOn.mono _ _ _ _)
      | (with_reducible exact laws_eqEditS.mono _ _ _)
      | (with_reducible exact laws_eqIntS.mono _ _ _)
      | (with_reducible exact laws_eqLegS.mono _ _ _)
      | (with_reducible exact laws_heldIntS.mono _ _ _)
      | (with_reducible exact laws_markEditS.mono _ _ _)
      | (with_reducible exact laws_markIntS.mono _ _ _)
      | (with_reducible exact laws_markLegS.mono _ _ _)
      | (with_reducible exact laws_toEditS.mono _ _)
      | (with_reducible exact laws_toLegS.mono _ _)
      | (with_reducible exact spec_EditsOn.mono _ _ _ _)
      | (with_reducible exact LeO.refl _)
      | (with_reducible exact LeO.none _)
      | (with_reducible refine LeO.ite ?_ ?_)
      | (with_reducible refine LeO.bind ?_ (fun _ => ?_))
      | exact ih0 _ _ _ _ _ _ _ _ _ _
      | exact ih1 _ _ _ _ _ _ _
      | exact ih2 _ _ _
      | exact impl_EditsOn.mono _ _ _ _
      | exact laws_eqEditS.mono _ _ _
      | exact laws_eqIntS.mono _ _ _
      | exact laws_eqLegS.mono _ _ _
      | exact laws_heldIntS.mono _ _ _
      | exact laws_markEditS.mono _ _ _
      | exact laws_markIntS.mono _ _ _
      | exact laws_markLegS.mono _ _ _
      | exact laws_toEditS.mono _ _
      | exact laws_toLegS.mono _ _
      | exact spec_EditsOn.mono _ _ _ _
      | exact LeO.none _
      | refine LeO.ite ?_ ?_
      | refine LeO.bind ?_ (fun _ => ?_)
    · intro y0 y1 y2
      unfold laws_FnExactEditsOn.j2
      repeat' first
      | (with_reducible exact ih0 _ _ _ _ _ _ _ _ _ _)
      | (with_reducible exact ih1 _ _ _ _ _ _ _)
      | (with_reducible exact ih2 _ _ _)
      | (with_reducible exact impl_EditsOn.mono _ _ _ _)
      | (with_reducible exact laws_eqEditS.mono _ _ _)
      | (with_reducible exact laws_eqIntS.mono _ _ _)
      | (with_reducible exact laws_eqLegS.mono _ _ _)
      | (with_reducible exact laws_heldIntS.mono _ _ _)
      | (with_reducible exact laws_markEditS.mono _ _ _)
      | (with_reducible exact laws_markIntS.mono _ _ _)
      | (with_reducible exact laws_markLegS.mono _ _ _)
      | (with_reducible exact laws_toEditS.mono _ _)
      | (with_reducible exact laws_toLegS.mono _ _)
      | (with_reducible exact spec_EditsOn.mono _ _ _ _)
      | (with_reducible exact LeO.refl _)
      | (with_reducible exact LeO.none _)
      | (with_reducible refine LeO.ite ?_ ?_)
      | (with_reducible refine LeO.bind ?_ (fun _ => ?_))
      | exact ih0 _ _ _ _ _ _ _ _ _ _
      | exact ih1 _ _ _ _ _ _ _
      | exact ih2 _ _ _
      | exact impl_EditsOn.mono _ _ _ _
      | exact laws_eqEditS.mono _ _ _
      | exact laws_eqIntS.mono _ _ _
      | exact laws_eqLegS.mono _ _ _
      | exact laws_heldIntS.mono _ _ _
      | exact laws_markEditS.mono _ _ _
      | exact laws_markIntS.mono _ _ _
      | exact laws_markLegS.mono _ _ _
      | exact laws_toEditS.mono _ _
      | exact laws_toLegS.mono _ _
      | exact spec_EditsOn.mono _ _ _ _
      | exact LeO.none _
      | refine LeO.ite ?_ ?_
      | refine LeO.bind ?_ (fun _ => ?_)
theorem laws_FnExactEditsOn.mono : ∀ a0 a1 a2 k, LeO (laws_FnExactEditsOn.f k a0 a1 a2) (laws_FnExactEditsOn.f (k + 1) a0 a1 a2) := by
  intro a0 a1 a2 k
  obtain ⟨ih0, ih1, ih2⟩ := laws_FnExactEditsOn.mono_l k
  unfold laws_FnExactEditsOn.f
  repeat' first
      | (with_reducible exact ih0 _ _ _ _ _ _ _ _ _ _)
      | (with_reducible exact ih1 _ _ _ _ _ _ _)
      | (with_reducible exact ih2 _ _ _)
      | (with_reducible exact impl_EditsOn.mono _ _ _ _)
      | (with_reducible exact laws_eqEditS.mono _ _ _)
      | (with_reducible exact laws_eqIntS.mono _ _ _)
      | (with_reducible exact laws_eqLegS.mono _ _ _)
      | (with_reducible exact laws_heldIntS.mono _ _ _)
      | (with_reducible exact laws_markEditS.mono _ _ _)
      | (with_reducible exact laws_markIntS.mono _ _ _)
      | (with_reducible exact laws_markLegS.mono _ _ _)
      | (with_reducible exact laws_toEditS.mono _ _)
      | (with_reducible exact laws_toLegS.mono _ _)
      | (with_reducible exact spec_EditsOn.mono _ _ _ _)
      | (with_reducible exact LeO.refl _)
      | (with_reducible exact LeO.none _)
      | (with_reducible refine LeO.ite ?_ ?_)
      | (with_reducible refine LeO.bind ?_ (fun _ => ?_))
      | exact ih0 _ _ _ _ _ _ _ _ _ _
      | exact ih1 _ _ _ _ _ _ _
      | exact ih2 _ _ _
      | exact impl_EditsOn.mono _ _ _ _
      | exact laws_eqEditS.mono _ _ _
      | exact laws_eqIntS.mono _ _ _
      | exact laws_eqLegS.mono _ _ _
      | exact laws_heldIntS.mono _ _ _
      | exact laws_markEditS.mono _ _ _
      | exact laws_markIntS.mono _ _ _
      | exact laws_markLegS.mono _ _ _
      | exact laws_toEditS.mono _ _
      | exact laws_toLegS.mono _ _
      | exact spec_EditsOn.mono _ _ _ _
      | exact LeO.none _
      | refine LeO.ite ?_ ?_
      | refine LeO.bind ?_ (fun _ => ?_)
set_option maxHeartbeats 8000000 in
set_option maxRecDepth 100000 in
theorem laws_FnExactEditsOn.calls (k : Nat) (A0 : Option Addr) (c0 : Nat) (l0 : List (S23)) (A1 : Option Addr) (c1 : Nat) (l1 : List (S25)) (a2 : Int) (r : Bool) (w : World) (hr0 : Kd.C k23 w A0 l0.length l0) (hc0 : l0.length ≤ c0) (hr1 : Kd.C k25 w A1 l1.length l1) (hc1 : l1.length ≤ c1) (h : laws_FnExactEditsOn.f k l0 l1 a2 = some r) (hT : r = true) :
    Calls Try.prog 8 #[.slice A0 l0.length c0, .slice A1 l1.length c1, .int .i64 a2] w fun e w' => e = .returned (.bool r) ∧ Below w.heap.size w w' := by
  have HR0 := Aside0.mk hr0
  have HC0 := Aside0.mk hc0
  clear hr0 hc0
  have HR1 := Aside0.mk hr1
  have HC1 := Aside0.mk hc1
  clear hr1 hc1
  have HB := Aside0.mk (Below.refl w.heap.size w)
  have H : ((laws_szLegS.f l0 1048576).bind fun t334 => (if t334 < 0 then (some true) else ((laws_szEditS.f l1 t334).bind fun t335 => (if t335 < 0 then (some true) else ((laws_toLegS.f k l0).bind fun t336 => ((laws_toEditS.f k l1).bind fun t339 => ((spec_EditsOn.f k t336 t339 a2).bind fun bt342 => ((laws_toLegS.f k l0).bind fun t346 => ((laws_toEditS.f k l1).bind fun t349 => ((impl_EditsOn.f k t346 t349 a2).bind fun bt352 => ((laws_eqIntS.f k bt352.1 bt342.1).bind fun t356 => (if t356 = true then (laws_FnExactEditsOn.j0 k l0 l1 a2 bt342.1 bt342.2 t346 t349 bt352.1 bt352.2 (bt352.2 != bt342.2)) else (laws_FnExactEditsOn.j0 k l0 l1 a2 bt342.1 bt342.2 t346 t349 bt352.1 bt352.2 true))))))))))))) = some r := h
  clear h
  replace H := Option.bind_eq_some_iff.mp H
  obtain ⟨t334, A40, H⟩ := H
  replace H : (if t334 < 0 then (some true) else ((laws_szEditS.f l1 t334).bind fun t335 => (if t335 < 0 then (some true) else ((laws_toLegS.f k l0).bind fun t336 => ((laws_toEditS.f k l1).bind fun t339 => ((spec_EditsOn.f k t336 t339 a2).bind fun bt342 => ((laws_toLegS.f k l0).bind fun t346 => ((laws_toEditS.f k l1).bind fun t349 => ((impl_EditsOn.f k t346 t349 a2).bind fun bt352 => ((laws_eqIntS.f k bt352.1 bt342.1).bind fun t356 => (if t356 = true then (laws_FnExactEditsOn.j0 k l0 l1 a2 bt342.1 bt342.2 t346 t349 bt352.1 bt352.2 (bt352.2 != bt342.2)) else (laws_FnExactEditsOn.j0 k l0 l1 a2 bt342.1 bt342.2 t346 t349 bt352.1 bt352.2 true)))))))))))) = some r := H
  have A4 := Aside0.mk A40
  clear A40
  by_cases c5 : t334 < 0
  · rw [if_pos c5] at H
    have c5b0 : decide (t334 < 0) = true := decide_eq_true c5
    clear c5
    obtain rfl := (Option.some.inj H)
    go_enter Try.func8, Try.ntmps8
    go_wp2_with (first | ((with_reducible refine gate_callee (f := 17) rfl ?_); refine goesL_ (some 21) rfl rfl Try.func17 (by kernel_rfl) rfl #[.slice A0 l0.length c0, .int .i64 1048576] rfl argsB ?_; (with_reducible refine (laws_szLegS.calls _ _ l0 1048576 t334 _ ?side1 ?side2 A4.out).mono ?_); (case side1 => repeat (first | exact HR0.out | (with_reducible refine Kd.C_alloc ?_ _) | (with_reducible refine Kd.C_drewN ?_ _) | (with_reducible refine Kd.C_drew ?_))); (case side2 => exact HC0.out); rintro e w' ⟨rfl, ⟨nd, rfl⟩⟩; refine ⟨_, rfl, ?_⟩))
    go_ret
    exact ⟨by first | rfl | (simp [errW_none, errW_some] <;> rfl) | (simp [*, errW_none, errW_some] <;> rfl), (upB HB.out)⟩
  · rw [if_neg c5] at H
    have c5b0 : decide (t334 < 0) = false := decide_eq_false c5
    clear c5
    replace H := Option.bind_eq_some_iff.mp H
    obtain ⟨t335, A60, H⟩ := H
    replace H : (if t335 < 0 then (some true) else ((laws_toLegS.f k l0).bind fun t336 => ((laws_toEditS.f k l1).bind fun t339 => ((spec_EditsOn.f k t336 t339 a2).bind fun bt342 => ((laws_toLegS.f k l0).bind fun t346 => ((laws_toEditS.f k l1).bind fun t349 => ((impl_EditsOn.f k t346 t349 a2).bind fun bt352 => ((laws_eqIntS.f k bt352.1 bt342.1).bind fun t356 => (if t356 = true then (laws_FnExactEditsOn.j0 k l0 l1 a2 bt342.1 bt342.2 t346 t349 bt352.1 bt352.2 (bt352.2 != bt342.2)) else (laws_FnExactEditsOn.j0 k l0 l1 a2 bt342.1 bt342.2 t346 t349 bt352.1 bt352.2 true)))))))))) = some r := H
    have A6 := Aside0.mk A60
    clear A60
    by_cases c7 : t335 < 0
    · rw [if_pos c7] at H
      have c7b0 : decide (t335 < 0) = true := decide_eq_true c7
      clear c7
      obtain rfl := (Option.some.inj H)
      go_enter Try.func8, Try.ntmps8
      go_wp2_with (first | ((with_reducible refine gate_callee (f := 17) rfl ?_); refine goesL_ (some 21) rfl rfl Try.func17 (by kernel_rfl) rfl #[.slice A0 l0.length c0, .int .i64 1048576] rfl argsB ?_; (with_reducible refine (laws_szLegS.calls _ _ l0 1048576 t334 _ ?side1 ?side2 A4.out).mono ?_); (case side1 => repeat (first | exact HR0.out | (with_reducible refine Kd.C_alloc ?_ _) | (with_reducible refine Kd.C_drewN ?_ _) | (with_reducible refine Kd.C_drew ?_))); (case side2 => exact HC0.out); rintro e w' ⟨rfl, ⟨nd, rfl⟩⟩; refine ⟨_, rfl, ?_⟩) | ((with_reducible refine gate_callee (f := 29) rfl ?_); refine goesL_ (some 26) rfl rfl Try.func29 (by kernel_rfl) rfl #[.slice A1 l1.length c1, .int .i64 t334] rfl argsB ?_; (with_reducible refine (laws_szEditS.calls _ _ l1 t334 t335 _ ?side1 ?side2 A6.out).mono ?_); (case side1 => repeat (first | exact HR1.out | (with_reducible refine Kd.C_alloc ?_ _) | (with_reducible refine Kd.C_drewN ?_ _) | (with_reducible refine Kd.C_drew ?_))); (case side2 => exact HC1.out); rintro e w' ⟨rfl, ⟨nd, rfl⟩⟩; refine ⟨_, rfl, ?_⟩))
      go_ret
      exact ⟨by first | rfl | (simp [errW_none, errW_some] <;> rfl) | (simp [*, errW_none, errW_some] <;> rfl), (upB HB.out)⟩
    · rw [if_neg c7] at H
      have c7b0 : decide (t335 < 0) = false := decide_eq_false c7
      clear c7
      replace H := Option.bind_eq_some_iff.mp H
      obtain ⟨t336, A80, H⟩ := H
      replace H : ((laws_toEditS.f k l1).bind fun t339 => ((spec_EditsOn.f k t336 t339 a2).bind fun bt342 => ((laws_toLegS.f k l0).bind fun t346 => ((laws_toEditS.f k l1).bind fun t349 => ((impl_EditsOn.f k t346 t349 a2).bind fun bt352 => ((laws_eqIntS.f k bt352.1 bt342.1).bind fun t356 => (if t356 = true then (laws_FnExactEditsOn.j0 k l0 l1 a2 bt342.1 bt342.2 t346 t349 bt352.1 bt352.2 (bt352.2 != bt342.2)) else (laws_FnExactEditsOn.j0 k l0 l1 a2 bt342.1 bt342.2 t346 t349 bt352.1 bt352.2 true)))))))) = some r := H
      have A8 := Aside0.mk A80
      clear A80
      replace H := Option.bind_eq_some_iff.mp H
      obtain ⟨t339, A90, H⟩ := H
      replace H : ((spec_EditsOn.f k t336 t339 a2).bind fun bt342 => ((laws_toLegS.f k l0).bind fun t346 => ((laws_toEditS.f k l1).bind fun t349 => ((impl_EditsOn.f k t346 t349 a2).bind fun bt352 => ((laws_eqIntS.f k bt352.1 bt342.1).bind fun t356 => (if t356 = true then (laws_FnExactEditsOn.j0 k l0 l1 a2 bt342.1 bt342.2 t346 t349 bt352.1 bt352.2 (bt352.2 != bt342.2)) else (laws_FnExactEditsOn.j0 k l0 l1 a2 bt342.1 bt342.2 t346 t349 bt352.1 bt352.2 true))))))) = some r := H
      have A9 := Aside0.mk A90
      clear A90
      replace H := Option.bind_eq_some_iff.mp H
      obtain ⟨⟨t342, t343⟩, A100, H⟩ := H
      replace H : ((laws_toLegS.f k l0).bind fun t346 => ((laws_toEditS.f k l1).bind fun t349 => ((impl_EditsOn.f k t346 t349 a2).bind fun bt352 => ((laws_eqIntS.f k bt352.1 t342).bind fun t356 => (if t356 = true then (laws_FnExactEditsOn.j0 k l0 l1 a2 t342 t343 t346 t349 bt352.1 bt352.2 (bt352.2 != t343)) else (laws_FnExactEditsOn.j0 k l0 l1 a2 t342 t343 t346 t349 bt352.1 bt352.2 true)))))) = some r := H
      have A10 := Aside0.mk A100
      clear A100
      replace H := Option.bind_eq_some_iff.mp H
      obtain ⟨t346, A110, H⟩ := H
      replace H : ((laws_toEditS.f k l1).bind fun t349 => ((impl_EditsOn.f k t346 t349 a2).bind fun bt352 => ((laws_eqIntS.f k bt352.1 t342).bind fun t356 => (if t356 = true then (laws_FnExactEditsOn.j0 k l0 l1 a2 t342 t343 t346 t349 bt352.1 bt352.2 (bt352.2 != t343)) else (laws_FnExactEditsOn.j0 k l0 l1 a2 t342 t343 t346 t349 bt352.1 bt352.2 true))))) = some r := H
      have A11 := Aside0.mk A110
      clear A110
      replace H := Option.bind_eq_some_iff.mp H
      obtain ⟨t349, A120, H⟩ := H
      replace H : ((impl_EditsOn.f k t346 t349 a2).bind fun bt352 => ((laws_eqIntS.f k bt352.1 t342).bind fun t356 => (if t356 = true then (laws_FnExactEditsOn.j0 k l0 l1 a2 t342 t343 t346 t349 bt352.1 bt352.2 (bt352.2 != t343)) else (laws_FnExactEditsOn.j0 k l0 l1 a2 t342 t343 t346 t349 bt352.1 bt352.2 true)))) = some r := H
      have A12 := Aside0.mk A120
      clear A120
      replace H := Option.bind_eq_some_iff.mp H
      obtain ⟨⟨t352, t353⟩, A130, H⟩ := H
      replace H : ((laws_eqIntS.f k t352 t342).bind fun t356 => (if t356 = true then (laws_FnExactEditsOn.j0 k l0 l1 a2 t342 t343 t346 t349 t352 t353 (t353 != t343)) else (laws_FnExactEditsOn.j0 k l0 l1 a2 t342 t343 t346 t349 t352 t353 true))) = some r := H
      have A13 := Aside0.mk A130
      clear A130
      have HC14 := Aside0.mk H
      clear H
      go_enter Try.func8, Try.ntmps8
      go_upto_region 12 with (first | ((with_reducible refine gate_callee (f := 17) rfl ?_); refine goesL_ (some 21) rfl rfl Try.func17 (by kernel_rfl) rfl #[.slice A0 l0.length c0, .int .i64 1048576] rfl argsB ?_; (with_reducible refine (laws_szLegS.calls _ _ l0 1048576 t334 _ ?side1 ?side2 A4.out).mono ?_); (case side1 => repeat (first | exact HR0.out | (with_reducible refine Kd.C_alloc ?_ _) | (with_reducible refine Kd.C_drewN ?_ _) | (with_reducible refine Kd.C_drew ?_))); (case side2 => exact HC0.out); rintro e w' ⟨rfl, ⟨nd, rfl⟩⟩; refine ⟨_, rfl, ?_⟩) | ((with_reducible refine gate_callee (f := 29) rfl ?_); refine goesL_ (some 26) rfl rfl Try.func29 (by kernel_rfl) rfl #[.slice A1 l1.length c1, .int .i64 t334] rfl argsB ?_; (with_reducible refine (laws_szEditS.calls _ _ l1 t334 t335 _ ?side1 ?side2 A6.out).mono ?_); (case side1 => repeat (first | exact HR1.out | (with_reducible refine Kd.C_alloc ?_ _) | (with_reducible refine Kd.C_drewN ?_ _) | (with_reducible refine Kd.C_drew ?_))); (case side2 => exact HC1.out); rintro e w' ⟨rfl, ⟨nd, rfl⟩⟩; refine ⟨_, rfl, ?_⟩) | ((with_reducible refine gate_callee (f := 19) rfl ?_); refine goesL_ (some 31) rfl rfl Try.func19 (by kernel_rfl) rfl #[.slice A0 l0.length c0] rfl argsB ?_; (with_reducible refine (laws_toLegS.calls k _ _ l0 t336 _ ?side1 ?side2 A8.out).mono ?_); (case side1 => repeat (first | exact HR0.out | (with_reducible refine Kd.C_alloc ?_ _) | (with_reducible refine Kd.C_drewN ?_ _) | (with_reducible refine Kd.C_drew ?_))); (case side2 => exact HC0.out); rintro e w15 ⟨v337, rfl, ho0, hb⟩; refine ⟨_, rfl, ?_⟩; have n0_ := Aside0.mk (Kd.R_lower ho0 (below_size (upB HB.out))); have n1_ := Aside0.mk (below_step (upB HB.out) hb); clear HB; have HO338 := n0_; have HB := n1_; clear n0_ n1_; (try clear hb); (try clear hk); (try clear ho0)) | ((with_reducible refine gate_callee (f := 31) rfl ?_); refine goesL_ (some 33) rfl rfl Try.func31 (by kernel_rfl) rfl #[.slice A1 l1.length c1] rfl argsB ?_; (with_reducible refine (laws_toEditS.calls k _ _ l1 t339 _ ?side1 ?side2 A9.out).mono ?_); (case side1 => repeat (first | exact (Kd.C_below HR1.out HB.out) | (with_reducible refine Kd.C_alloc ?_ _) | (with_reducible refine Kd.C_drewN ?_ _) | (with_reducible refine Kd.C_drew ?_))); (case side2 => exact HC1.out); rintro e w16 ⟨v340, rfl, ho0, hb⟩; refine ⟨_, rfl, ?_⟩; have n0_ := Aside0.mk (Kd.R_below (upR HO338.out) hb); have n1_ := Aside0.mk (Kd.R_lower ho0 (below_size (upB HB.out))); have n2_ := Aside0.mk (below_step (upB HB.out) hb); clear HO338; clear HB; have HO338 := n0_; have HO341 := n1_; have HB := n2_; clear n0_ n1_ n2_; (try clear hb); (try clear hk); (try clear ho0); obtain ⟨Ao17, co17, eo17⟩ := Kd.R_slice HO338.out; subst eo17; obtain ⟨Ao18, co18, eo18⟩ := Kd.R_slice HO341.out; subst eo18) | ((with_reducible refine gate_callee (f := 35) rfl ?_); refine goesL_ (some 35) rfl rfl Try.func35 (by kernel_rfl) rfl #[.slice Ao17 t336.length co17, .slice Ao18 t339.length co18, .int .i64 a2] rfl argsB ?_; (with_reducible refine (spec_EditsOn.calls k _ _ t336 _ _ t339 a2 t342 t343 _ ?side1 ?side2 ?side3 ?side4 A10.out).mono ?_); (case side1 => repeat (first | exact (Kd.R_reads' HO338.out).2.2 | (with_reducible refine Kd.C_alloc ?_ _) | (with_reducible refine Kd.C_drewN ?_ _) | (with_reducible refine Kd.C_drew ?_))); (case side2 => exact (Kd.R_reads' HO338.out).2.1); (case side3 => repeat (first | exact (Kd.R_reads' HO341.out).2.2 | (with_reducible refine Kd.C_alloc ?_ _) | (with_reducible refine Kd.C_drewN ?_ _) | (with_reducible refine Kd.C_drew ?_))); (case side4 => exact (Kd.R_reads' HO341.out).2.1); rintro e w19 ⟨v344, rfl, ho0, hb⟩; refine ⟨_, rfl, ?_⟩; have n0_ := Aside0.mk (Kd.R_below (upR HO338.out) hb); have n1_ := Aside0.mk (Kd.R_below (upR HO341.out) hb); have n2_ := Aside0.mk (Kd.R_lower ho0 (below_size (upB HB.out))); have n3_ := Aside0.mk (below_step (upB HB.out) hb); clear HO338; clear HO341; clear HB; have HO338 := n0_; have HO341 := n1_; have HO345 := n2_; have HB := n3_; clear n0_ n1_ n2_ n3_; (try clear hb); (try clear hk); (try clear ho0)) | ((with_reducible refine gate_callee (f := 19) rfl ?_); refine goesL_ (some 39) rfl rfl Try.func19 (by kernel_rfl) rfl #[.slice A0 l0.length c0] rfl argsB ?_; (with_reducible refine (laws_toLegS.calls k _ _ l0 t346 _ ?side1 ?side2 A11.out).mono ?_); (case side1 => repeat (first | exact (Kd.C_below HR0.out HB.out) | (with_reducible refine Kd.C_alloc ?_ _) | (with_reducible refine Kd.C_drewN ?_ _) | (with_reducible refine Kd.C_drew ?_))); (case side2 => exact HC0.out); rintro e w20 ⟨v347, rfl, ho0, hb⟩; refine ⟨_, rfl, ?_⟩; have n0_ := Aside0.mk (Kd.R_elder' (upR HO338.out) (Kd.R_base ho0) hb); have n1_ := Aside0.mk (Kd.R_below (upR HO341.out) hb); have n2_ := Aside0.mk (Kd.R_below (upR HO345.out) hb); have n3_ := Aside0.mk (Kd.R_lower (Kd.R_new' ho0 (Kd.R_lt (upR HO338.out))) (below_size (upB HB.out))); have n4_ := Aside0.mk (below_step (upB HB.out) hb); clear HO338; clear HO341; clear HO345; clear HB; have HO338 := n0_; have HO341 := n1_; have HO345 := n2_; have HO348 := n3_; have HB := n4_; clear n0_ n1_ n2_ n3_ n4_; (try clear hb); (try clear hk); (try clear ho0)) | ((with_reducible refine gate_callee (f := 31) rfl ?_); refine goesL_ (some 41) rfl rfl Try.func31 (by kernel_rfl) rfl #[.slice A1 l1.length c1] rfl argsB ?_; (with_reducible refine (laws_toEditS.calls k _ _ l1 t349 _ ?side1 ?side2 A12.out).mono ?_); (case side1 => repeat (first | exact (Kd.C_below HR1.out HB.out) | (with_reducible refine Kd.C_alloc ?_ _) | (with_reducible refine Kd.C_drewN ?_ _) | (with_reducible refine Kd.C_drew ?_))); (case side2 => exact HC1.out); rintro e w21 ⟨v350, rfl, ho0, hb⟩; refine ⟨_, rfl, ?_⟩; have n0_ := Aside0.mk (Kd.R_below (upR HO338.out) hb); have n1_ := Aside0.mk (Kd.R_elder' (upR HO341.out) (Kd.R_base ho0) hb); have n2_ := Aside0.mk (Kd.R_below (upR HO345.out) hb); have n3_ := Aside0.mk (Kd.R_below (upR HO348.out) hb); have n4_ := Aside0.mk (Kd.R_lower (Kd.R_new' ho0 (Kd.R_lt (upR HO341.out))) (below_size (upB HB.out))); have n5_ := Aside0.mk (below_step (upB HB.out) hb); clear HO338; clear HO341; clear HO345; clear HO348; clear HB; have HO338 := n0_; have HO341 := n1_; have HO345 := n2_; have HO348 := n3_; have HO351 := n4_; have HB := n5_; clear n0_ n1_ n2_ n3_ n4_ n5_; (try clear hb); (try clear hk); (try clear ho0); obtain ⟨Ao22, co22, eo22⟩ := Kd.R_slice HO348.out; subst eo22; obtain ⟨Ao23, co23, eo23⟩ := Kd.R_slice HO351.out; subst eo23) | ((with_reducible refine gate_callee (f := 36) rfl ?_); refine goesL_ (some 46) rfl rfl Try.func36 (by kernel_rfl) rfl #[.slice Ao22 t346.length co22, .slice Ao23 t349.length co23, .int .i64 a2] rfl argsB ?_; (with_reducible refine (impl_EditsOn.calls k _ _ t346 _ _ t349 a2 t352 t353 _ ?side1 ?side2 ?side3 ?side4 A13.out).mono ?_); (case side1 => repeat (first | exact (Kd.R_reads' HO348.out).2.2 | (with_reducible refine Kd.C_alloc ?_ _) | (with_reducible refine Kd.C_drewN ?_ _) | (with_reducible refine Kd.C_drew ?_))); (case side2 => exact (Kd.R_reads' HO348.out).2.1); (case side3 => repeat (first | exact (Kd.R_reads' HO351.out).2.2 | (with_reducible refine Kd.C_alloc ?_ _) | (with_reducible refine Kd.C_drewN ?_ _) | (with_reducible refine Kd.C_drew ?_))); (case side4 => exact (Kd.R_reads' HO351.out).2.1); rintro e w24 ⟨v354, rfl, ho0, hb⟩; refine ⟨_, rfl, ?_⟩; have n0_ := Aside0.mk (Kd.R_below (upR HO338.out) hb); have n1_ := Aside0.mk (Kd.R_below (upR HO341.out) hb); have n2_ := Aside0.mk (Kd.R_elder' (upR HO345.out) (Kd.R_base ho0) hb); have n3_ := Aside0.mk (Kd.R_below (upR HO348.out) hb); have n4_ := Aside0.mk (Kd.R_below (upR HO351.out) hb); have n5_ := Aside0.mk (Kd.R_lower (Kd.R_new' ho0 (Kd.R_lt (upR HO345.out))) (below_size (upB HB.out))); have n6_ := Aside0.mk (below_step (upB HB.out) hb); clear HO338; clear HO341; clear HO345; clear HO348; clear HO351; clear HB; have HO338 := n0_; have HO341 := n1_; have HO345 := n2_; have HO348 := n3_; have HO351 := n4_; have HO355 := n5_; have HB := n6_; clear n0_ n1_ n2_ n3_ n4_ n5_ n6_; (try clear hb); (try clear hk); (try clear ho0)))
      (try simp only [Act.put, List.setIfInBounds_toArray, List.set_cons_zero, List.set_cons_succ])
      go_cut [57] (fun v57 wc => ∃ (kq : Nat) (x57_13 : Bool), v57 = .bool x57_13 ∧ Aside0 (laws_FnExactEditsOn.j0 kq l0 l1 a2 t342 t343 t346 t349 t352 t353 x57_13 = some r) ∧ Aside0 (kq ≤ k) ∧ Aside0 (Kd.R (Kd.int .i64) 3 wc w.heap.size (fun k_ => some k_ ≠ (v354 : Value).ownBlock) v344 t342) ∧ Aside0 (Kd.R k26 26 wc w.heap.size (fun _ => True) (.slice Ao22 t346.length co22) t346) ∧ Aside0 (Kd.R k28 28 wc w.heap.size (fun _ => True) (.slice Ao23 t349.length co23) t349) ∧ Aside0 (Kd.R (Kd.int .i64) 3 wc w.heap.size (fun k_ => some k_ ≠ (v344 : Value).ownBlock) v354 t352) ∧ Aside0 (Below w.heap.size w wc))
      case first =>
        have H := HC14.out
        clear HC14
        replace H := Option.bind_eq_some_iff.mp H
        obtain ⟨t356, A250, H⟩ := H
        replace H : (if t356 = true then (laws_FnExactEditsOn.j0 k l0 l1 a2 t342 t343 t346 t349 t352 t353 (t353 != t343)) else (laws_FnExactEditsOn.j0 k l0 l1 a2 t342 t343 t346 t349 t352 t353 true)) = some r := H
        have A25 := Aside0.mk A250
        clear A250
        by_cases c26 : t356 = true
        · subst c26
          have H1 : (laws_FnExactEditsOn.j0 k l0 l1 a2 t342 t343 t346 t349 t352 t353 (t353 != t343)) = some r := by rw [if_pos rfl] at H; exact H
          clear H
          have H := H1
          clear H1
          have H' := Aside0.mk H
          clear H
          obtain ⟨Ao27, co27, eo27⟩ := Kd.R_slice HO355.out
          subst eo27
          obtain ⟨Ao28, co28, eo28⟩ := Kd.R_slice HO345.out
          subst eo28
          go_wp2_with (first | ((with_reducible refine gate_callee (f := 37) rfl ?_); refine goesL_ (some 51) rfl rfl Try.func37 (by kernel_rfl) rfl #[.slice Ao27 t352.length co27, .slice Ao28 t342.length co28] rfl argsB ?_; (with_reducible refine (laws_eqIntS.calls k _ _ t352 _ _ t342 true _ ?side1 ?side2 ?side3 ?side4 A25.out).mono ?_); (case side1 => repeat (first | exact (Kd.R_reads' HO355.out).2.2 | (with_reducible refine Kd.C_alloc ?_ _) | (with_reducible refine Kd.C_drewN ?_ _) | (with_reducible refine Kd.C_drew ?_))); (case side2 => exact (Kd.R_reads' HO355.out).2.1); (case side3 => repeat (first | exact (Kd.R_reads' HO345.out).2.2 | (with_reducible refine Kd.C_alloc ?_ _) | (with_reducible refine Kd.C_drewN ?_ _) | (with_reducible refine Kd.C_drew ?_))); (case side4 => exact (Kd.R_reads' HO345.out).2.1); rintro e w' ⟨rfl, ⟨nd, rfl⟩⟩; refine ⟨_, rfl, ?_⟩))
          go_meet
          case rel => exact ⟨_, ((t353 != t343)), (by first | rfl | (simp; done) | (simp [*]; done)), H', ⟨by first | omega | exact Nat.le_refl _⟩, ⟨by (with_reducible repeat (first | apply Kd.R_alloc | apply Kd.R_drewN | apply Kd.R_drew)); exact Kd.R_mono HO345.out (fun _ hk => hk.2)⟩, ⟨by (with_reducible repeat (first | apply Kd.R_alloc | apply Kd.R_drewN | apply Kd.R_drew)); exact Kd.R_mono HO348.out (fun _ hk => trivial)⟩, ⟨by (with_reducible repeat (first | apply Kd.R_alloc | apply Kd.R_drewN | apply Kd.R_drew)); exact Kd.R_mono HO351.out (fun _ hk => trivial)⟩, ⟨by (with_reducible repeat (first | apply Kd.R_alloc | apply Kd.R_drewN | apply Kd.R_drew)); exact Kd.R_mono HO355.out (fun _ hk => hk.2)⟩, ⟨(upB HB.out)⟩⟩
        · replace c26 := Bool.eq_false_iff.mpr c26
          subst c26
          have H1 : (laws_FnExactEditsOn.j0 k l0 l1 a2 t342 t343 t346 t349 t352 t353 true) = some r := by rw [if_neg (show ¬ (false = true) by decide)] at H; exact H
          clear H
          have H := H1
          clear H1
          have H' := Aside0.mk H
          clear H
          obtain ⟨Ao29, co29, eo29⟩ := Kd.R_slice HO355.out
          subst eo29
          obtain ⟨Ao30, co30, eo30⟩ := Kd.R_slice HO345.out
          subst eo30
          go_wp2_with (first | ((with_reducible refine gate_callee (f := 37) rfl ?_); refine goesL_ (some 51) rfl rfl Try.func37 (by kernel_rfl) rfl #[.slice Ao29 t352.length co29, .slice Ao30 t342.length co30] rfl argsB ?_; (with_reducible refine (laws_eqIntS.calls k _ _ t352 _ _ t342 false _ ?side1 ?side2 ?side3 ?side4 A25.out).mono ?_); (case side1 => repeat (first | exact (Kd.R_reads' HO355.out).2.2 | (with_reducible refine Kd.C_alloc ?_ _) | (with_reducible refine Kd.C_drewN ?_ _) | (with_reducible refine Kd.C_drew ?_))); (case side2 => exact (Kd.R_reads' HO355.out).2.1); (case side3 => repeat (first | exact (Kd.R_reads' HO345.out).2.2 | (with_reducible refine Kd.C_alloc ?_ _) | (with_reducible refine Kd.C_drewN ?_ _) | (with_reducible refine Kd.C_drew ?_))); (case side4 => exact (Kd.R_reads' HO345.out).2.1); rintro e w' ⟨rfl, ⟨nd, rfl⟩⟩; refine ⟨_, rfl, ?_⟩))
          go_meet
          case rel => exact ⟨_, (true), (by first | rfl | (simp; done) | (simp [*]; done)), H', ⟨by first | omega | exact Nat.le_refl _⟩, ⟨by (with_reducible repeat (first | apply Kd.R_alloc | apply Kd.R_drewN | apply Kd.R_drew)); exact Kd.R_mono HO345.out (fun _ hk => hk.2)⟩, ⟨by (with_reducible repeat (first | apply Kd.R_alloc | apply Kd.R_drewN | apply Kd.R_drew)); exact Kd.R_mono HO348.out (fun _ hk => trivial)⟩, ⟨by (with_reducible repeat (first | apply Kd.R_alloc | apply Kd.R_drewN | apply Kd.R_drew)); exact Kd.R_mono HO351.out (fun _ hk => trivial)⟩, ⟨by (with_reducible repeat (first | apply Kd.R_alloc | apply Kd.R_drewN | apply Kd.R_drew)); exact Kd.R_mono HO355.out (fun _ hk => hk.2)⟩, ⟨(upB HB.out)⟩⟩
      case rest =>
        clear HC14
        try clear c1
        try clear c5
        try clear c5b0
        try clear c7
        try clear c7b0
        try clear c26
        obtain ⟨kq, x57_13, rfl, HA, HJ13, HO_8, HO_10, HO_11, HO_12, HB⟩ := hcut
        cases kq with
        | zero => exact absurd HA.out (by simp [laws_FnExactEditsOn.j0])
        | succ kj13 =>
          have H := HA.out
          clear HA
          simp only [laws_FnExactEditsOn.j0] at H
          by_cases c31 : x57_13 = true
          · subst c31
            have H1 : (some false) = some r := by rw [if_pos rfl] at H; exact H
            clear H
            have H := H1
            clear H1
            exact absurd (Option.some.inj H) (by rw [hT]; decide)
          · replace c31 := Bool.eq_false_iff.mpr c31
            subst c31
            have H1 : ((laws_toLegS.f kj13 l0).bind fun t357 => ((laws_eqLegS.f kj13 t346 t357).bind fun t360 => (if t360 = true then ((laws_toEditS.f kj13 l1).bind fun t361 => ((laws_eqEditS.f kj13 t349 t361).bind fun t364 => (if t364 = true then ((laws_markLegS.f kj13 t346 1).bind fun bt365 => ((laws_markEditS.f kj13 t349 bt365.1).bind fun bt367 => (if bt367.1 < 0 then (laws_FnExactEditsOn.j1 kj13 l0 l1 a2 t342 t343 t352 true) else ((laws_eqIntS.f kj13 t352 t342).bind fun t369 => (if t369 = true then (laws_FnExactEditsOn.j1 kj13 l0 l1 a2 t342 t343 t352 (t353 != t343)) else (laws_FnExactEditsOn.j1 kj13 l0 l1 a2 t342 t343 t352 true)))))) else (some false)))) else (some false)))) = some r := by rw [if_neg (show ¬ (false = true) by decide)] at H; exact H
            clear H
            have H := H1
            clear H1
            replace H := Option.bind_eq_some_iff.mp H
            obtain ⟨t357, A320, H⟩ := H
            replace H : ((laws_eqLegS.f kj13 t346 t357).bind fun t360 => (if t360 = true then ((laws_toEditS.f kj13 l1).bind fun t361 => ((laws_eqEditS.f kj13 t349 t361).bind fun t364 => (if t364 = true then ((laws_markLegS.f kj13 t346 1).bind fun bt365 => ((laws_markEditS.f kj13 t349 bt365.1).bind fun bt367 => (if bt367.1 < 0 then (laws_FnExactEditsOn.j1 kj13 l0 l1 a2 t342 t343 t352 true) else ((laws_eqIntS.f kj13 t352 t342).bind fun t369 => (if t369 = true then (laws_FnExactEditsOn.j1 kj13 l0 l1 a2 t342 t343 t352 (t353 != t343)) else (laws_FnExactEditsOn.j1 kj13 l0 l1 a2 t342 t343 t352 true)))))) else (some false)))) else (some false))) = some r := H
            have A32 := Aside0.mk A320
            clear A320
            replace H := Option.bind_eq_some_iff.mp H
            obtain ⟨t360, A330, H⟩ := H
            replace H : (if t360 = true then ((laws_toEditS.f kj13 l1).bind fun t361 => ((laws_eqEditS.f kj13 t349 t361).bind fun t364 => (if t364 = true then ((laws_markLegS.f kj13 t346 1).bind fun bt365 => ((laws_markEditS.f kj13 t349 bt365.1).bind fun bt367 => (if bt367.1 < 0 then (laws_FnExactEditsOn.j1 kj13 l0 l1 a2 t342 t343 t352 true) else ((laws_eqIntS.f kj13 t352 t342).bind fun t369 => (if t369 = true then (laws_FnExactEditsOn.j1 kj13 l0 l1 a2 t342 t343 t352 (t353 != t343)) else (laws_FnExactEditsOn.j1 kj13 l0 l1 a2 t342 t343 t352 true)))))) else (some false)))) else (some false)) = some r := H
            have A33 := Aside0.mk A330
            clear A330
            by_cases c34 : t360 = true
            · subst c34
              have H1 : ((laws_toEditS.f kj13 l1).bind fun t361 => ((laws_eqEditS.f kj13 t349 t361).bind fun t364 => (if t364 = true then ((laws_markLegS.f kj13 t346 1).bind fun bt365 => ((laws_markEditS.f kj13 t349 bt365.1).bind fun bt367 => (if bt367.1 < 0 then (laws_FnExactEditsOn.j1 kj13 l0 l1 a2 t342 t343 t352 true) else ((laws_eqIntS.f kj13 t352 t342).bind fun t369 => (if t369 = true then (laws_FnExactEditsOn.j1 kj13 l0 l1 a2 t342 t343 t352 (t353 != t343)) else (laws_FnExactEditsOn.j1 kj13 l0 l1 a2 t342 t343 t352 true)))))) else (some false)))) = some r := by rw [if_pos rfl] at H; exact H
              clear H
              have H := H1
              clear H1
              replace H := Option.bind_eq_some_iff.mp H
              obtain ⟨t361, A350, H⟩ := H
              replace H : ((laws_eqEditS.f kj13 t349 t361).bind fun t364 => (if t364 = true then ((laws_markLegS.f kj13 t346 1).bind fun bt365 => ((laws_markEditS.f kj13 t349 bt365.1).bind fun bt367 => (if bt367.1 < 0 then (laws_FnExactEditsOn.j1 kj13 l0 l1 a2 t342 t343 t352 true) else ((laws_eqIntS.f kj13 t352 t342).bind fun t369 => (if t369 = true then (laws_FnExactEditsOn.j1 kj13 l0 l1 a2 t342 t343 t352 (t353 != t343)) else (laws_FnExactEditsOn.j1 kj13 l0 l1 a2 t342 t343 t352 true)))))) else (some false))) = some r := H
              have A35 := Aside0.mk A350
              clear A350
              replace H := Option.bind_eq_some_iff.mp H
              obtain ⟨t364, A360, H⟩ := H
              replace H : (if t364 = true then ((laws_markLegS.f kj13 t346 1).bind fun bt365 => ((laws_markEditS.f kj13 t349 bt365.1).bind fun bt367 => (if bt367.1 < 0 then (laws_FnExactEditsOn.j1 kj13 l0 l1 a2 t342 t343 t352 true) else ((laws_eqIntS.f kj13 t352 t342).bind fun t369 => (if t369 = true then (laws_FnExactEditsOn.j1 kj13 l0 l1 a2 t342 t343 t352 (t353 != t343)) else (laws_FnExactEditsOn.j1 kj13 l0 l1 a2 t342 t343 t352 true)))))) else (some false)) = some r := H
              have A36 := Aside0.mk A360
              clear A360
              by_cases c37 : t364 = true
              · subst c37
                have H1 : ((laws_markLegS.f kj13 t346 1).bind fun bt365 => ((laws_markEditS.f kj13 t349 bt365.1).bind fun bt367 => (if bt367.1 < 0 then (laws_FnExactEditsOn.j1 kj13 l0 l1 a2 t342 t343 t352 true) else ((laws_eqIntS.f kj13 t352 t342).bind fun t369 => (if t369 = true then (laws_FnExactEditsOn.j1 kj13 l0 l1 a2 t342 t343 t352 (t353 != t343)) else (laws_FnExactEditsOn.j1 kj13 l0 l1 a2 t342 t343 t352 true)))))) = some r := by rw [if_pos rfl] at H; exact H
                clear H
                have H := H1
                clear H1
                replace H := Option.bind_eq_some_iff.mp H
                obtain ⟨⟨t365, t366⟩, A380, H⟩ := H
                replace H : ((laws_markEditS.f kj13 t349 t365).bind fun bt367 => (if bt367.1 < 0 then (laws_FnExactEditsOn.j1 kj13 l0 l1 a2 t342 t343 t352 true) else ((laws_eqIntS.f kj13 t352 t342).bind fun t369 => (if t369 = true then (laws_FnExactEditsOn.j1 kj13 l0 l1 a2 t342 t343 t352 (t353 != t343)) else (laws_FnExactEditsOn.j1 kj13 l0 l1 a2 t342 t343 t352 true))))) = some r := H
                have A38 := Aside0.mk A380
                clear A380
                replace H := Option.bind_eq_some_iff.mp H
                obtain ⟨⟨t367, t368⟩, A390, H⟩ := H
                replace H : (if t367 < 0 then (laws_FnExactEditsOn.j1 kj13 l0 l1 a2 t342 t343 t352 true) else ((laws_eqIntS.f kj13 t352 t342).bind fun t369 => (if t369 = true then (laws_FnExactEditsOn.j1 kj13 l0 l1 a2 t342 t343 t352 (t353 != t343)) else (laws_FnExactEditsOn.j1 kj13 l0 l1 a2 t342 t343 t352 true)))) = some r := H
                have A39 := Aside0.mk A390
                clear A390
                have HC40 := Aside0.mk H
                clear H
                go_upto_region 21 with (first | ((with_reducible refine gate_callee (f := 19) rfl ?_); refine goesL_ (some 60) rfl rfl Try.func19 (by kernel_rfl) rfl #[.slice A0 l0.length c0] rfl argsB ?_; (with_reducible refine (laws_toLegS.calls kj13 _ _ l0 t357 _ ?side1 ?side2 A32.out).mono ?_); (case side1 => repeat (first | exact (Kd.C_below HR0.out HB.out) | (with_reducible refine Kd.C_alloc ?_ _) | (with_reducible refine Kd.C_drewN ?_ _) | (with_reducible refine Kd.C_drew ?_))); (case side2 => exact HC0.out); rintro e w41 ⟨v358, rfl, ho0, hb⟩; refine ⟨_, rfl, ?_⟩; have n0_ := Aside0.mk (Kd.R_below (upR HO_8.out) hb); have n1_ := Aside0.mk (Kd.R_elder' (upR HO_10.out) (Kd.R_base ho0) hb); have n2_ := Aside0.mk (Kd.R_below (upR HO_11.out) hb); have n3_ := Aside0.mk (Kd.R_below (upR HO_12.out) hb); have n4_ := Aside0.mk (Kd.R_lower (Kd.R_new' ho0 (Kd.R_lt (upR HO_10.out))) (below_size (upB HB.out))); have n5_ := Aside0.mk (below_step (upB HB.out) hb); clear HO_8; clear HO_10; clear HO_11; clear HO_12; clear HB; have HO_8 := n0_; have HO_10 := n1_; have HO_11 := n2_; have HO_12 := n3_; have HO359 := n4_; have HB := n5_; clear n0_ n1_ n2_ n3_ n4_ n5_; (try clear hb); (try clear hk); (try clear ho0); obtain ⟨Ao42, co42, eo42⟩ := Kd.R_slice HO359.out; subst eo42) | ((with_reducible refine gate_callee (f := 22) rfl ?_); refine goesL_ (some 61) rfl rfl Try.func22 (by kernel_rfl) rfl #[.slice Ao22 t346.length co22, .slice Ao42 t357.length co42] rfl argsB ?_; (with_reducible refine (laws_eqLegS.calls kj13 _ _ t346 _ _ t357 true _ ?side1 ?side2 ?side3 ?side4 A33.out).mono ?_); (case side1 => repeat (first | exact (Kd.R_reads' HO_10.out).2.2 | (with_reducible refine Kd.C_alloc ?_ _) | (with_reducible refine Kd.C_drewN ?_ _) | (with_reducible refine Kd.C_drew ?_))); (case side2 => exact (Kd.R_reads' HO_10.out).2.1); (case side3 => repeat (first | exact (Kd.R_reads' HO359.out).2.2 | (with_reducible refine Kd.C_alloc ?_ _) | (with_reducible refine Kd.C_drewN ?_ _) | (with_reducible refine Kd.C_drew ?_))); (case side4 => exact (Kd.R_reads' HO359.out).2.1); rintro e w43 ⟨rfl, hb⟩; refine ⟨_, rfl, ?_⟩; have n0_ := Aside0.mk (Kd.R_below (upR HO_8.out) hb); have n1_ := Aside0.mk (Kd.R_below (upR HO_10.out) hb); have n2_ := Aside0.mk (Kd.R_below (upR HO_11.out) hb); have n3_ := Aside0.mk (Kd.R_below (upR HO_12.out) hb); have n4_ := Aside0.mk (Kd.R_below (upR HO359.out) hb); have n5_ := Aside0.mk (below_step (upB HB.out) hb); clear HO_8; clear HO_10; clear HO_11; clear HO_12; clear HO359; clear HB; have HO_8 := n0_; have HO_10 := n1_; have HO_11 := n2_; have HO_12 := n3_; have HO359 := n4_; have HB := n5_; clear n0_ n1_ n2_ n3_ n4_ n5_; (try clear hb); (try clear hk)) | ((with_reducible refine gate_callee (f := 31) rfl ?_); refine goesL_ (some 65) rfl rfl Try.func31 (by kernel_rfl) rfl #[.slice A1 l1.length c1] rfl argsB ?_; (with_reducible refine (laws_toEditS.calls kj13 _ _ l1 t361 _ ?side1 ?side2 A35.out).mono ?_); (case side1 => repeat (first | exact (Kd.C_below HR1.out HB.out) | (with_reducible refine Kd.C_alloc ?_ _) | (with_reducible refine Kd.C_drewN ?_ _) | (with_reducible refine Kd.C_drew ?_))); (case side2 => exact HC1.out); rintro e w44 ⟨v362, rfl, ho0, hb⟩; refine ⟨_, rfl, ?_⟩; have n0_ := Aside0.mk (Kd.R_below (upR HO_8.out) hb); have n1_ := Aside0.mk (Kd.R_below (upR HO_10.out) hb); have n2_ := Aside0.mk (Kd.R_elder' (upR HO_11.out) (Kd.R_base ho0) hb); have n3_ := Aside0.mk (Kd.R_below (upR HO_12.out) hb); have n4_ := Aside0.mk (Kd.R_below (upR HO359.out) hb); have n5_ := Aside0.mk (Kd.R_lower (Kd.R_new' ho0 (Kd.R_lt (upR HO_11.out))) (below_size (upB HB.out))); have n6_ := Aside0.mk (below_step (upB HB.out) hb); clear HO_8; clear HO_10; clear HO_11; clear HO_12; clear HO359; clear HB; have HO_8 := n0_; have HO_10 := n1_; have HO_11 := n2_; have HO_12 := n3_; have HO359 := n4_; have HO363 := n5_; have HB := n6_; clear n0_ n1_ n2_ n3_ n4_ n5_ n6_; (try clear hb); (try clear hk); (try clear ho0); obtain ⟨Ao45, co45, eo45⟩ := Kd.R_slice HO363.out; subst eo45) | ((with_reducible refine gate_callee (f := 21) rfl ?_); refine goesL_ (some 66) rfl rfl Try.func21 (by kernel_rfl) rfl #[.slice Ao23 t349.length co23, .slice Ao45 t361.length co45] rfl argsB ?_; (with_reducible refine (laws_eqEditS.calls kj13 _ _ t349 _ _ t361 true _ ?side1 ?side2 ?side3 ?side4 A36.out).mono ?_); (case side1 => repeat (first | exact (Kd.R_reads' HO_11.out).2.2 | (with_reducible refine Kd.C_alloc ?_ _) | (with_reducible refine Kd.C_drewN ?_ _) | (with_reducible refine Kd.C_drew ?_))); (case side2 => exact (Kd.R_reads' HO_11.out).2.1); (case side3 => repeat (first | exact (Kd.R_reads' HO363.out).2.2 | (with_reducible refine Kd.C_alloc ?_ _) | (with_reducible refine Kd.C_drewN ?_ _) | (with_reducible refine Kd.C_drew ?_))); (case side4 => exact (Kd.R_reads' HO363.out).2.1); rintro e w46 ⟨rfl, hb⟩; refine ⟨_, rfl, ?_⟩; have n0_ := Aside0.mk (Kd.R_below (upR HO_8.out) hb); have n1_ := Aside0.mk (Kd.R_below (upR HO_10.out) hb); have n2_ := Aside0.mk (Kd.R_below (upR HO_11.out) hb); have n3_ := Aside0.mk (Kd.R_below (upR HO_12.out) hb); have n4_ := Aside0.mk (Kd.R_below (upR HO359.out) hb); have n5_ := Aside0.mk (Kd.R_below (upR HO363.out) hb); have n6_ := Aside0.mk (below_step (upB HB.out) hb); clear HO_8; clear HO_10; clear HO_11; clear HO_12; clear HO359; clear HO363; clear HB; have HO_8 := n0_; have HO_10 := n1_; have HO_11 := n2_; have HO_12 := n3_; have HO359 := n4_; have HO363 := n5_; have HB := n6_; clear n0_ n1_ n2_ n3_ n4_ n5_ n6_; (try clear hb); (try clear hk)) | ((with_reducible refine gate_callee (f := 23) rfl ?_); refine goesL_ (some 70) rfl rfl Try.func23 (by kernel_rfl) rfl #[.slice Ao22 t346.length co22, .int .i64 1] rfl argsB ?_; (with_reducible refine (laws_markLegS.calls kj13 (fun k_ => some k_ = (.slice Ao22 t346.length co22 : Value).ownBlock) (.slice Ao22 t346.length co22) t346 1 t365 t366 w _ ?side1 ?side2 A38.out).mono ?_); (case side1 => repeat (first | (with_reducible first | exact HB.out | apply below_alloc | apply pw_below_drewN | apply below_drew1) | exact HB.out)); (case side2 => exact Kd.R_tight rfl HO_10.out); rintro e w47 ⟨rfl, hy0, hb, hkp⟩; refine ⟨_, rfl, ?_⟩; have n0_ := Aside0.mk (Kd.R_mono (ok' := fun k_ => some k_ ≠ (v354 : Value).ownBlock) (Kd.R_keptB ((Kd.R_apart' HO_8.out (Kd.R_typed HO_10.out) (by decide))) hkp (fun k_ hk_ hs_ => (hk_.2) hs_)) (fun k_ hk_ => hk_.1.1)); have n1_ := Aside0.mk (Kd.R_reok rfl hy0 (fun k_ e_ => HO_10.out.1 k_ e_)); have n2_ := Aside0.mk (Kd.R_mono (ok' := fun k_ => some k_ ≠ (.slice Ao45 t361.length co45 : Value).ownBlock) (Kd.R_keptB ((Kd.R_apart' HO_11.out (Kd.R_typed HO_10.out) (by decide))) hkp (fun k_ hk_ hs_ => (hk_.2) hs_)) (fun k_ hk_ => hk_.1.1.2)); have n3_ := Aside0.mk (Kd.R_mono (ok' := fun k_ => some k_ ≠ (v344 : Value).ownBlock) (Kd.R_keptB ((Kd.R_apart' HO_12.out (Kd.R_typed HO_10.out) (by decide))) hkp (fun k_ hk_ hs_ => (hk_.2) hs_)) (fun k_ hk_ => hk_.1.1)); have n4_ := Aside0.mk (Kd.R_mono (ok' := fun k_ => some k_ ≠ (.slice Ao22 t346.length co22 : Value).ownBlock) (Kd.R_keptB (HO359.out) hkp (fun k_ hk_ hs_ => (hk_.2) hs_)) (fun k_ hk_ => hk_.1.2)); have n5_ := Aside0.mk (Kd.R_mono (ok' := fun k_ => some k_ ≠ (.slice Ao23 t349.length co23 : Value).ownBlock) (Kd.R_keptB ((Kd.R_apart' HO363.out (Kd.R_typed HO_10.out) (by decide))) hkp (fun k_ hk_ hs_ => (hk_.2) hs_)) (fun k_ hk_ => hk_.1.1.2)); have n6_ := Aside0.mk (hb); clear HO_8; clear HO_10; clear HO_11; clear HO_12; clear HO359; clear HO363; clear HB; have HO_8 := n0_; have HO_10 := n1_; have HO_11 := n2_; have HO_12 := n3_; have HO359 := n4_; have HO363 := n5_; have HB := n6_; clear n0_ n1_ n2_ n3_ n4_ n5_ n6_; (try clear hb); (try clear hkp); (try clear hy0)) | ((with_reducible refine gate_callee (f := 24) rfl ?_); refine goesL_ (some 73) rfl rfl Try.func24 (by kernel_rfl) rfl #[.slice Ao23 t349.length co23, .int .i64 t365] rfl argsB ?_; (with_reducible refine (laws_markEditS.calls kj13 (fun k_ => some k_ = (.slice Ao23 t349.length co23 : Value).ownBlock) (.slice Ao23 t349.length co23) t349 t365 t367 t368 w _ ?side1 ?side2 A39.out).mono ?_); (case side1 => repeat (first | (with_reducible first | exact HB.out | apply below_alloc | apply pw_below_drewN | apply below_drew1) | exact HB.out)); (case side2 => exact Kd.R_tight rfl HO_11.out); rintro e w48 ⟨rfl, hy0, hb, hkp⟩; refine ⟨_, rfl, ?_⟩; have n0_ := Aside0.mk (Kd.R_mono (ok' := fun k_ => some k_ ≠ (v354 : Value).ownBlock) (Kd.R_keptB ((Kd.R_apart' HO_8.out (Kd.R_typed HO_11.out) (by decide))) hkp (fun k_ hk_ hs_ => (hk_.2) hs_)) (fun k_ hk_ => hk_.1.1)); have n1_ := Aside0.mk (Kd.R_mono (ok' := fun k_ => some k_ ≠ (.slice Ao42 t357.length co42 : Value).ownBlock) (Kd.R_keptB ((Kd.R_apart' HO_10.out (Kd.R_typed HO_11.out) (by decide))) hkp (fun k_ hk_ hs_ => (hk_.2) hs_)) (fun k_ hk_ => hk_.1.1.2)); have n2_ := Aside0.mk (Kd.R_reok rfl hy0 (fun k_ e_ => HO_11.out.1 k_ e_)); have n3_ := Aside0.mk (Kd.R_mono (ok' := fun k_ => some k_ ≠ (v344 : Value).ownBlock) (Kd.R_keptB ((Kd.R_apart' HO_12.out (Kd.R_typed HO_11.out) (by decide))) hkp (fun k_ hk_ hs_ => (hk_.2) hs_)) (fun k_ hk_ => hk_.1.1)); have n4_ := Aside0.mk (Kd.R_mono (ok' := fun k_ => some k_ ≠ (.slice Ao22 t346.length co22 : Value).ownBlock) (Kd.R_keptB ((Kd.R_apart' HO359.out (Kd.R_typed HO_11.out) (by decide))) hkp (fun k_ hk_ hs_ => (hk_.2) hs_)) (fun k_ hk_ => hk_.1.1)); have n5_ := Aside0.mk (Kd.R_mono (ok' := fun k_ => some k_ ≠ (.slice Ao23 t349.length co23 : Value).ownBlock) (Kd.R_keptB (HO363.out) hkp (fun k_ hk_ hs_ => (hk_) hs_)) (fun k_ hk_ => hk_.1)); have n6_ := Aside0.mk (hb); clear HO_8; clear HO_10; clear HO_11; clear HO_12; clear HO359; clear HO363; clear HB; have HO_8 := n0_; have HO_10 := n1_; have HO_11 := n2_; have HO_12 := n3_; have HO359 := n4_; have HO363 := n5_; have HB := n6_; clear n0_ n1_ n2_ n3_ n4_ n5_ n6_; (try clear hb); (try clear hkp); (try clear hy0)))
                (try simp only [Act.put, List.setIfInBounds_toArray, List.set_cons_zero, List.set_cons_succ])
                go_cut [86] (fun v86 wc => ∃ (kq : Nat) (x86_39 : Bool), v86 = .bool x86_39 ∧ Aside0 (laws_FnExactEditsOn.j1 kq l0 l1 a2 t342 t343 t352 x86_39 = some r) ∧ Aside0 (kq ≤ kj13) ∧ Aside0 (Kd.R (Kd.int .i64) 3 wc w.heap.size (fun k_ => some k_ ≠ (v354 : Value).ownBlock) v344 t342) ∧ Aside0 (Kd.R (Kd.int .i64) 3 wc w.heap.size (fun k_ => some k_ ≠ (v344 : Value).ownBlock) v354 t352) ∧ Aside0 (Below w.heap.size w wc))
                case first =>
                  have H := HC40.out
                  clear HC40
                  by_cases c49 : t367 < 0
                  · rw [if_pos c49] at H
                    have c49b0 : decide (t367 < 0) = true := decide_eq_true c49
                    clear c49
                    (first | rw [c49b0] | (simp only [i64_w, i32_w]; rw [c49b0]) | skip)
                    have H' := Aside0.mk H
                    clear H
                    go_wp2
                    go_meet
                    case rel => exact ⟨_, (true), (by first | rfl | (simp; done) | (simp [*]; done)), H', ⟨by have := HJ13.out; first | omega | exact Nat.le_refl _⟩, ⟨by (with_reducible repeat (first | apply Kd.R_alloc | apply Kd.R_drewN | apply Kd.R_drew)); exact HO_8.out⟩, ⟨by (with_reducible repeat (first | apply Kd.R_alloc | apply Kd.R_drewN | apply Kd.R_drew)); exact HO_12.out⟩, ⟨(upB HB.out)⟩⟩
                  · rw [if_neg c49] at H
                    have c49b0 : decide (t367 < 0) = false := decide_eq_false c49
                    clear c49
                    (first | rw [c49b0] | (simp only [i64_w, i32_w]; rw [c49b0]) | skip)
                    replace H := Option.bind_eq_some_iff.mp H
                    obtain ⟨t369, A500, H⟩ := H
                    replace H : (if t369 = true then (laws_FnExactEditsOn.j1 kj13 l0 l1 a2 t342 t343 t352 (t353 != t343)) else (laws_FnExactEditsOn.j1 kj13 l0 l1 a2 t342 t343 t352 true)) = some r := H
                    have A50 := Aside0.mk A500
                    clear A500
                    by_cases c51 : t369 = true
                    · subst c51
                      have H1 : (laws_FnExactEditsOn.j1 kj13 l0 l1 a2 t342 t343 t352 (t353 != t343)) = some r := by rw [if_pos rfl] at H; exact H
                      clear H
                      have H := H1
                      clear H1
                      have H' := Aside0.mk H
                      clear H
                      obtain ⟨Ao52, co52, eo52⟩ := Kd.R_slice HO_12.out
                      subst eo52
                      obtain ⟨Ao53, co53, eo53⟩ := Kd.R_slice HO_8.out
                      subst eo53
                      go_wp2_with (first | (go_at_call 37; (with_reducible refine (laws_eqIntS.calls kj13 _ _ t352 _ _ t342 true _ ?side1 ?side2 ?side3 ?side4 A50.out).mono ?_); (case side1 => repeat (first | exact (Kd.R_reads' HO_12.out).2.2 | (with_reducible refine Kd.C_alloc ?_ _) | (with_reducible refine Kd.C_drewN ?_ _) | (with_reducible refine Kd.C_drew ?_))); (case side2 => exact (Kd.R_reads' HO_12.out).2.1); (case side3 => repeat (first | exact (Kd.R_reads' HO_8.out).2.2 | (with_reducible refine Kd.C_alloc ?_ _) | (with_reducible refine Kd.C_drewN ?_ _) | (with_reducible refine Kd.C_drew ?_))); (case side4 => exact (Kd.R_reads' HO_8.out).2.1); rintro e w' ⟨rfl, ⟨nd, rfl⟩⟩))
                      go_meet
                      case rel => exact ⟨_, ((t353 != t343)), (by first | rfl | (simp; done) | (simp [*]; done)), H', ⟨by have := HJ13.out; first | omega | exact Nat.le_refl _⟩, ⟨by (with_reducible repeat (first | apply Kd.R_alloc | apply Kd.R_drewN | apply Kd.R_drew)); exact HO_8.out⟩, ⟨by (with_reducible repeat (first | apply Kd.R_alloc | apply Kd.R_drewN | apply Kd.R_drew)); exact HO_12.out⟩, ⟨(upB HB.out)⟩⟩
                    · replace c51 := Bool.eq_false_iff.mpr c51
                      subst c51
                      have H1 : (laws_FnExactEditsOn.j1 kj13 l0 l1 a2 t342 t343 t352 true) = some r := by rw [if_neg (show ¬ (false = true) by decide)] at H; exact H
                      clear H
                      have H := H1
                      clear H1
                      have H' := Aside0.mk H
                      clear H
                      obtain ⟨Ao54, co54, eo54⟩ := Kd.R_slice HO_12.out
                      subst eo54
                      obtain ⟨Ao55, co55, eo55⟩ := Kd.R_slice HO_8.out
                      subst eo55
                      go_wp2_with (first | (go_at_call 37; (with_reducible refine (laws_eqIntS.calls kj13 _ _ t352 _ _ t342 false _ ?side1 ?side2 ?side3 ?side4 A50.out).mono ?_); (case side1 => repeat (first | exact (Kd.R_reads' HO_12.out).2.2 | (with_reducible refine Kd.C_alloc ?_ _) | (with_reducible refine Kd.C_drewN ?_ _) | (with_reducible refine Kd.C_drew ?_))); (case side2 => exact (Kd.R_reads' HO_12.out).2.1); (case side3 => repeat (first | exact (Kd.R_reads' HO_8.out).2.2 | (with_reducible refine Kd.C_alloc ?_ _) | (with_reducible refine Kd.C_drewN ?_ _) | (with_reducible refine Kd.C_drew ?_))); (case side4 => exact (Kd.R_reads' HO_8.out).2.1); rintro e w' ⟨rfl, ⟨nd, rfl⟩⟩))
                      go_meet
                      case rel => exact ⟨_, (true), (by first | rfl | (simp; done) | (simp [*]; done)), H', ⟨by have := HJ13.out; first | omega | exact Nat.le_refl _⟩, ⟨by (with_reducible repeat (first | apply Kd.R_alloc | apply Kd.R_drewN | apply Kd.R_drew)); exact HO_8.out⟩, ⟨by (with_reducible repeat (first | apply Kd.R_alloc | apply Kd.R_drewN | apply Kd.R_drew)); exact HO_12.out⟩, ⟨(upB HB.out)⟩⟩
                case rest =>
                  clear HC40
                  try clear c1
                  try clear c5
                  try clear c5b0
                  try clear c7
                  try clear c7b0
                  try clear c26
                  try clear c31
                  try clear c34
                  try clear c37
                  try clear c49
                  try clear c49b0
                  try clear c51
                  obtain ⟨kq, x86_39, rfl, HA, HJ39, HO_8, HO_12, HB⟩ := hcut
                  cases kq with
                  | zero => exact absurd HA.out (by simp [laws_FnExactEditsOn.j1])
                  | succ kj39 =>
                    have H := HA.out
                    clear HA
                    simp only [laws_FnExactEditsOn.j1] at H
                    by_cases c56 : x86_39 = true
                    · subst c56
                      have H1 : (some false) = some r := by rw [if_pos rfl] at H; exact H
                      clear H
                      have H := H1
                      clear H1
                      exact absurd (Option.some.inj H) (by rw [hT]; decide)
                    · replace c56 := Bool.eq_false_iff.mpr c56
                      subst c56
                      have H1 : ((laws_markIntS.f kj39 t352 1).bind fun bt370 => ((laws_heldIntS.f kj39 bt370.2 1).bind fun t372 => (if t372 < 0 then (some false) else (if t372 = bt370.1 then ((laws_toLegS.f kj39 l0).bind fun t373 => ((laws_toEditS.f kj39 l1).bind fun t376 => ((impl_EditsOn.f kj39 t373 t376 a2).bind fun bt379 => ((laws_eqIntS.f kj39 bt379.1 t342).bind fun t383 => (if t383 = true then (laws_FnExactEditsOn.j2 kj39 bt370.2 bt370.1 (bt379.2 != t343)) else (laws_FnExactEditsOn.j2 kj39 bt370.2 bt370.1 true)))))) else (some false))))) = some r := by rw [if_neg (show ¬ (false = true) by decide)] at H; exact H
                      clear H
                      have H := H1
                      clear H1
                      replace H := Option.bind_eq_some_iff.mp H
                      obtain ⟨⟨t370, t371⟩, A570, H⟩ := H
                      replace H : ((laws_heldIntS.f kj39 t371 1).bind fun t372 => (if t372 < 0 then (some false) else (if t372 = t370 then ((laws_toLegS.f kj39 l0).bind fun t373 => ((laws_toEditS.f kj39 l1).bind fun t376 => ((impl_EditsOn.f kj39 t373 t376 a2).bind fun bt379 => ((laws_eqIntS.f kj39 bt379.1 t342).bind fun t383 => (if t383 = true then (laws_FnExactEditsOn.j2 kj39 t371 t370 (bt379.2 != t343)) else (laws_FnExactEditsOn.j2 kj39 t371 t370 true)))))) else (some false)))) = some r := H
                      have A57 := Aside0.mk A570
                      clear A570
                      replace H := Option.bind_eq_some_iff.mp H
                      obtain ⟨t372, A580, H⟩ := H
                      replace H : (if t372 < 0 then (some false) else (if t372 = t370 then ((laws_toLegS.f kj39 l0).bind fun t373 => ((laws_toEditS.f kj39 l1).bind fun t376 => ((impl_EditsOn.f kj39 t373 t376 a2).bind fun bt379 => ((laws_eqIntS.f kj39 bt379.1 t342).bind fun t383 => (if t383 = true then (laws_FnExactEditsOn.j2 kj39 t371 t370 (bt379.2 != t343)) else (laws_FnExactEditsOn.j2 kj39 t371 t370 true)))))) else (some false))) = some r := H
                      have A58 := Aside0.mk A580
                      clear A580
                      by_cases c59 : t372 < 0
                      · rw [if_pos c59] at H
                        have c59b0 : decide (t372 < 0) = true := decide_eq_true c59
                        clear c59
                        exact absurd (Option.some.inj H) (by rw [hT]; decide)
                      · rw [if_neg c59] at H
                        have c59b0 : decide (t372 < 0) = false := decide_eq_false c59
                        clear c59
                        by_cases c62 : t372 = t370
                        · rw [if_pos c62] at H
                          have c62b0 : (t372 == t370) = true := beq_iff_eq.mpr c62
                          have c62b1 : (t372 != t370) = false := bne_eq_false_iff_eq.mpr c62
                          clear c62
                          replace H := Option.bind_eq_some_iff.mp H
                          obtain ⟨t373, A630, H⟩ := H
                          replace H : ((laws_toEditS.f kj39 l1).bind fun t376 => ((impl_EditsOn.f kj39 t373 t376 a2).bind fun bt379 => ((laws_eqIntS.f kj39 bt379.1 t342).bind fun t383 => (if t383 = true then (laws_FnExactEditsOn.j2 kj39 t371 t370 (bt379.2 != t343)) else (laws_FnExactEditsOn.j2 kj39 t371 t370 true))))) = some r := H
                          have A63 := Aside0.mk A630
                          clear A630
                          replace H := Option.bind_eq_some_iff.mp H
                          obtain ⟨t376, A640, H⟩ := H
                          replace H : ((impl_EditsOn.f kj39 t373 t376 a2).bind fun bt379 => ((laws_eqIntS.f kj39 bt379.1 t342).bind fun t383 => (if t383 = true then (laws_FnExactEditsOn.j2 kj39 t371 t370 (bt379.2 != t343)) else (laws_FnExactEditsOn.j2 kj39 t371 t370 true)))) = some r := H
                          have A64 := Aside0.mk A640
                          clear A640
                          replace H := Option.bind_eq_some_iff.mp H
                          obtain ⟨⟨t379, t380⟩, A650, H⟩ := H
                          replace H : ((laws_eqIntS.f kj39 t379 t342).bind fun t383 => (if t383 = true then (laws_FnExactEditsOn.j2 kj39 t371 t370 (t380 != t343)) else (laws_FnExactEditsOn.j2 kj39 t371 t370 true))) = some r := H
                          have A65 := Aside0.mk A650
                          clear A650
                          have HC66 := Aside0.mk H
                          clear H
                          obtain ⟨Ao67, co67, eo67⟩ := Kd.R_slice HO_12.out
                          subst eo67
                          go_upto_region 32 with (first | ((with_reducible refine gate_callee (f := 38) rfl ?_); refine goesL_ (some 89) rfl rfl Try.func38 (by kernel_rfl) rfl #[.slice Ao67 t352.length co67, .int .i64 1] rfl argsB ?_; (with_reducible refine (laws_markIntS.calls kj39 (fun k_ => some k_ = (.slice Ao67 t352.length co67 : Value).ownBlock) (.slice Ao67 t352.length co67) t352 1 t370 t371 w _ ?side1 ?side2 A57.out).mono ?_); (case side1 => repeat (first | (with_reducible first | exact HB.out | apply below_alloc | apply pw_below_drewN | apply below_drew1) | exact HB.out)); (case side2 => exact Kd.R_tight rfl HO_12.out); rintro e w68 ⟨rfl, hy0, hb, hkp⟩; refine ⟨_, rfl, ?_⟩; have n0_ := Aside0.mk (Kd.R_mono (ok' := fun k_ => some k_ ≠ (.slice Ao67 t352.length co67 : Value).ownBlock) (Kd.R_keptB (HO_8.out) hkp (fun k_ hk_ hs_ => (hk_) hs_)) (fun k_ hk_ => hk_.1)); have n1_ := Aside0.mk (Kd.R_reok rfl hy0 (fun k_ e_ => HO_12.out.1 k_ e_)); have n2_ := Aside0.mk (hb); clear HO_8; clear HO_12; clear HB; have HO_8 := n0_; have HO_12 := n1_; have HB := n2_; clear n0_ n1_ n2_; (try clear hb); (try clear hkp); (try clear hy0)) | ((with_reducible refine gate_callee (f := 39) rfl ?_); refine goesL_ (some 92) rfl rfl Try.func39 (by kernel_rfl) rfl #[.slice Ao67 t371.length co67, .int .i64 1] rfl (by (try simp only [List.map_toArray, List.map_cons, List.map_nil]); first | done | (rw [show t371.length = t352.length from (Kd.R_reads' HO_12.out).1.symm] <;> rfl) | rfl | (simp only [List.length_drop, List.length_take]; rfl)) ?_; (with_reducible refine (laws_heldIntS.calls kj39 _ _ t371 1 t372 _ ?side1 ?side2 A58.out).mono ?_); (case side1 => repeat (first | exact (Kd.R_reads' HO_12.out).2.2 | (with_reducible refine Kd.C_alloc ?_ _) | (with_reducible refine Kd.C_drewN ?_ _) | (with_reducible refine Kd.C_drew ?_))); (case side2 => rw [show t371.length = t352.length from (Kd.R_reads' HO_12.out).1.symm]; exact (Kd.R_reads' HO_12.out).2.1); rintro e w' ⟨rfl, ⟨nd, rfl⟩⟩; refine ⟨_, rfl, ?_⟩) | ((with_reducible refine gate_callee (f := 19) rfl ?_); refine goesL_ (some 100) rfl rfl Try.func19 (by kernel_rfl) rfl #[.slice A0 l0.length c0] rfl argsB ?_; (with_reducible refine (laws_toLegS.calls kj39 _ _ l0 t373 _ ?side1 ?side2 A63.out).mono ?_); (case side1 => repeat (first | exact (Kd.C_below HR0.out (upB HB.out)) | (with_reducible refine Kd.C_alloc ?_ _) | (with_reducible refine Kd.C_drewN ?_ _) | (with_reducible refine Kd.C_drew ?_))); (case side2 => exact HC0.out); rintro e w69 ⟨v374, rfl, ho0, hb⟩; refine ⟨_, rfl, ?_⟩; have n0_ := Aside0.mk (Kd.R_below (upR HO_8.out) hb); have n1_ := Aside0.mk (Kd.R_below (upR HO_12.out) hb); have n2_ := Aside0.mk (Kd.R_lower ho0 (below_size (upB HB.out))); have n3_ := Aside0.mk (below_step (upB HB.out) hb); clear HO_8; clear HO_12; clear HB; have HO_8 := n0_; have HO_12 := n1_; have HO375 := n2_; have HB := n3_; clear n0_ n1_ n2_ n3_; (try clear hb); (try clear hk); (try clear ho0)) | ((with_reducible refine gate_callee (f := 31) rfl ?_); refine goesL_ (some 102) rfl rfl Try.func31 (by kernel_rfl) rfl #[.slice A1 l1.length c1] rfl argsB ?_; (with_reducible refine (laws_toEditS.calls kj39 _ _ l1 t376 _ ?side1 ?side2 A64.out).mono ?_); (case side1 => repeat (first | exact (Kd.C_below HR1.out HB.out) | (with_reducible refine Kd.C_alloc ?_ _) | (with_reducible refine Kd.C_drewN ?_ _) | (with_reducible refine Kd.C_drew ?_))); (case side2 => exact HC1.out); rintro e w70 ⟨v377, rfl, ho0, hb⟩; refine ⟨_, rfl, ?_⟩; have n0_ := Aside0.mk (Kd.R_below (upR HO_8.out) hb); have n1_ := Aside0.mk (Kd.R_below (upR HO_12.out) hb); have n2_ := Aside0.mk (Kd.R_below (upR HO375.out) hb); have n3_ := Aside0.mk (Kd.R_lower ho0 (below_size (upB HB.out))); have n4_ := Aside0.mk (below_step (upB HB.out) hb); clear HO_8; clear HO_12; clear HO375; clear HB; have HO_8 := n0_; have HO_12 := n1_; have HO375 := n2_; have HO378 := n3_; have HB := n4_; clear n0_ n1_ n2_ n3_ n4_; (try clear hb); (try clear hk); (try clear ho0); obtain ⟨Ao71, co71, eo71⟩ := Kd.R_slice HO375.out; subst eo71; obtain ⟨Ao72, co72, eo72⟩ := Kd.R_slice HO378.out; subst eo72) | ((with_reducible refine gate_callee (f := 36) rfl ?_); refine goesL_ (some 104) rfl rfl Try.func36 (by kernel_rfl) rfl #[.slice Ao71 t373.length co71, .slice Ao72 t376.length co72, .int .i64 a2] rfl argsB ?_; (with_reducible refine (impl_EditsOn.calls kj39 _ _ t373 _ _ t376 a2 t379 t380 _ ?side1 ?side2 ?side3 ?side4 A65.out).mono ?_); (case side1 => repeat (first | exact (Kd.R_reads' HO375.out).2.2 | (with_reducible refine Kd.C_alloc ?_ _) | (with_reducible refine Kd.C_drewN ?_ _) | (with_reducible refine Kd.C_drew ?_))); (case side2 => exact (Kd.R_reads' HO375.out).2.1); (case side3 => repeat (first | exact (Kd.R_reads' HO378.out).2.2 | (with_reducible refine Kd.C_alloc ?_ _) | (with_reducible refine Kd.C_drewN ?_ _) | (with_reducible refine Kd.C_drew ?_))); (case side4 => exact (Kd.R_reads' HO378.out).2.1); rintro e w73 ⟨v381, rfl, ho0, hb⟩; refine ⟨_, rfl, ?_⟩; have n0_ := Aside0.mk (Kd.R_elder' (upR HO_8.out) (Kd.R_base ho0) hb); have n1_ := Aside0.mk (Kd.R_elder' (upR HO_12.out) (Kd.R_base ho0) hb); have n2_ := Aside0.mk (Kd.R_below (upR HO375.out) hb); have n3_ := Aside0.mk (Kd.R_below (upR HO378.out) hb); have n4_ := Aside0.mk (Kd.R_lower (Kd.R_new' (Kd.R_new' ho0 (Kd.R_lt (upR HO_8.out))) (Kd.R_lt (upR HO_12.out))) (below_size (upB HB.out))); have n5_ := Aside0.mk (below_step (upB HB.out) hb); clear HO_8; clear HO_12; clear HO375; clear HO378; clear HB; have HO_8 := n0_; have HO_12 := n1_; have HO375 := n2_; have HO378 := n3_; have HO382 := n4_; have HB := n5_; clear n0_ n1_ n2_ n3_ n4_ n5_; (try clear hb); (try clear hk); (try clear ho0)))
                          (try simp only [Act.put, List.setIfInBounds_toArray, List.set_cons_zero, List.set_cons_succ])
                          go_cut [115] (fun v115 wc => ∃ (kq : Nat) (x115_65 : Bool), v115 = .bool x115_65 ∧ Aside0 (laws_FnExactEditsOn.j2 kq t371 t370 x115_65 = some r) ∧ Aside0 (kq ≤ kj39) ∧ Aside0 (Kd.R (Kd.int .i64) 3 wc w.heap.size (fun _ => True) (.slice Ao67 t352.length co67) t371) ∧ Aside0 (Below w.heap.size w wc))
                          case first =>
                            have H := HC66.out
                            clear HC66
                            replace H := Option.bind_eq_some_iff.mp H
                            obtain ⟨t383, A740, H⟩ := H
                            replace H : (if t383 = true then (laws_FnExactEditsOn.j2 kj39 t371 t370 (t380 != t343)) else (laws_FnExactEditsOn.j2 kj39 t371 t370 true)) = some r := H
                            have A74 := Aside0.mk A740
                            clear A740
                            by_cases c75 : t383 = true
                            · subst c75
                              have H1 : (laws_FnExactEditsOn.j2 kj39 t371 t370 (t380 != t343)) = some r := by rw [if_pos rfl] at H; exact H
                              clear H
                              have H := H1
                              clear H1
                              have H' := Aside0.mk H
                              clear H
                              obtain ⟨Ao76, co76, eo76⟩ := Kd.R_slice HO382.out
                              subst eo76
                              obtain ⟨Ao77, co77, eo77⟩ := Kd.R_slice HO_8.out
                              subst eo77
                              go_wp2_with (first | ((with_reducible refine gate_callee (f := 37) rfl ?_); refine goesL_ (some 109) rfl rfl Try.func37 (by kernel_rfl) rfl #[.slice Ao76 t379.length co76, .slice Ao77 t342.length co77] rfl argsB ?_; (with_reducible refine (laws_eqIntS.calls kj39 _ _ t379 _ _ t342 true _ ?side1 ?side2 ?side3 ?side4 A74.out).mono ?_); (case side1 => repeat (first | exact (Kd.R_reads' HO382.out).2.2 | (with_reducible refine Kd.C_alloc ?_ _) | (with_reducible refine Kd.C_drewN ?_ _) | (with_reducible refine Kd.C_drew ?_))); (case side2 => exact (Kd.R_reads' HO382.out).2.1); (case side3 => repeat (first | exact (Kd.R_reads' HO_8.out).2.2 | (with_reducible refine Kd.C_alloc ?_ _) | (with_reducible refine Kd.C_drewN ?_ _) | (with_reducible refine Kd.C_drew ?_))); (case side4 => exact (Kd.R_reads' HO_8.out).2.1); rintro e w' ⟨rfl, ⟨nd, rfl⟩⟩; refine ⟨_, rfl, ?_⟩))
                              go_meet
                              case rel => exact ⟨_, ((t380 != t343)), (by first | rfl | (simp; done) | (simp [*]; done)), H', ⟨by have := HJ13.out; have := HJ39.out; first | omega | exact Nat.le_refl _⟩, ⟨by (with_reducible repeat (first | apply Kd.R_alloc | apply Kd.R_drewN | apply Kd.R_drew)); exact Kd.R_mono HO_12.out (fun _ hk => trivial)⟩, ⟨(upB HB.out)⟩⟩
                            · replace c75 := Bool.eq_false_iff.mpr c75
                              subst c75
                              have H1 : (laws_FnExactEditsOn.j2 kj39 t371 t370 true) = some r := by rw [if_neg (show ¬ (false = true) by decide)] at H; exact H
                              clear H
                              have H := H1
                              clear H1
                              have H' := Aside0.mk H
                              clear H
                              obtain ⟨Ao78, co78, eo78⟩ := Kd.R_slice HO382.out
                              subst eo78
                              obtain ⟨Ao79, co79, eo79⟩ := Kd.R_slice HO_8.out
                              subst eo79
                              go_wp2_with (first | ((with_reducible refine gate_callee (f := 37) rfl ?_); refine goesL_ (some 109) rfl rfl Try.func37 (by kernel_rfl) rfl #[.slice Ao78 t379.length co78, .slice Ao79 t342.length co79] rfl argsB ?_; (with_reducible refine (laws_eqIntS.calls kj39 _ _ t379 _ _ t342 false _ ?side1 ?side2 ?side3 ?side4 A74.out).mono ?_); (case side1 => repeat (first | exact (Kd.R_reads' HO382.out).2.2 | (with_reducible refine Kd.C_alloc ?_ _) | (with_reducible refine Kd.C_drewN ?_ _) | (with_reducible refine Kd.C_drew ?_))); (case side2 => exact (Kd.R_reads' HO382.out).2.1); (case side3 => repeat (first | exact (Kd.R_reads' HO_8.out).2.2 | (with_reducible refine Kd.C_alloc ?_ _) | (with_reducible refine Kd.C_drewN ?_ _) | (with_reducible refine Kd.C_drew ?_))); (case side4 => exact (Kd.R_reads' HO_8.out).2.1); rintro e w' ⟨rfl, ⟨nd, rfl⟩⟩; refine ⟨_, rfl, ?_⟩))
                              go_meet
                              case rel => exact ⟨_, (true), (by first | rfl | (simp; done) | (simp [*]; done)), H', ⟨by have := HJ13.out; have := HJ39.out; first | omega | exact Nat.le_refl _⟩, ⟨by (with_reducible repeat (first | apply Kd.R_alloc | apply Kd.R_drewN | apply Kd.R_drew)); exact Kd.R_mono HO_12.out (fun _ hk => trivial)⟩, ⟨(upB HB.out)⟩⟩
                          case rest =>
                            clear HC66
                            try clear c1
                            try clear c5
                            try clear c5b0
                            try clear c7
                            try clear c7b0
                            try clear c26
                            try clear c31
                            try clear c34
                            try clear c37
                            try clear c49
                            try clear c49b0
                            try clear c51
                            try clear c56
                            try clear c59
                            try clear c59b0
                            try clear c62
                            try clear c62b0
                            try clear c62b1
                            try clear c75
                            obtain ⟨kq, x115_65, rfl, HA, HJ65, HO_12, HB⟩ := hcut
                            have hl12_65 := (Kd.R_reads' HO_12.out).1
                            rw [hl12_65] at HO_12
                            (try simp only [hl12_65])
                            cases kq with
                            | zero => exact absurd HA.out (by simp [laws_FnExactEditsOn.j2])
                            | succ kj65 =>
                              have H := HA.out
                              clear HA
                              simp only [laws_FnExactEditsOn.j2] at H
                              by_cases c80 : x115_65 = true
                              · subst c80
                                have H1 : (some false) = some r := by rw [if_pos rfl] at H; exact H
                                clear H
                                have H := H1
                                clear H1
                                exact absurd (Option.some.inj H) (by rw [hT]; decide)
                              · replace c80 := Bool.eq_false_iff.mpr c80
                                subst c80
                                have H1 : ((laws_heldIntS.f kj65 t371 1).bind fun t384 => (if t384 < 0 then (some false) else (if t384 = t370 then (some true) else (some false)))) = some r := by rw [if_neg (show ¬ (false = true) by decide)] at H; exact H
                                clear H
                                have H := H1
                                clear H1
                                replace H := Option.bind_eq_some_iff.mp H
                                obtain ⟨t384, A810, H⟩ := H
                                replace H : (if t384 < 0 then (some false) else (if t384 = t370 then (some true) else (some false))) = some r := H
                                have A81 := Aside0.mk A810
                                clear A810
                                by_cases c82 : t384 < 0
                                · rw [if_pos c82] at H
                                  have c82b0 : decide (t384 < 0) = true := decide_eq_true c82
                                  clear c82
                                  exact absurd (Option.some.inj H) (by rw [hT]; decide)
                                · rw [if_neg c82] at H
                                  have c82b0 : decide (t384 < 0) = false := decide_eq_false c82
                                  clear c82
                                  by_cases c83 : t384 = t370
                                  · rw [if_pos c83] at H
                                    have c83b0 : (t384 == t370) = true := beq_iff_eq.mpr c83
                                    have c83b1 : (t384 != t370) = false := bne_eq_false_iff_eq.mpr c83
                                    clear c83
                                    obtain rfl := (Option.some.inj H)
                                    go_wp2_with (first | ((with_reducible refine gate_callee (f := 39) rfl ?_); refine goesL_ (some 118) rfl rfl Try.func39 (by kernel_rfl) rfl #[.slice Ao67 t371.length co67, .int .i64 1] rfl argsB ?_; (with_reducible refine (laws_heldIntS.calls kj65 _ _ t371 1 t384 _ ?side1 ?side2 A81.out).mono ?_); (case side1 => repeat (first | exact (Kd.R_reads' HO_12.out).2.2 | (with_reducible refine Kd.C_alloc ?_ _) | (with_reducible refine Kd.C_drewN ?_ _) | (with_reducible refine Kd.C_drew ?_))); (case side2 => exact (Kd.R_reads' HO_12.out).2.1); rintro e w' ⟨rfl, ⟨nd, rfl⟩⟩; refine ⟨_, rfl, ?_⟩))
                                    go_ret
                                    exact ⟨by first | rfl | (simp [errW_none, errW_some] <;> rfl) | (simp [*, errW_none, errW_some] <;> rfl), (upB HB.out)⟩
                                  · rw [if_neg c83] at H
                                    have c83b0 : (t384 == t370) = false := beq_eq_false_iff_ne.mpr c83
                                    have c83b1 : (t384 != t370) = true := bne_iff_ne.mpr c83
                                    obtain rfl := (Option.some.inj H)
                                    go_wp2_with (first | ((with_reducible refine gate_callee (f := 39) rfl ?_); refine goesL_ (some 118) rfl rfl Try.func39 (by kernel_rfl) rfl #[.slice Ao67 t371.length co67, .int .i64 1] rfl argsB ?_; (with_reducible refine (laws_heldIntS.calls kj65 _ _ t371 1 t384 _ ?side1 ?side2 A81.out).mono ?_); (case side1 => repeat (first | exact (Kd.R_reads' HO_12.out).2.2 | (with_reducible refine Kd.C_alloc ?_ _) | (with_reducible refine Kd.C_drewN ?_ _) | (with_reducible refine Kd.C_drew ?_))); (case side2 => exact (Kd.R_reads' HO_12.out).2.1); rintro e w' ⟨rfl, ⟨nd, rfl⟩⟩; refine ⟨_, rfl, ?_⟩))
                                    go_ret
                                    exact ⟨by first | rfl | (simp [errW_none, errW_some] <;> rfl) | (simp [*, errW_none, errW_some] <;> rfl), (upB HB.out)⟩
                        · rw [if_neg c62] at H
                          have c62b0 : (t372 == t370) = false := beq_eq_false_iff_ne.mpr c62
                          have c62b1 : (t372 != t370) = true := bne_iff_ne.mpr c62
                          obtain rfl := (Option.some.inj H)
                          obtain ⟨Ao84, co84, eo84⟩ := Kd.R_slice HO_12.out
                          subst eo84
                          go_wp2_with (first | ((with_reducible refine gate_callee (f := 38) rfl ?_); refine goesL_ (some 89) rfl rfl Try.func38 (by kernel_rfl) rfl #[.slice Ao84 t352.length co84, .int .i64 1] rfl argsB ?_; (with_reducible refine (laws_markIntS.calls kj39 (fun k_ => some k_ = (.slice Ao84 t352.length co84 : Value).ownBlock) (.slice Ao84 t352.length co84) t352 1 t370 t371 w _ ?side1 ?side2 A57.out).mono ?_); (case side1 => repeat (first | (with_reducible first | exact HB.out | apply below_alloc | apply pw_below_drewN | apply below_drew1) | exact HB.out)); (case side2 => exact Kd.R_tight rfl HO_12.out); rintro e w85 ⟨rfl, hy0, hb, hkp⟩; refine ⟨_, rfl, ?_⟩; have n0_ := Aside0.mk (Kd.R_mono (ok' := fun k_ => some k_ ≠ (.slice Ao84 t352.length co84 : Value).ownBlock) (Kd.R_keptB (HO_8.out) hkp (fun k_ hk_ hs_ => (hk_) hs_)) (fun k_ hk_ => hk_.1)); have n1_ := Aside0.mk (Kd.R_reok rfl hy0 (fun k_ e_ => HO_12.out.1 k_ e_)); have n2_ := Aside0.mk (hb); clear HO_8; clear HO_12; clear HB; have HO_8 := n0_; have HO_12 := n1_; have HB := n2_; clear n0_ n1_ n2_; (try clear hb); (try clear hkp); (try clear hy0)) | ((with_reducible refine gate_callee (f := 39) rfl ?_); refine goesL_ (some 92) rfl rfl Try.func39 (by kernel_rfl) rfl #[.slice Ao84 t371.length co84, .int .i64 1] rfl (by (try simp only [List.map_toArray, List.map_cons, List.map_nil]); first | done | (rw [show t371.length = t352.length from (Kd.R_reads' HO_12.out).1.symm] <;> rfl) | rfl | (simp only [List.length_drop, List.length_take]; rfl)) ?_; (with_reducible refine (laws_heldIntS.calls kj39 _ _ t371 1 t372 _ ?side1 ?side2 A58.out).mono ?_); (case side1 => repeat (first | exact (Kd.R_reads' HO_12.out).2.2 | (with_reducible refine Kd.C_alloc ?_ _) | (with_reducible refine Kd.C_drewN ?_ _) | (with_reducible refine Kd.C_drew ?_))); (case side2 => rw [show t371.length = t352.length from (Kd.R_reads' HO_12.out).1.symm]; exact (Kd.R_reads' HO_12.out).2.1); rintro e w' ⟨rfl, ⟨nd, rfl⟩⟩; refine ⟨_, rfl, ?_⟩))
                          go_ret
                          exact ⟨by first | rfl | (simp [errW_none, errW_some] <;> rfl) | (simp [*, errW_none, errW_some] <;> rfl), (upB HB.out)⟩
              · replace c37 := Bool.eq_false_iff.mpr c37
                subst c37
                have H1 : (some false) = some r := by rw [if_neg (show ¬ (false = true) by decide)] at H; exact H
                clear H
                have H := H1
                clear H1
                exact absurd (Option.some.inj H) (by rw [hT]; decide)
            · replace c34 := Bool.eq_false_iff.mpr c34
              subst c34
              have H1 : (some false) = some r := by rw [if_neg (show ¬ (false = true) by decide)] at H; exact H
              clear H
              have H := H1
              clear H1
              exact absurd (Option.some.inj H) (by rw [hT]; decide)

end Go.Proofs.Ytinelmmnajelaaa.QFnExactEditsOn
