/- Contracts of Go functions that FnExactImproveRenaming reaches: the call computes what the plain function says. No condition. -/
import Derived.Test.YtfaojmabalplfaaQFnExactImproveRenamingx0
import Derived.Test.YtfaojmabalplfaaQFnExactImproveRenamingx1
import Derived.Test.YtfaojmabalplfaaQFnExactImproveRenamingx2
import Derived.Test.YtfaojmabalplfaaQFnExactImproveRenamingx6
import Derived.Test.YtfaojmabalplfaaQFnExactImproveRenamingx9
namespace Go.Proofs.Ytfaojmabalplfaa.QFnExactImproveRenaming
open Go.RowKit Go.Proofs.YtfaojmabalplfaaW.PrintWords Go.Proofs.YtfaojmabalplfaaW.PrintLast Go.Proofs.YtfaojmabalplfaaW.PrintMore
attribute [local go_sem] max2_int min2_int max_two min_two max_three min_three max_four min_four   -- for this text's walks alone
set_option linter.unusedVariables false
set_option linter.unusedSimpArgs false

/-! ### laws_FnExactImproveRenaming: function 11 -/
mutual
def laws_FnExactImproveRenaming.j0 : Nat → List (S75) → List (S75) → List Int → List Int → Int → Bool → List (S70) → List (S70) → List Int → List Int → Int → Bool → Bool → Option (Bool)
  | 0, _, _, _, _, _, _, _, _, _, _, _, _, _ => none
  | k + 1, x0, x1, x2, x8, x9, x10, x11, x12, x13, x14, x15, x16, x74 => if x74 = true then (some false) else ((laws_toLegS.f k x0).bind fun t292 => ((laws_eqLegS.f k x11 t292).bind fun t295 => (if t295 = true then ((laws_toLegS.f k x1).bind fun t296 => ((laws_eqLegS.f k x12 t296).bind fun t299 => (if t299 = true then ((laws_toIntS.f k x2).bind fun t300 => ((laws_eqIntS.f k x13 t300).bind fun t303 => (if t303 = true then ((laws_markLegS.f k x11 1).bind fun bt304 => ((laws_markLegS.f k x12 bt304.1).bind fun bt306 => ((laws_markIntS.f k x13 bt306.1).bind fun bt308 => (if bt308.1 < 0 then (laws_FnExactImproveRenaming.j1 k x0 x1 x2 x8 x9 x10 x14 true) else ((laws_eqIntS.f k x14 x8).bind fun t310 => (if t310 = true then (if x15 = x9 then (laws_FnExactImproveRenaming.j1 k x0 x1 x2 x8 x9 x10 x14 (x16 != x10)) else (laws_FnExactImproveRenaming.j1 k x0 x1 x2 x8 x9 x10 x14 true)) else (laws_FnExactImproveRenaming.j1 k x0 x1 x2 x8 x9 x10 x14 true))))))) else (some false)))) else (some false)))) else (some false))))
def laws_FnExactImproveRenaming.j1 : Nat → List (S75) → List (S75) → List Int → List Int → Int → Bool → List Int → Bool → Option (Bool)
  | 0, _, _, _, _, _, _, _, _ => none
  | k + 1, x0, x1, x2, x8, x9, x10, x14, x116 => if x116 = true then (some false) else ((laws_markIntS.f k x14 1).bind fun bt311 => ((laws_heldIntS.f k bt311.2 1).bind fun t313 => (if t313 < 0 then (some false) else (if t313 = bt311.1 then ((laws_toLegS.f k x0).bind fun t314 => ((laws_toLegS.f k x1).bind fun t317 => ((laws_toIntS.f k x2).bind fun t320 => ((impl_ImproveRenaming.f k t314 t317 t320).bind fun bt323 => ((laws_eqIntS.f k bt323.1 x8).bind fun t328 => (if t328 = true then (if bt323.2.1 = x9 then (laws_FnExactImproveRenaming.j2 k bt311.2 bt311.1 (bt323.2.2 != x10)) else (laws_FnExactImproveRenaming.j2 k bt311.2 bt311.1 true)) else (laws_FnExactImproveRenaming.j2 k bt311.2 bt311.1 true))))))) else (some false)))))
def laws_FnExactImproveRenaming.j2 : Nat → List Int → Int → Bool → Option (Bool)
  | 0, _, _, _ => none
  | k + 1, x14, x18, x152 => if x152 = true then (some false) else ((laws_heldIntS.f k x14 1).bind fun t329 => (if t329 < 0 then (some false) else (if t329 = x18 then (some true) else (some false))))
end
def laws_FnExactImproveRenaming.f (k : Nat) (l0 : List (S75)) (l1 : List (S75)) (l2 : List Int) : Option (Bool) := if (l2.length : Int) > 1048576 then (some true) else ((laws_szLegS.f l0 1048576).bind fun t261 => (if t261 < 0 then (some true) else ((laws_szLegS.f l1 t261).bind fun t262 => (if t262 < 0 then (some true) else ((laws_toLegS.f k l0).bind fun t263 => ((laws_toLegS.f k l1).bind fun t266 => ((laws_toIntS.f k l2).bind fun t269 => ((spec_ImproveRenaming.f k t263 t266 t269).bind fun bt272 => ((laws_toLegS.f k l0).bind fun t277 => ((laws_toLegS.f k l1).bind fun t280 => ((laws_toIntS.f k l2).bind fun t283 => ((impl_ImproveRenaming.f k t277 t280 t283).bind fun bt286 => ((laws_eqIntS.f k bt286.1 bt272.1).bind fun t291 => (if t291 = true then (if bt286.2.1 = bt272.2.1 then (laws_FnExactImproveRenaming.j0 k l0 l1 l2 bt272.1 bt272.2.1 bt272.2.2 t277 t280 t283 bt286.1 bt286.2.1 bt286.2.2 (bt286.2.2 != bt272.2.2)) else (laws_FnExactImproveRenaming.j0 k l0 l1 l2 bt272.1 bt272.2.1 bt272.2.2 t277 t280 t283 bt286.1 bt286.2.1 bt286.2.2 true)) else (laws_FnExactImproveRenaming.j0 k l0 l1 l2 bt272.1 bt272.2.1 bt272.2.2 t277 t280 t283 bt286.1 bt286.2.1 bt286.2.2 true)))))))))))))))
theorem laws_FnExactImproveRenaming.mono_l : ∀ k, (∀ y0 y1 y2 y3 y4 y5 y6 y7 y8 y9 y10 y11 y12, LeO (laws_FnExactImproveRenaming.j0 k y0 y1 y2 y3 y4 y5 y6 y7 y8 y9 y10 y11 y12) (laws_FnExactImproveRenaming.j0 (k + 1) y0 y1 y2 y3 y4 y5 y6 y7 y8 y9 y10 y11 y12)) ∧ (∀ y0 y1 y2 y3 y4 y5 y6 y7, LeO (laws_FnExactImproveRenaming.j1 k y0 y1 y2 y3 y4 y5 y6 y7) (laws_FnExactImproveRenaming.j1 (k + 1) y0 y1 y2 y3 y4 y5 y6 y7)) ∧ (∀ y0 y1 y2, LeO (laws_FnExactImproveRenaming.j2 k y0 y1 y2) (laws_FnExactImproveRenaming.j2 (k + 1) y0 y1 y2))
  | 0 => ⟨fun _ _ _ _ _ _ _ _ _ _ _ _ _ r h => by simp [laws_FnExactImproveRenaming.j0] at h, fun _ _ _ _ _ _ _ _ r h => by simp [laws_FnExactImproveRenaming.j1] at h, fun _ _ _ r h => by simp [laws_FnExactImproveRenaming.j2] at h⟩
  | k + 1 => by
    obtain ⟨ih0, ih1, ih2⟩ := laws_FnExactImproveRenaming.mono_l k
    refine ⟨?_, ?_, ?_⟩
    · intro y0 y1 y2 y3 y4 y5 y6 y7 y8 y9 y10 y11 y12
      unfold laws_FnExactImproveRenaming.j0
      repeat' first
      | (with_reducible exact ih0 _ _ _ _ _ _ _ _ _ _ _ _ _)
      | (with_reducible exact ih1 _ _ _ _ _ _ _ _)
      | (with_reducible exact ih2 _ _ _)
      | (with_reducible exact impl_ImproveRenaming.mono _ _ _ _)
      | (with_reducible exact laws_eqIntS.mono _ _ _)
      | (with_reducible exact laws_eqLegS.mono _ _ _)
      | (with_reducible exact laws_heldIntS.mono _ _ _)
      | (with_reducible exact laws_markIntS.mono _ _ _)
      | (with_reducible exact laws_markLegS.mono _ _ _)
      | (with_reducible exact laws_toIntS.mono _ _)
      | (with_reducible exact laws_toLegS.mono _ _)
      | (with_reducible exact spec_ImproveRenaming.mono _ _ _ _)
      | (with_reducible exact LeO.refl _)
      | (with_reducible exact LeO.none _)
      | (with_reducible refine LeO.ite ?_ ?_)
      | (with_reducible refine LeO.bind ?_ (fun _ => ?_))
      | exact ih0 _ _ _ _ _ _ _ _ _ _ _ _ _
      | exact ih1 _ _ _ _ _ _ _ _
      | exact ih2 _ _ _
      | exact impl_ImproveRenaming.mono _ _ _ _
      | exact laws_eqIntS.mono _ _ _
      | exact laws_eqLegS.mono _ _ _
      | exact laws_heldIntS.mono _ _ _
      | exact laws_markIntS.mono _ _ _
      | exact laws_markLegS.mono _ _ _
      | exact laws_toIntS.mono _ _
      | exact laws_toLegS.mono _ _
      | exact spec_ImproveRenaming.mono _ _ _ _
      | exact LeO.none _
      | refine LeO.ite ?_ ?_
      | refine LeO.bind ?_ (fun _ => ?_)
    · intro y0 y1 y2 y3 y4 y5 y6 y7
      unfold laws_FnExactImproveRenaming.j1
      repeat' first
      | (with_reducible exact ih0 _ _ _ _ _ _ _ _ _ _ _ _ _)
      | (with_reducible exact ih1 _ _ _ _ _ _ _ _)
      | (with_reducible exact ih2 _ _ _)
      | (with_reducible exact impl_ImproveRenaming.mono _ _ _ _)
      | (with_reducible exact laws_eqIntS.mono _ _ _)
      | (with_reducible exact laws_eqLegS.mono _ _ _)
      | (with_reducible exact laws_heldIntS.mono _ _ _)
      | (with_reducible exact laws_markIntS.mono _ _ _)
      | (with_reducible exact laws_markLegS.mono _ _ _)
      | (with_reducible exact laws_toIntS.mono _ _)
      | (with_reducible exact laws_toLegS.mono _ _)
      | (with_reducible exact spec_ImproveRenaming.mono _ _ _ _)
      | (with_reducible exact LeO.refl _)
      | (with_reducible exact LeO.none _)
      | (with_reducible refine LeO.ite ?_ ?_)
      | (with_reducible refine LeO.bind ?_ (fun _ => ?_))
      | exact ih0 _ _ _ _ _ _ _ _ _ _ _ _ _
      | exact ih1 _ _ _ _ _ _ _ _
      | exact ih2 _ _ _
      | exact impl_ImproveRenaming.mono _ _ _ _
      | exact laws_eqIntS.mono _ _ _
      | exact laws_eqLegS.mono _ _ _
      | exact laws_heldIntS.mono _ _ _
      | exact laws_markIntS.mono _ _ _
      | exact laws_markLegS.mono _ _ _
      | exact laws_toIntS.mono _ _
      | exact laws_toLegS.mono _ _
      | exact spec_ImproveRenaming.mono _ _ _ _
      | exact LeO.none _
      | refine LeO.ite ?_ ?_
      | refine LeO.bind ?_ (fun _ => ?_)
    · intro y0 y1 y2
      unfold laws_FnExactImproveRenaming.j2
      repeat' first
      | (with_reducible exact ih0 _ _ _ _ _ _ _ _ _ _ _ _ _)
      | (with_reducible exact ih1 _ _ _ _ _ _ _ _)
      | (with_reducible exact ih2 _ _ _)
      | (with_reducible exact impl_ImproveRenaming.mono _ _ _ _)
      | (with_reducible exact laws_eqIntS.mono _ _ _)
      | (with_reducible exact laws_eqLegS.mono _ _ _)
      | (with_reducible exact laws_heldIntS.mono _ _ _)
      | (with_reducible exact laws_markIntS.mono _ _ _)
      | (with_reducible exact laws_markLegS.mono _ _ _)
      | (with_reducible exact laws_toIntS.mono _ _)
      | (with_reducible exact laws_toLegS.mono _ _)
      | (with_reducible exact spec_ImproveRenaming.mono _ _ _ _)
      | (with_reducible exact LeO.refl _)
      | (with_reducible exact LeO.none _)
      | (with_reducible refine LeO.ite ?_ ?_)
      | (with_reducible refine LeO.bind ?_ (fun _ => ?_))
      | exact ih0 _ _ _ _ _ _ _ _ _ _ _ _ _
      | exact ih1 _ _ _ _ _ _ _ _
      | exact ih2 _ _ _
      | exact impl_ImproveRenaming.mono _ _ _ _
      | exact laws_eqIntS.mono _ _ _
      | exact laws_eqLegS.mono _ _ _
      | exact laws_heldIntS.mono _ _ _
      | exact laws_markIntS.mono _ _ _
      | exact laws_markLegS.mono _ _ _
      | exact laws_toIntS.mono _ _
      | exact laws_toLegS.mono _ _
      | exact spec_ImproveRenaming.mono _ _ _ _
      | exact LeO.none _
      | refine LeO.ite ?_ ?_
      | refine LeO.bind ?_ (fun _ => ?_)
theorem laws_FnExactImproveRenaming.mono : ∀ a0 a1 a2 k, LeO (laws_FnExactImproveRenaming.f k a0 a1 a2) (laws_FnExactImproveRenaming.f (k + 1) a0 a1 a2) := by
  intro a0 a1 a2 k
  obtain ⟨ih0, ih1, ih2⟩ := laws_FnExactImproveRenaming.mono_l k
  unfold laws_FnExactImproveRenaming.f
  repeat' first
      | (with_reducible exact ih0 _ _ _ _ _ _ _ _ _ _ _ _ _)
      | (with_reducible exact ih1 _ _ _ _ _ _ _ _)
      | (with_reducible exact ih2 _ _ _)
      | (with_reducible exact impl_ImproveRenaming.mono _ _ _ _)
      | (with_reducible exact laws_eqIntS.mono _ _ _)
      | (with_reducible exact laws_eqLegS.mono _ _ _)
      | (with_reducible exact laws_heldIntS.mono _ _ _)
      | (with_reducible exact laws_markIntS.mono _ _ _)
      | (with_reducible exact laws_markLegS.mono _ _ _)
      | (with_reducible exact laws_toIntS.mono _ _)
      | (with_reducible exact laws_toLegS.mono _ _)
      | (with_reducible exact spec_ImproveRenaming.mono _ _ _ _)
      | (with_reducible exact LeO.refl _)
      | (with_reducible exact LeO.none _)
      | (with_reducible refine LeO.ite ?_ ?_)
      | (with_reducible refine LeO.bind ?_ (fun _ => ?_))
      | exact ih0 _ _ _ _ _ _ _ _ _ _ _ _ _
      | exact ih1 _ _ _ _ _ _ _ _
      | exact ih2 _ _ _
      | exact impl_ImproveRenaming.mono _ _ _ _
      | exact laws_eqIntS.mono _ _ _
      | exact laws_eqLegS.mono _ _ _
      | exact laws_heldIntS.mono _ _ _
      | exact laws_markIntS.mono _ _ _
      | exact laws_markLegS.mono _ _ _
      | exact laws_toIntS.mono _ _
      | exact laws_toLegS.mono _ _
      | exact spec_ImproveRenaming.mono _ _ _ _
      | exact LeO.none _
      | refine LeO.ite ?_ ?_
      | refine LeO.bind ?_ (fun _ => ?_)
set_option maxHeartbeats 8000000 in
set_option maxRecDepth 100000 in
theorem laws_FnExactImproveRenaming.calls (k : Nat) (A0 : Option Addr) (c0 : Nat) (l0 : List (S75)) (A1 : Option Addr) (c1 : Nat) (l1 : List (S75)) (A2 : Option Addr) (c2 : Nat) (l2 : List Int) (r : Bool) (w : World) (hr0 : Kd.C k75 w A0 l0.length l0) (hc0 : l0.length ≤ c0) (hr1 : Kd.C k75 w A1 l1.length l1) (hc1 : l1.length ≤ c1) (hr2 : Kd.C (Kd.int .i64) w A2 l2.length l2) (hc2 : l2.length ≤ c2) (h : laws_FnExactImproveRenaming.f k l0 l1 l2 = some r) (hT : r = true) :
    Calls Try.prog 11 #[.slice A0 l0.length c0, .slice A1 l1.length c1, .slice A2 l2.length c2] w fun e w' => e = .returned (.bool r) ∧ Below w.heap.size w w' := by
  have HR0 := Aside0.mk hr0
  have HC0 := Aside0.mk hc0
  clear hr0 hc0
  have HR1 := Aside0.mk hr1
  have HC1 := Aside0.mk hc1
  clear hr1 hc1
  have HR2 := Aside0.mk hr2
  have HC2 := Aside0.mk hc2
  clear hr2 hc2
  have HB := Aside0.mk (Below.refl w.heap.size w)
  have H : (if (l2.length : Int) > 1048576 then (some true) else ((laws_szLegS.f l0 1048576).bind fun t261 => (if t261 < 0 then (some true) else ((laws_szLegS.f l1 t261).bind fun t262 => (if t262 < 0 then (some true) else ((laws_toLegS.f k l0).bind fun t263 => ((laws_toLegS.f k l1).bind fun t266 => ((laws_toIntS.f k l2).bind fun t269 => ((spec_ImproveRenaming.f k t263 t266 t269).bind fun bt272 => ((laws_toLegS.f k l0).bind fun t277 => ((laws_toLegS.f k l1).bind fun t280 => ((laws_toIntS.f k l2).bind fun t283 => ((impl_ImproveRenaming.f k t277 t280 t283).bind fun bt286 => ((laws_eqIntS.f k bt286.1 bt272.1).bind fun t291 => (if t291 = true then (if bt286.2.1 = bt272.2.1 then (laws_FnExactImproveRenaming.j0 k l0 l1 l2 bt272.1 bt272.2.1 bt272.2.2 t277 t280 t283 bt286.1 bt286.2.1 bt286.2.2 (bt286.2.2 != bt272.2.2)) else (laws_FnExactImproveRenaming.j0 k l0 l1 l2 bt272.1 bt272.2.1 bt272.2.2 t277 t280 t283 bt286.1 bt286.2.1 bt286.2.2 true)) else (laws_FnExactImproveRenaming.j0 k l0 l1 l2 bt272.1 bt272.2.1 bt272.2.2 t277 t280 t283 bt286.1 bt286.2.1 bt286.2.2 true)))))))))))))))) = some r := h
  clear h
  by_cases c4 : (l2.length : Int) > 1048576
  · rw [if_pos c4] at H
    have c4b0 : decide (1048576 < (l2.length : Int)) = true := decide_eq_true c4
    have c4b1 : decide (1048576 < l2.length) = true := decide_eq_true (by omega)
    clear c4
    obtain rfl := (Option.some.inj H)
    go_enter Try.func11, Try.ntmps11
    go_wp2
    go_ret
    exact ⟨by first | rfl | (simp [errW_none, errW_some] <;> rfl) | (simp [*, errW_none, errW_some] <;> rfl), by repeat (first | (with_reducible first | exact HB.out | apply below_alloc | apply pw_below_drewN | apply below_drew1) | exact HB.out)⟩
  · rw [if_neg c4] at H
    have c4b0 : decide (1048576 < (l2.length : Int)) = false := decide_eq_false c4
    have c4b1 : decide (1048576 < l2.length) = false := decide_eq_false (by omega)
    clear c4
    replace H := Option.bind_eq_some_iff.mp H
    obtain ⟨t261, A50, H⟩ := H
    replace H : (if t261 < 0 then (some true) else ((laws_szLegS.f l1 t261).bind fun t262 => (if t262 < 0 then (some true) else ((laws_toLegS.f k l0).bind fun t263 => ((laws_toLegS.f k l1).bind fun t266 => ((laws_toIntS.f k l2).bind fun t269 => ((spec_ImproveRenaming.f k t263 t266 t269).bind fun bt272 => ((laws_toLegS.f k l0).bind fun t277 => ((laws_toLegS.f k l1).bind fun t280 => ((laws_toIntS.f k l2).bind fun t283 => ((impl_ImproveRenaming.f k t277 t280 t283).bind fun bt286 => ((laws_eqIntS.f k bt286.1 bt272.1).bind fun t291 => (if t291 = true then (if bt286.2.1 = bt272.2.1 then (laws_FnExactImproveRenaming.j0 k l0 l1 l2 bt272.1 bt272.2.1 bt272.2.2 t277 t280 t283 bt286.1 bt286.2.1 bt286.2.2 (bt286.2.2 != bt272.2.2)) else (laws_FnExactImproveRenaming.j0 k l0 l1 l2 bt272.1 bt272.2.1 bt272.2.2 t277 t280 t283 bt286.1 bt286.2.1 bt286.2.2 true)) else (laws_FnExactImproveRenaming.j0 k l0 l1 l2 bt272.1 bt272.2.1 bt272.2.2 t277 t280 t283 bt286.1 bt286.2.1 bt286.2.2 true)))))))))))))) = some r := H
    have A5 := Aside0.mk A50
    clear A50
    by_cases c6 : t261 < 0
    · rw [if_pos c6] at H
      have c6b0 : decide (t261 < 0) = true := decide_eq_true c6
      clear c6
      obtain rfl := (Option.some.inj H)
      go_enter Try.func11, Try.ntmps11
      go_wp2_with (first | ((with_reducible refine gate_callee (f := 24) rfl ?_); refine goesL_ (some 28) rfl rfl Try.func24 (by kernel_rfl) rfl #[.slice A0 l0.length c0, .int .i64 1048576] rfl (by (try simp only [List.map_toArray, List.map_cons, List.map_nil]); first | done | rfl | (simp only [List.length_drop, List.length_take]; rfl)) ?_; (with_reducible refine (laws_szLegS.calls _ _ l0 1048576 t261 _ ?side1 ?side2 A5.out).mono ?_); (case side1 => repeat (first | exact HR0.out | (with_reducible refine Kd.C_alloc ?_ _) | (with_reducible refine Kd.C_drewN ?_ _) | (with_reducible refine Kd.C_drew ?_))); (case side2 => exact HC0.out); rintro e w' ⟨rfl, ⟨nd, rfl⟩⟩; refine ⟨_, rfl, ?_⟩))
      go_ret
      exact ⟨by first | rfl | (simp [errW_none, errW_some] <;> rfl) | (simp [*, errW_none, errW_some] <;> rfl), by repeat (first | (with_reducible first | exact HB.out | apply below_alloc | apply pw_below_drewN | apply below_drew1) | exact HB.out)⟩
    · rw [if_neg c6] at H
      have c6b0 : decide (t261 < 0) = false := decide_eq_false c6
      clear c6
      replace H := Option.bind_eq_some_iff.mp H
      obtain ⟨t262, A70, H⟩ := H
      replace H : (if t262 < 0 then (some true) else ((laws_toLegS.f k l0).bind fun t263 => ((laws_toLegS.f k l1).bind fun t266 => ((laws_toIntS.f k l2).bind fun t269 => ((spec_ImproveRenaming.f k t263 t266 t269).bind fun bt272 => ((laws_toLegS.f k l0).bind fun t277 => ((laws_toLegS.f k l1).bind fun t280 => ((laws_toIntS.f k l2).bind fun t283 => ((impl_ImproveRenaming.f k t277 t280 t283).bind fun bt286 => ((laws_eqIntS.f k bt286.1 bt272.1).bind fun t291 => (if t291 = true then (if bt286.2.1 = bt272.2.1 then (laws_FnExactImproveRenaming.j0 k l0 l1 l2 bt272.1 bt272.2.1 bt272.2.2 t277 t280 t283 bt286.1 bt286.2.1 bt286.2.2 (bt286.2.2 != bt272.2.2)) else (laws_FnExactImproveRenaming.j0 k l0 l1 l2 bt272.1 bt272.2.1 bt272.2.2 t277 t280 t283 bt286.1 bt286.2.1 bt286.2.2 true)) else (laws_FnExactImproveRenaming.j0 k l0 l1 l2 bt272.1 bt272.2.1 bt272.2.2 t277 t280 t283 bt286.1 bt286.2.1 bt286.2.2 true)))))))))))) = some r := H
      have A7 := Aside0.mk A70
      clear A70
      by_cases c8 : t262 < 0
      · rw [if_pos c8] at H
        have c8b0 : decide (t262 < 0) = true := decide_eq_true c8
        clear c8
        obtain rfl := (Option.some.inj H)
        go_enter Try.func11, Try.ntmps11
        go_wp2_with (first | ((with_reducible refine gate_callee (f := 24) rfl ?_); refine goesL_ (some 28) rfl rfl Try.func24 (by kernel_rfl) rfl #[.slice A0 l0.length c0, .int .i64 1048576] rfl (by (try simp only [List.map_toArray, List.map_cons, List.map_nil]); first | done | rfl | (simp only [List.length_drop, List.length_take]; rfl)) ?_; (with_reducible refine (laws_szLegS.calls _ _ l0 1048576 t261 _ ?side1 ?side2 A5.out).mono ?_); (case side1 => repeat (first | exact HR0.out | (with_reducible refine Kd.C_alloc ?_ _) | (with_reducible refine Kd.C_drewN ?_ _) | (with_reducible refine Kd.C_drew ?_))); (case side2 => exact HC0.out); rintro e w' ⟨rfl, ⟨nd, rfl⟩⟩; refine ⟨_, rfl, ?_⟩) | ((with_reducible refine gate_callee (f := 24) rfl ?_); refine goesL_ (some 33) rfl rfl Try.func24 (by kernel_rfl) rfl #[.slice A1 l1.length c1, .int .i64 t261] rfl (by (try simp only [List.map_toArray, List.map_cons, List.map_nil]); first | done | rfl | (simp only [List.length_drop, List.length_take]; rfl)) ?_; (with_reducible refine (laws_szLegS.calls _ _ l1 t261 t262 _ ?side1 ?side2 A7.out).mono ?_); (case side1 => repeat (first | exact HR1.out | (with_reducible refine Kd.C_alloc ?_ _) | (with_reducible refine Kd.C_drewN ?_ _) | (with_reducible refine Kd.C_drew ?_))); (case side2 => exact HC1.out); rintro e w' ⟨rfl, ⟨nd, rfl⟩⟩; refine ⟨_, rfl, ?_⟩))
        go_ret
        exact ⟨by first | rfl | (simp [errW_none, errW_some] <;> rfl) | (simp [*, errW_none, errW_some] <;> rfl), by repeat (first | (with_reducible first | exact HB.out | apply below_alloc | apply pw_below_drewN | apply below_drew1) | exact HB.out)⟩
      · rw [if_neg c8] at H
        have c8b0 : decide (t262 < 0) = false := decide_eq_false c8
        clear c8
        replace H := Option.bind_eq_some_iff.mp H
        obtain ⟨t263, A90, H⟩ := H
        replace H : ((laws_toLegS.f k l1).bind fun t266 => ((laws_toIntS.f k l2).bind fun t269 => ((spec_ImproveRenaming.f k t263 t266 t269).bind fun bt272 => ((laws_toLegS.f k l0).bind fun t277 => ((laws_toLegS.f k l1).bind fun t280 => ((laws_toIntS.f k l2).bind fun t283 => ((impl_ImproveRenaming.f k t277 t280 t283).bind fun bt286 => ((laws_eqIntS.f k bt286.1 bt272.1).bind fun t291 => (if t291 = true then (if bt286.2.1 = bt272.2.1 then (laws_FnExactImproveRenaming.j0 k l0 l1 l2 bt272.1 bt272.2.1 bt272.2.2 t277 t280 t283 bt286.1 bt286.2.1 bt286.2.2 (bt286.2.2 != bt272.2.2)) else (laws_FnExactImproveRenaming.j0 k l0 l1 l2 bt272.1 bt272.2.1 bt272.2.2 t277 t280 t283 bt286.1 bt286.2.1 bt286.2.2 true)) else (laws_FnExactImproveRenaming.j0 k l0 l1 l2 bt272.1 bt272.2.1 bt272.2.2 t277 t280 t283 bt286.1 bt286.2.1 bt286.2.2 true)))))))))) = some r := H
        have A9 := Aside0.mk A90
        clear A90
        replace H := Option.bind_eq_some_iff.mp H
        obtain ⟨t266, A100, H⟩ := H
        replace H : ((laws_toIntS.f k l2).bind fun t269 => ((spec_ImproveRenaming.f k t263 t266 t269).bind fun bt272 => ((laws_toLegS.f k l0).bind fun t277 => ((laws_toLegS.f k l1).bind fun t280 => ((laws_toIntS.f k l2).bind fun t283 => ((impl_ImproveRenaming.f k t277 t280 t283).bind fun bt286 => ((laws_eqIntS.f k bt286.1 bt272.1).bind fun t291 => (if t291 = true then (if bt286.2.1 = bt272.2.1 then (laws_FnExactImproveRenaming.j0 k l0 l1 l2 bt272.1 bt272.2.1 bt272.2.2 t277 t280 t283 bt286.1 bt286.2.1 bt286.2.2 (bt286.2.2 != bt272.2.2)) else (laws_FnExactImproveRenaming.j0 k l0 l1 l2 bt272.1 bt272.2.1 bt272.2.2 t277 t280 t283 bt286.1 bt286.2.1 bt286.2.2 true)) else (laws_FnExactImproveRenaming.j0 k l0 l1 l2 bt272.1 bt272.2.1 bt272.2.2 t277 t280 t283 bt286.1 bt286.2.1 bt286.2.2 true))))))))) = some r := H
        have A10 := Aside0.mk A100
        clear A100
        replace H := Option.bind_eq_some_iff.mp H
        obtain ⟨t269, A110, H⟩ := H
        replace H : ((spec_ImproveRenaming.f k t263 t266 t269).bind fun bt272 => ((laws_toLegS.f k l0).bind fun t277 => ((laws_toLegS.f k l1).bind fun t280 => ((laws_toIntS.f k l2).bind fun t283 => ((impl_ImproveRenaming.f k t277 t280 t283).bind fun bt286 => ((laws_eqIntS.f k bt286.1 bt272.1).bind fun t291 => (if t291 = true then (if bt286.2.1 = bt272.2.1 then (laws_FnExactImproveRenaming.j0 k l0 l1 l2 bt272.1 bt272.2.1 bt272.2.2 t277 t280 t283 bt286.1 bt286.2.1 bt286.2.2 (bt286.2.2 != bt272.2.2)) else (laws_FnExactImproveRenaming.j0 k l0 l1 l2 bt272.1 bt272.2.1 bt272.2.2 t277 t280 t283 bt286.1 bt286.2.1 bt286.2.2 true)) else (laws_FnExactImproveRenaming.j0 k l0 l1 l2 bt272.1 bt272.2.1 bt272.2.2 t277 t280 t283 bt286.1 bt286.2.1 bt286.2.2 true)))))))) = some r := H
        have A11 := Aside0.mk A110
        clear A110
        replace H := Option.bind_eq_some_iff.mp H
        obtain ⟨⟨t272, t273, t274⟩, A120, H⟩ := H
        replace H : ((laws_toLegS.f k l0).bind fun t277 => ((laws_toLegS.f k l1).bind fun t280 => ((laws_toIntS.f k l2).bind fun t283 => ((impl_ImproveRenaming.f k t277 t280 t283).bind fun bt286 => ((laws_eqIntS.f k bt286.1 t272).bind fun t291 => (if t291 = true then (if bt286.2.1 = t273 then (laws_FnExactImproveRenaming.j0 k l0 l1 l2 t272 t273 t274 t277 t280 t283 bt286.1 bt286.2.1 bt286.2.2 (bt286.2.2 != t274)) else (laws_FnExactImproveRenaming.j0 k l0 l1 l2 t272 t273 t274 t277 t280 t283 bt286.1 bt286.2.1 bt286.2.2 true)) else (laws_FnExactImproveRenaming.j0 k l0 l1 l2 t272 t273 t274 t277 t280 t283 bt286.1 bt286.2.1 bt286.2.2 true))))))) = some r := H
        have A12 := Aside0.mk A120
        clear A120
        replace H := Option.bind_eq_some_iff.mp H
        obtain ⟨t277, A130, H⟩ := H
        replace H : ((laws_toLegS.f k l1).bind fun t280 => ((laws_toIntS.f k l2).bind fun t283 => ((impl_ImproveRenaming.f k t277 t280 t283).bind fun bt286 => ((laws_eqIntS.f k bt286.1 t272).bind fun t291 => (if t291 = true then (if bt286.2.1 = t273 then (laws_FnExactImproveRenaming.j0 k l0 l1 l2 t272 t273 t274 t277 t280 t283 bt286.1 bt286.2.1 bt286.2.2 (bt286.2.2 != t274)) else (laws_FnExactImproveRenaming.j0 k l0 l1 l2 t272 t273 t274 t277 t280 t283 bt286.1 bt286.2.1 bt286.2.2 true)) else (laws_FnExactImproveRenaming.j0 k l0 l1 l2 t272 t273 t274 t277 t280 t283 bt286.1 bt286.2.1 bt286.2.2 true)))))) = some r := H
        have A13 := Aside0.mk A130
        clear A130
        replace H := Option.bind_eq_some_iff.mp H
        obtain ⟨t280, A140, H⟩ := H
        replace H : ((laws_toIntS.f k l2).bind fun t283 => ((impl_ImproveRenaming.f k t277 t280 t283).bind fun bt286 => ((laws_eqIntS.f k bt286.1 t272).bind fun t291 => (if t291 = true then (if bt286.2.1 = t273 then (laws_FnExactImproveRenaming.j0 k l0 l1 l2 t272 t273 t274 t277 t280 t283 bt286.1 bt286.2.1 bt286.2.2 (bt286.2.2 != t274)) else (laws_FnExactImproveRenaming.j0 k l0 l1 l2 t272 t273 t274 t277 t280 t283 bt286.1 bt286.2.1 bt286.2.2 true)) else (laws_FnExactImproveRenaming.j0 k l0 l1 l2 t272 t273 t274 t277 t280 t283 bt286.1 bt286.2.1 bt286.2.2 true))))) = some r := H
        have A14 := Aside0.mk A140
        clear A140
        replace H := Option.bind_eq_some_iff.mp H
        obtain ⟨t283, A150, H⟩ := H
        replace H : ((impl_ImproveRenaming.f k t277 t280 t283).bind fun bt286 => ((laws_eqIntS.f k bt286.1 t272).bind fun t291 => (if t291 = true then (if bt286.2.1 = t273 then (laws_FnExactImproveRenaming.j0 k l0 l1 l2 t272 t273 t274 t277 t280 t283 bt286.1 bt286.2.1 bt286.2.2 (bt286.2.2 != t274)) else (laws_FnExactImproveRenaming.j0 k l0 l1 l2 t272 t273 t274 t277 t280 t283 bt286.1 bt286.2.1 bt286.2.2 true)) else (laws_FnExactImproveRenaming.j0 k l0 l1 l2 t272 t273 t274 t277 t280 t283 bt286.1 bt286.2.1 bt286.2.2 true)))) = some r := H
        have A15 := Aside0.mk A150
        clear A150
        replace H := Option.bind_eq_some_iff.mp H
        obtain ⟨⟨t286, t287, t288⟩, A160, H⟩ := H
        replace H : ((laws_eqIntS.f k t286 t272).bind fun t291 => (if t291 = true then (if t287 = t273 then (laws_FnExactImproveRenaming.j0 k l0 l1 l2 t272 t273 t274 t277 t280 t283 t286 t287 t288 (t288 != t274)) else (laws_FnExactImproveRenaming.j0 k l0 l1 l2 t272 t273 t274 t277 t280 t283 t286 t287 t288 true)) else (laws_FnExactImproveRenaming.j0 k l0 l1 l2 t272 t273 t274 t277 t280 t283 t286 t287 t288 true))) = some r := H
        have A16 := Aside0.mk A160
        clear A160
        have HC17 := Aside0.mk H
        clear H
        go_enter Try.func11, Try.ntmps11
        go_upto_region 15 with (first | ((with_reducible refine gate_callee (f := 24) rfl ?_); refine goesL_ (some 28) rfl rfl Try.func24 (by kernel_rfl) rfl #[.slice A0 l0.length c0, .int .i64 1048576] rfl (by (try simp only [List.map_toArray, List.map_cons, List.map_nil]); first | done | rfl | (simp only [List.length_drop, List.length_take]; rfl)) ?_; (with_reducible refine (laws_szLegS.calls _ _ l0 1048576 t261 _ ?side1 ?side2 A5.out).mono ?_); (case side1 => repeat (first | exact HR0.out | (with_reducible refine Kd.C_alloc ?_ _) | (with_reducible refine Kd.C_drewN ?_ _) | (with_reducible refine Kd.C_drew ?_))); (case side2 => exact HC0.out); rintro e w' ⟨rfl, ⟨nd, rfl⟩⟩; refine ⟨_, rfl, ?_⟩) | ((with_reducible refine gate_callee (f := 24) rfl ?_); refine goesL_ (some 33) rfl rfl Try.func24 (by kernel_rfl) rfl #[.slice A1 l1.length c1, .int .i64 t261] rfl (by (try simp only [List.map_toArray, List.map_cons, List.map_nil]); first | done | rfl | (simp only [List.length_drop, List.length_take]; rfl)) ?_; (with_reducible refine (laws_szLegS.calls _ _ l1 t261 t262 _ ?side1 ?side2 A7.out).mono ?_); (case side1 => repeat (first | exact HR1.out | (with_reducible refine Kd.C_alloc ?_ _) | (with_reducible refine Kd.C_drewN ?_ _) | (with_reducible refine Kd.C_drew ?_))); (case side2 => exact HC1.out); rintro e w' ⟨rfl, ⟨nd, rfl⟩⟩; refine ⟨_, rfl, ?_⟩) | ((with_reducible refine gate_callee (f := 26) rfl ?_); refine goesL_ (some 38) rfl rfl Try.func26 (by kernel_rfl) rfl #[.slice A0 l0.length c0] rfl (by (try simp only [List.map_toArray, List.map_cons, List.map_nil]); first | done | rfl | (simp only [List.length_drop, List.length_take]; rfl)) ?_; (with_reducible refine (laws_toLegS.calls k _ _ l0 t263 _ ?side1 ?side2 A9.out).mono ?_); (case side1 => repeat (first | exact HR0.out | (with_reducible refine Kd.C_alloc ?_ _) | (with_reducible refine Kd.C_drewN ?_ _) | (with_reducible refine Kd.C_drew ?_))); (case side2 => exact HC0.out); rintro e w18 ⟨v264, rfl, ho0, hb⟩; refine ⟨_, rfl, ?_⟩; have n0_ := Aside0.mk (Kd.R_lower ho0 (below_size (by repeat (first | (with_reducible first | exact HB.out | apply below_alloc | apply pw_below_drewN | apply below_drew1) | exact HB.out)))); have n1_ := Aside0.mk (below_step (by repeat (first | (with_reducible first | exact HB.out | apply below_alloc | apply pw_below_drewN | apply below_drew1) | exact HB.out)) hb); clear HB; have HO265 := n0_; have HB := n1_; clear n0_ n1_; (try clear hb); (try clear hb2); (try clear hk); (try clear hi); (try clear ho0)) | ((with_reducible refine gate_callee (f := 26) rfl ?_); refine goesL_ (some 40) rfl rfl Try.func26 (by kernel_rfl) rfl #[.slice A1 l1.length c1] rfl (by (try simp only [List.map_toArray, List.map_cons, List.map_nil]); first | done | rfl | (simp only [List.length_drop, List.length_take]; rfl)) ?_; (with_reducible refine (laws_toLegS.calls k _ _ l1 t266 _ ?side1 ?side2 A10.out).mono ?_); (case side1 => repeat (first | exact (Kd.C_below HR1.out HB.out) | (with_reducible refine Kd.C_alloc ?_ _) | (with_reducible refine Kd.C_drewN ?_ _) | (with_reducible refine Kd.C_drew ?_))); (case side2 => exact HC1.out); rintro e w19 ⟨v267, rfl, ho0, hb⟩; refine ⟨_, rfl, ?_⟩; have n0_ := Aside0.mk (Kd.R_elder' (by (with_reducible repeat (first | apply Kd.R_alloc | apply Kd.R_drewN | apply Kd.R_drew)); exact HO265.out) (Kd.R_base ho0) hb); have n1_ := Aside0.mk (Kd.R_lower (Kd.R_new' ho0 (Kd.R_lt (by (with_reducible repeat (first | apply Kd.R_alloc | apply Kd.R_drewN | apply Kd.R_drew)); exact HO265.out))) (below_size (by repeat (first | (with_reducible first | exact HB.out | apply below_alloc | apply pw_below_drewN | apply below_drew1) | exact HB.out)))); have n2_ := Aside0.mk (below_step (by repeat (first | (with_reducible first | exact HB.out | apply below_alloc | apply pw_below_drewN | apply below_drew1) | exact HB.out)) hb); clear HO265; clear HB; have HO265 := n0_; have HO268 := n1_; have HB := n2_; clear n0_ n1_ n2_; (try clear hb); (try clear hb2); (try clear hk); (try clear hi); (try clear ho0)) | ((with_reducible refine gate_callee (f := 15) rfl ?_); refine goesL_ (some 42) rfl rfl Try.func15 (by kernel_rfl) rfl #[.slice A2 l2.length c2] rfl (by (try simp only [List.map_toArray, List.map_cons, List.map_nil]); first | done | rfl | (simp only [List.length_drop, List.length_take]; rfl)) ?_; (with_reducible refine (laws_toIntS.calls k _ _ l2 t269 _ ?side1 ?side2 A11.out).mono ?_); (case side1 => repeat (first | exact (Kd.C_below HR2.out HB.out) | (with_reducible refine Kd.C_alloc ?_ _) | (with_reducible refine Kd.C_drewN ?_ _) | (with_reducible refine Kd.C_drew ?_))); (case side2 => exact HC2.out); rintro e w20 ⟨v270, rfl, ho0, hb⟩; refine ⟨_, rfl, ?_⟩; have n0_ := Aside0.mk (Kd.R_below (by (with_reducible repeat (first | apply Kd.R_alloc | apply Kd.R_drewN | apply Kd.R_drew)); exact HO265.out) hb); have n1_ := Aside0.mk (Kd.R_below (by (with_reducible repeat (first | apply Kd.R_alloc | apply Kd.R_drewN | apply Kd.R_drew)); exact HO268.out) hb); have n2_ := Aside0.mk (Kd.R_lower ho0 (below_size (by repeat (first | (with_reducible first | exact HB.out | apply below_alloc | apply pw_below_drewN | apply below_drew1) | exact HB.out)))); have n3_ := Aside0.mk (below_step (by repeat (first | (with_reducible first | exact HB.out | apply below_alloc | apply pw_below_drewN | apply below_drew1) | exact HB.out)) hb); clear HO265; clear HO268; clear HB; have HO265 := n0_; have HO268 := n1_; have HO271 := n2_; have HB := n3_; clear n0_ n1_ n2_ n3_; (try clear hb); (try clear hb2); (try clear hk); (try clear hi); (try clear ho0); obtain ⟨Ao21, co21, eo21⟩ := Kd.R_slice HO265.out; subst eo21; obtain ⟨Ao22, co22, eo22⟩ := Kd.R_slice HO268.out; subst eo22; obtain ⟨Ao23, co23, eo23⟩ := Kd.R_slice HO271.out; subst eo23) | ((with_reducible refine gate_callee (f := 42) rfl ?_); refine goesL_ (some 43) rfl rfl Try.func42 (by kernel_rfl) rfl #[.slice Ao21 t263.length co21, .slice Ao22 t266.length co22, .slice Ao23 t269.length co23] rfl (by (try simp only [List.map_toArray, List.map_cons, List.map_nil]); first | done | rfl | (simp only [List.length_drop, List.length_take]; rfl)) ?_; (with_reducible refine (spec_ImproveRenaming.calls k _ _ t263 _ _ t266 _ _ t269 t272 t273 t274 _ ?side1 ?side2 ?side3 ?side4 ?side5 ?side6 A12.out).mono ?_); (case side1 => repeat (first | exact (Kd.R_reads' HO265.out).2.2 | (with_reducible refine Kd.C_alloc ?_ _) | (with_reducible refine Kd.C_drewN ?_ _) | (with_reducible refine Kd.C_drew ?_))); (case side2 => exact (Kd.R_reads' HO265.out).2.1); (case side3 => repeat (first | exact (Kd.R_reads' HO268.out).2.2 | (with_reducible refine Kd.C_alloc ?_ _) | (with_reducible refine Kd.C_drewN ?_ _) | (with_reducible refine Kd.C_drew ?_))); (case side4 => exact (Kd.R_reads' HO268.out).2.1); (case side5 => repeat (first | exact (Kd.R_reads' HO271.out).2.2 | (with_reducible refine Kd.C_alloc ?_ _) | (with_reducible refine Kd.C_drewN ?_ _) | (with_reducible refine Kd.C_drew ?_))); (case side6 => exact (Kd.R_reads' HO271.out).2.1); rintro e w24 ⟨v275, rfl, ho0, hb⟩; refine ⟨_, rfl, ?_⟩; have n0_ := Aside0.mk (Kd.R_below (by (with_reducible repeat (first | apply Kd.R_alloc | apply Kd.R_drewN | apply Kd.R_drew)); exact HO265.out) hb); have n1_ := Aside0.mk (Kd.R_below (by (with_reducible repeat (first | apply Kd.R_alloc | apply Kd.R_drewN | apply Kd.R_drew)); exact HO268.out) hb); have n2_ := Aside0.mk (Kd.R_elder' (by (with_reducible repeat (first | apply Kd.R_alloc | apply Kd.R_drewN | apply Kd.R_drew)); exact HO271.out) (Kd.R_base ho0) hb); have n3_ := Aside0.mk (Kd.R_lower (Kd.R_new' ho0 (Kd.R_lt (by (with_reducible repeat (first | apply Kd.R_alloc | apply Kd.R_drewN | apply Kd.R_drew)); exact HO271.out))) (below_size (by repeat (first | (with_reducible first | exact HB.out | apply below_alloc | apply pw_below_drewN | apply below_drew1) | exact HB.out)))); have n4_ := Aside0.mk (below_step (by repeat (first | (with_reducible first | exact HB.out | apply below_alloc | apply pw_below_drewN | apply below_drew1) | exact HB.out)) hb); clear HO265; clear HO268; clear HO271; clear HB; have HO265 := n0_; have HO268 := n1_; have HO271 := n2_; have HO276 := n3_; have HB := n4_; clear n0_ n1_ n2_ n3_ n4_; (try clear hb); (try clear hb2); (try clear hk); (try clear hi); (try clear ho0)) | ((with_reducible refine gate_callee (f := 26) rfl ?_); refine goesL_ (some 48) rfl rfl Try.func26 (by kernel_rfl) rfl #[.slice A0 l0.length c0] rfl (by (try simp only [List.map_toArray, List.map_cons, List.map_nil]); first | done | rfl | (simp only [List.length_drop, List.length_take]; rfl)) ?_; (with_reducible refine (laws_toLegS.calls k _ _ l0 t277 _ ?side1 ?side2 A13.out).mono ?_); (case side1 => repeat (first | exact (Kd.C_below HR0.out HB.out) | (with_reducible refine Kd.C_alloc ?_ _) | (with_reducible refine Kd.C_drewN ?_ _) | (with_reducible refine Kd.C_drew ?_))); (case side2 => exact HC0.out); rintro e w25 ⟨v278, rfl, ho0, hb⟩; refine ⟨_, rfl, ?_⟩; have n0_ := Aside0.mk (Kd.R_elder' (by (with_reducible repeat (first | apply Kd.R_alloc | apply Kd.R_drewN | apply Kd.R_drew)); exact HO265.out) (Kd.R_base ho0) hb); have n1_ := Aside0.mk (Kd.R_elder' (by (with_reducible repeat (first | apply Kd.R_alloc | apply Kd.R_drewN | apply Kd.R_drew)); exact HO268.out) (Kd.R_base ho0) hb); have n2_ := Aside0.mk (Kd.R_below (by (with_reducible repeat (first | apply Kd.R_alloc | apply Kd.R_drewN | apply Kd.R_drew)); exact HO271.out) hb); have n3_ := Aside0.mk (Kd.R_below (by (with_reducible repeat (first | apply Kd.R_alloc | apply Kd.R_drewN | apply Kd.R_drew)); exact HO276.out) hb); have n4_ := Aside0.mk (Kd.R_lower (Kd.R_new' (Kd.R_new' ho0 (Kd.R_lt (by (with_reducible repeat (first | apply Kd.R_alloc | apply Kd.R_drewN | apply Kd.R_drew)); exact HO265.out))) (Kd.R_lt (by (with_reducible repeat (first | apply Kd.R_alloc | apply Kd.R_drewN | apply Kd.R_drew)); exact HO268.out))) (below_size (by repeat (first | (with_reducible first | exact HB.out | apply below_alloc | apply pw_below_drewN | apply below_drew1) | exact HB.out)))); have n5_ := Aside0.mk (below_step (by repeat (first | (with_reducible first | exact HB.out | apply below_alloc | apply pw_below_drewN | apply below_drew1) | exact HB.out)) hb); clear HO265; clear HO268; clear HO271; clear HO276; clear HB; have HO265 := n0_; have HO268 := n1_; have HO271 := n2_; have HO276 := n3_; have HO279 := n4_; have HB := n5_; clear n0_ n1_ n2_ n3_ n4_ n5_; (try clear hb); (try clear hb2); (try clear hk); (try clear hi); (try clear ho0)) | ((with_reducible refine gate_callee (f := 26) rfl ?_); refine goesL_ (some 50) rfl rfl Try.func26 (by kernel_rfl) rfl #[.slice A1 l1.length c1] rfl (by (try simp only [List.map_toArray, List.map_cons, List.map_nil]); first | done | rfl | (simp only [List.length_drop, List.length_take]; rfl)) ?_; (with_reducible refine (laws_toLegS.calls k _ _ l1 t280 _ ?side1 ?side2 A14.out).mono ?_); (case side1 => repeat (first | exact (Kd.C_below HR1.out HB.out) | (with_reducible refine Kd.C_alloc ?_ _) | (with_reducible refine Kd.C_drewN ?_ _) | (with_reducible refine Kd.C_drew ?_))); (case side2 => exact HC1.out); rintro e w26 ⟨v281, rfl, ho0, hb⟩; refine ⟨_, rfl, ?_⟩; have n0_ := Aside0.mk (Kd.R_elder' (by (with_reducible repeat (first | apply Kd.R_alloc | apply Kd.R_drewN | apply Kd.R_drew)); exact HO265.out) (Kd.R_base ho0) hb); have n1_ := Aside0.mk (Kd.R_elder' (by (with_reducible repeat (first | apply Kd.R_alloc | apply Kd.R_drewN | apply Kd.R_drew)); exact HO268.out) (Kd.R_base ho0) hb); have n2_ := Aside0.mk (Kd.R_below (by (with_reducible repeat (first | apply Kd.R_alloc | apply Kd.R_drewN | apply Kd.R_drew)); exact HO271.out) hb); have n3_ := Aside0.mk (Kd.R_below (by (with_reducible repeat (first | apply Kd.R_alloc | apply Kd.R_drewN | apply Kd.R_drew)); exact HO276.out) hb); have n4_ := Aside0.mk (Kd.R_elder' (by (with_reducible repeat (first | apply Kd.R_alloc | apply Kd.R_drewN | apply Kd.R_drew)); exact HO279.out) (Kd.R_base ho0) hb); have n5_ := Aside0.mk (Kd.R_lower (Kd.R_new' (Kd.R_new' (Kd.R_new' ho0 (Kd.R_lt (by (with_reducible repeat (first | apply Kd.R_alloc | apply Kd.R_drewN | apply Kd.R_drew)); exact HO265.out))) (Kd.R_lt (by (with_reducible repeat (first | apply Kd.R_alloc | apply Kd.R_drewN | apply Kd.R_drew)); exact HO268.out))) (Kd.R_lt (by (with_reducible repeat (first | apply Kd.R_alloc | apply Kd.R_drewN | apply Kd.R_drew)); exact HO279.out))) (below_size (by repeat (first | (with_reducible first | exact HB.out | apply below_alloc | apply pw_below_drewN | apply below_drew1) | exact HB.out)))); have n6_ := Aside0.mk (below_step (by repeat (first | (with_reducible first | exact HB.out | apply below_alloc | apply pw_below_drewN | apply below_drew1) | exact HB.out)) hb); clear HO265; clear HO268; clear HO271; clear HO276; clear HO279; clear HB; have HO265 := n0_; have HO268 := n1_; have HO271 := n2_; have HO276 := n3_; have HO279 := n4_; have HO282 := n5_; have HB := n6_; clear n0_ n1_ n2_ n3_ n4_ n5_ n6_; (try clear hb); (try clear hb2); (try clear hk); (try clear hi); (try clear ho0)) | ((with_reducible refine gate_callee (f := 15) rfl ?_); refine goesL_ (some 52) rfl rfl Try.func15 (by kernel_rfl) rfl #[.slice A2 l2.length c2] rfl (by (try simp only [List.map_toArray, List.map_cons, List.map_nil]); first | done | rfl | (simp only [List.length_drop, List.length_take]; rfl)) ?_; (with_reducible refine (laws_toIntS.calls k _ _ l2 t283 _ ?side1 ?side2 A15.out).mono ?_); (case side1 => repeat (first | exact (Kd.C_below HR2.out HB.out) | (with_reducible refine Kd.C_alloc ?_ _) | (with_reducible refine Kd.C_drewN ?_ _) | (with_reducible refine Kd.C_drew ?_))); (case side2 => exact HC2.out); rintro e w27 ⟨v284, rfl, ho0, hb⟩; refine ⟨_, rfl, ?_⟩; have n0_ := Aside0.mk (Kd.R_below (by (with_reducible repeat (first | apply Kd.R_alloc | apply Kd.R_drewN | apply Kd.R_drew)); exact HO265.out) hb); have n1_ := Aside0.mk (Kd.R_below (by (with_reducible repeat (first | apply Kd.R_alloc | apply Kd.R_drewN | apply Kd.R_drew)); exact HO268.out) hb); have n2_ := Aside0.mk (Kd.R_elder' (by (with_reducible repeat (first | apply Kd.R_alloc | apply Kd.R_drewN | apply Kd.R_drew)); exact HO271.out) (Kd.R_base ho0) hb); have n3_ := Aside0.mk (Kd.R_elder' (by (with_reducible repeat (first | apply Kd.R_alloc | apply Kd.R_drewN | apply Kd.R_drew)); exact HO276.out) (Kd.R_base ho0) hb); have n4_ := Aside0.mk (Kd.R_below (by (with_reducible repeat (first | apply Kd.R_alloc | apply Kd.R_drewN | apply Kd.R_drew)); exact HO279.out) hb); have n5_ := Aside0.mk (Kd.R_below (by (with_reducible repeat (first | apply Kd.R_alloc | apply Kd.R_drewN | apply Kd.R_drew)); exact HO282.out) hb); have n6_ := Aside0.mk (Kd.R_lower (Kd.R_new' (Kd.R_new' ho0 (Kd.R_lt (by (with_reducible repeat (first | apply Kd.R_alloc | apply Kd.R_drewN | apply Kd.R_drew)); exact HO271.out))) (Kd.R_lt (by (with_reducible repeat (first | apply Kd.R_alloc | apply Kd.R_drewN | apply Kd.R_drew)); exact HO276.out))) (below_size (by repeat (first | (with_reducible first | exact HB.out | apply below_alloc | apply pw_below_drewN | apply below_drew1) | exact HB.out)))); have n7_ := Aside0.mk (below_step (by repeat (first | (with_reducible first | exact HB.out | apply below_alloc | apply pw_below_drewN | apply below_drew1) | exact HB.out)) hb); clear HO265; clear HO268; clear HO271; clear HO276; clear HO279; clear HO282; clear HB; have HO265 := n0_; have HO268 := n1_; have HO271 := n2_; have HO276 := n3_; have HO279 := n4_; have HO282 := n5_; have HO285 := n6_; have HB := n7_; clear n0_ n1_ n2_ n3_ n4_ n5_ n6_ n7_; (try clear hb); (try clear hb2); (try clear hk); (try clear hi); (try clear ho0); obtain ⟨Ao28, co28, eo28⟩ := Kd.R_slice HO279.out; subst eo28; obtain ⟨Ao29, co29, eo29⟩ := Kd.R_slice HO282.out; subst eo29; obtain ⟨Ao30, co30, eo30⟩ := Kd.R_slice HO285.out; subst eo30) | ((with_reducible refine gate_callee (f := 43) rfl ?_); refine goesL_ (some 57) rfl rfl Try.func43 (by kernel_rfl) rfl #[.slice Ao28 t277.length co28, .slice Ao29 t280.length co29, .slice Ao30 t283.length co30] rfl (by (try simp only [List.map_toArray, List.map_cons, List.map_nil]); first | done | rfl | (simp only [List.length_drop, List.length_take]; rfl)) ?_; (with_reducible refine (impl_ImproveRenaming.calls k _ _ t277 _ _ t280 _ _ t283 t286 t287 t288 _ ?side1 ?side2 ?side3 ?side4 ?side5 ?side6 A16.out).mono ?_); (case side1 => repeat (first | exact (Kd.R_reads' HO279.out).2.2 | (with_reducible refine Kd.C_alloc ?_ _) | (with_reducible refine Kd.C_drewN ?_ _) | (with_reducible refine Kd.C_drew ?_))); (case side2 => exact (Kd.R_reads' HO279.out).2.1); (case side3 => repeat (first | exact (Kd.R_reads' HO282.out).2.2 | (with_reducible refine Kd.C_alloc ?_ _) | (with_reducible refine Kd.C_drewN ?_ _) | (with_reducible refine Kd.C_drew ?_))); (case side4 => exact (Kd.R_reads' HO282.out).2.1); (case side5 => repeat (first | exact (Kd.R_reads' HO285.out).2.2 | (with_reducible refine Kd.C_alloc ?_ _) | (with_reducible refine Kd.C_drewN ?_ _) | (with_reducible refine Kd.C_drew ?_))); (case side6 => exact (Kd.R_reads' HO285.out).2.1); rintro e w31 ⟨v289, rfl, ho0, hb⟩; refine ⟨_, rfl, ?_⟩; have n0_ := Aside0.mk (Kd.R_below (by (with_reducible repeat (first | apply Kd.R_alloc | apply Kd.R_drewN | apply Kd.R_drew)); exact HO265.out) hb); have n1_ := Aside0.mk (Kd.R_below (by (with_reducible repeat (first | apply Kd.R_alloc | apply Kd.R_drewN | apply Kd.R_drew)); exact HO268.out) hb); have n2_ := Aside0.mk (Kd.R_elder' (by (with_reducible repeat (first | apply Kd.R_alloc | apply Kd.R_drewN | apply Kd.R_drew)); exact HO271.out) (Kd.R_base ho0) hb); have n3_ := Aside0.mk (Kd.R_elder' (by (with_reducible repeat (first | apply Kd.R_alloc | apply Kd.R_drewN | apply Kd.R_drew)); exact HO276.out) (Kd.R_base ho0) hb); have n4_ := Aside0.mk (Kd.R_below (by (with_reducible repeat (first | apply Kd.R_alloc | apply Kd.R_drewN | apply Kd.R_drew)); exact HO279.out) hb); have n5_ := Aside0.mk (Kd.R_below (by (with_reducible repeat (first | apply Kd.R_alloc | apply Kd.R_drewN | apply Kd.R_drew)); exact HO282.out) hb); have n6_ := Aside0.mk (Kd.R_elder' (by (with_reducible repeat (first | apply Kd.R_alloc | apply Kd.R_drewN | apply Kd.R_drew)); exact HO285.out) (Kd.R_base ho0) hb); have n7_ := Aside0.mk (Kd.R_lower (Kd.R_new' (Kd.R_new' (Kd.R_new' ho0 (Kd.R_lt (by (with_reducible repeat (first | apply Kd.R_alloc | apply Kd.R_drewN | apply Kd.R_drew)); exact HO271.out))) (Kd.R_lt (by (with_reducible repeat (first | apply Kd.R_alloc | apply Kd.R_drewN | apply Kd.R_drew)); exact HO276.out))) (Kd.R_lt (by (with_reducible repeat (first | apply Kd.R_alloc | apply Kd.R_drewN | apply Kd.R_drew)); exact HO285.out))) (below_size (by repeat (first | (with_reducible first | exact HB.out | apply below_alloc | apply pw_below_drewN | apply below_drew1) | exact HB.out)))); have n8_ := Aside0.mk (below_step (by repeat (first | (with_reducible first | exact HB.out | apply below_alloc | apply pw_below_drewN | apply below_drew1) | exact HB.out)) hb); clear HO265; clear HO268; clear HO271; clear HO276; clear HO279; clear HO282; clear HO285; clear HB; have HO265 := n0_; have HO268 := n1_; have HO271 := n2_; have HO276 := n3_; have HO279 := n4_; have HO282 := n5_; have HO285 := n6_; have HO290 := n7_; have HB := n8_; clear n0_ n1_ n2_ n3_ n4_ n5_ n6_ n7_ n8_; (try clear hb); (try clear hb2); (try clear hk); (try clear hi); (try clear ho0)))
        (try simp only [Act.put, List.setIfInBounds_toArray, List.set_cons_zero, List.set_cons_succ])
        go_cut [74] (fun v74 wc => ∃ (kq : Nat) (x74_16 : Bool), v74 = .bool x74_16 ∧ Aside0 (laws_FnExactImproveRenaming.j0 kq l0 l1 l2 t272 t273 t274 t277 t280 t283 t286 t287 t288 x74_16 = some r) ∧ Aside0 (kq ≤ k) ∧ Aside0 (Kd.R (Kd.int .i64) 3 wc w.heap.size (fun k_ => some k_ ≠ ((.slice Ao30 t283.length co30) : Value).ownBlock ∧ some k_ ≠ (v289 : Value).ownBlock) v275 t272) ∧ Aside0 (Kd.R k70 70 wc w.heap.size (fun k_ => some k_ ≠ ((.slice Ao29 t280.length co29) : Value).ownBlock) (.slice Ao28 t277.length co28) t277) ∧ Aside0 (Kd.R k70 70 wc w.heap.size (fun k_ => some k_ ≠ ((.slice Ao28 t277.length co28) : Value).ownBlock) (.slice Ao29 t280.length co29) t280) ∧ Aside0 (Kd.R (Kd.int .i64) 3 wc w.heap.size (fun k_ => some k_ ≠ (v275 : Value).ownBlock ∧ some k_ ≠ (v289 : Value).ownBlock) (.slice Ao30 t283.length co30) t283) ∧ Aside0 (Kd.R (Kd.int .i64) 3 wc w.heap.size (fun k_ => some k_ ≠ (v275 : Value).ownBlock ∧ some k_ ≠ ((.slice Ao30 t283.length co30) : Value).ownBlock) v289 t286) ∧ Aside0 (Below w.heap.size w wc))
        case first =>
          have H := HC17.out
          clear HC17
          replace H := Option.bind_eq_some_iff.mp H
          obtain ⟨t291, A320, H⟩ := H
          replace H : (if t291 = true then (if t287 = t273 then (laws_FnExactImproveRenaming.j0 k l0 l1 l2 t272 t273 t274 t277 t280 t283 t286 t287 t288 (t288 != t274)) else (laws_FnExactImproveRenaming.j0 k l0 l1 l2 t272 t273 t274 t277 t280 t283 t286 t287 t288 true)) else (laws_FnExactImproveRenaming.j0 k l0 l1 l2 t272 t273 t274 t277 t280 t283 t286 t287 t288 true)) = some r := H
          have A32 := Aside0.mk A320
          clear A320
          by_cases c33 : t291 = true
          · subst c33
            have H1 : (if t287 = t273 then (laws_FnExactImproveRenaming.j0 k l0 l1 l2 t272 t273 t274 t277 t280 t283 t286 t287 t288 (t288 != t274)) else (laws_FnExactImproveRenaming.j0 k l0 l1 l2 t272 t273 t274 t277 t280 t283 t286 t287 t288 true)) = some r := by rw [if_pos rfl] at H; exact H
            clear H
            have H := H1
            clear H1
            by_cases c34 : t287 = t273
            · rw [if_pos c34] at H
              have c34b0 : (t287 == t273) = true := beq_iff_eq.mpr c34
              have c34b1 : (t287 != t273) = false := bne_eq_false_iff_eq.mpr c34
              clear c34
              (first | rw [c34b0] | (simp only [i64_w, i32_w]; rw [c34b0]) | skip)
              have H' := Aside0.mk H
              clear H
              obtain ⟨Ao35, co35, eo35⟩ := Kd.R_slice HO290.out
              subst eo35
              obtain ⟨Ao36, co36, eo36⟩ := Kd.R_slice HO276.out
              subst eo36
              go_wp2_with (first | ((with_reducible refine gate_callee (f := 17) rfl ?_); refine goesL_ (some 63) rfl rfl Try.func17 (by kernel_rfl) rfl #[.slice Ao35 t286.length co35, .slice Ao36 t272.length co36] rfl (by (try simp only [List.map_toArray, List.map_cons, List.map_nil]); first | done | rfl | (simp only [List.length_drop, List.length_take]; rfl)) ?_; (with_reducible refine (laws_eqIntS.calls k _ _ t286 _ _ t272 true _ ?side1 ?side2 ?side3 ?side4 A32.out).mono ?_); (case side1 => repeat (first | exact (Kd.R_reads' HO290.out).2.2 | (with_reducible refine Kd.C_alloc ?_ _) | (with_reducible refine Kd.C_drewN ?_ _) | (with_reducible refine Kd.C_drew ?_))); (case side2 => exact (Kd.R_reads' HO290.out).2.1); (case side3 => repeat (first | exact (Kd.R_reads' HO276.out).2.2 | (with_reducible refine Kd.C_alloc ?_ _) | (with_reducible refine Kd.C_drewN ?_ _) | (with_reducible refine Kd.C_drew ?_))); (case side4 => exact (Kd.R_reads' HO276.out).2.1); rintro e w' ⟨rfl, ⟨nd, rfl⟩⟩; refine ⟨_, rfl, ?_⟩))
              go_meet
              case rel => exact ⟨_, ((t288 != t274)), (by first | rfl | (simp; done) | (simp [*]; done)), H', ⟨by first | omega | exact Nat.le_refl _⟩, ⟨by (with_reducible repeat (first | apply Kd.R_alloc | apply Kd.R_drewN | apply Kd.R_drew)); exact Kd.R_mono HO276.out (fun _ hk => ⟨hk.1.2, hk.2⟩)⟩, ⟨by (with_reducible repeat (first | apply Kd.R_alloc | apply Kd.R_drewN | apply Kd.R_drew)); exact Kd.R_mono HO279.out (fun _ hk => hk.2)⟩, ⟨by (with_reducible repeat (first | apply Kd.R_alloc | apply Kd.R_drewN | apply Kd.R_drew)); exact Kd.R_mono HO282.out (fun _ hk => hk.2)⟩, ⟨by (with_reducible repeat (first | apply Kd.R_alloc | apply Kd.R_drewN | apply Kd.R_drew)); exact Kd.R_mono HO285.out (fun _ hk => ⟨hk.1.2, hk.2⟩)⟩, ⟨by (with_reducible repeat (first | apply Kd.R_alloc | apply Kd.R_drewN | apply Kd.R_drew)); exact Kd.R_mono HO290.out (fun _ hk => ⟨hk.1.2, hk.2⟩)⟩, ⟨by repeat (first | (with_reducible first | exact HB.out | apply below_alloc | apply pw_below_drewN | apply below_drew1) | exact HB.out)⟩⟩
            · rw [if_neg c34] at H
              have c34b0 : (t287 == t273) = false := beq_eq_false_iff_ne.mpr c34
              have c34b1 : (t287 != t273) = true := bne_iff_ne.mpr c34
              (first | rw [c34b0] | (simp only [i64_w, i32_w]; rw [c34b0]) | skip)
              have H' := Aside0.mk H
              clear H
              obtain ⟨Ao37, co37, eo37⟩ := Kd.R_slice HO290.out
              subst eo37
              obtain ⟨Ao38, co38, eo38⟩ := Kd.R_slice HO276.out
              subst eo38
              go_wp2_with (first | ((with_reducible refine gate_callee (f := 17) rfl ?_); refine goesL_ (some 63) rfl rfl Try.func17 (by kernel_rfl) rfl #[.slice Ao37 t286.length co37, .slice Ao38 t272.length co38] rfl (by (try simp only [List.map_toArray, List.map_cons, List.map_nil]); first | done | rfl | (simp only [List.length_drop, List.length_take]; rfl)) ?_; (with_reducible refine (laws_eqIntS.calls k _ _ t286 _ _ t272 true _ ?side1 ?side2 ?side3 ?side4 A32.out).mono ?_); (case side1 => repeat (first | exact (Kd.R_reads' HO290.out).2.2 | (with_reducible refine Kd.C_alloc ?_ _) | (with_reducible refine Kd.C_drewN ?_ _) | (with_reducible refine Kd.C_drew ?_))); (case side2 => exact (Kd.R_reads' HO290.out).2.1); (case side3 => repeat (first | exact (Kd.R_reads' HO276.out).2.2 | (with_reducible refine Kd.C_alloc ?_ _) | (with_reducible refine Kd.C_drewN ?_ _) | (with_reducible refine Kd.C_drew ?_))); (case side4 => exact (Kd.R_reads' HO276.out).2.1); rintro e w' ⟨rfl, ⟨nd, rfl⟩⟩; refine ⟨_, rfl, ?_⟩))
              go_meet
              case rel => exact ⟨_, (true), (by first | rfl | (simp; done) | (simp [*]; done)), H', ⟨by first | omega | exact Nat.le_refl _⟩, ⟨by (with_reducible repeat (first | apply Kd.R_alloc | apply Kd.R_drewN | apply Kd.R_drew)); exact Kd.R_mono HO276.out (fun _ hk => ⟨hk.1.2, hk.2⟩)⟩, ⟨by (with_reducible repeat (first | apply Kd.R_alloc | apply Kd.R_drewN | apply Kd.R_drew)); exact Kd.R_mono HO279.out (fun _ hk => hk.2)⟩, ⟨by (with_reducible repeat (first | apply Kd.R_alloc | apply Kd.R_drewN | apply Kd.R_drew)); exact Kd.R_mono HO282.out (fun _ hk => hk.2)⟩, ⟨by (with_reducible repeat (first | apply Kd.R_alloc | apply Kd.R_drewN | apply Kd.R_drew)); exact Kd.R_mono HO285.out (fun _ hk => ⟨hk.1.2, hk.2⟩)⟩, ⟨by (with_reducible repeat (first | apply Kd.R_alloc | apply Kd.R_drewN | apply Kd.R_drew)); exact Kd.R_mono HO290.out (fun _ hk => ⟨hk.1.2, hk.2⟩)⟩, ⟨by repeat (first | (with_reducible first | exact HB.out | apply below_alloc | apply pw_below_drewN | apply below_drew1) | exact HB.out)⟩⟩
          · replace c33 := Bool.eq_false_iff.mpr c33
            subst c33
            have H1 : (laws_FnExactImproveRenaming.j0 k l0 l1 l2 t272 t273 t274 t277 t280 t283 t286 t287 t288 true) = some r := by rw [if_neg (show ¬ (false = true) by decide)] at H; exact H
            clear H
            have H := H1
            clear H1
            have H' := Aside0.mk H
            clear H
            obtain ⟨Ao39, co39, eo39⟩ := Kd.R_slice HO290.out
            subst eo39
            obtain ⟨Ao40, co40, eo40⟩ := Kd.R_slice HO276.out
            subst eo40
            go_wp2_with (first | ((with_reducible refine gate_callee (f := 17) rfl ?_); refine goesL_ (some 63) rfl rfl Try.func17 (by kernel_rfl) rfl #[.slice Ao39 t286.length co39, .slice Ao40 t272.length co40] rfl (by (try simp only [List.map_toArray, List.map_cons, List.map_nil]); first | done | rfl | (simp only [List.length_drop, List.length_take]; rfl)) ?_; (with_reducible refine (laws_eqIntS.calls k _ _ t286 _ _ t272 false _ ?side1 ?side2 ?side3 ?side4 A32.out).mono ?_); (case side1 => repeat (first | exact (Kd.R_reads' HO290.out).2.2 | (with_reducible refine Kd.C_alloc ?_ _) | (with_reducible refine Kd.C_drewN ?_ _) | (with_reducible refine Kd.C_drew ?_))); (case side2 => exact (Kd.R_reads' HO290.out).2.1); (case side3 => repeat (first | exact (Kd.R_reads' HO276.out).2.2 | (with_reducible refine Kd.C_alloc ?_ _) | (with_reducible refine Kd.C_drewN ?_ _) | (with_reducible refine Kd.C_drew ?_))); (case side4 => exact (Kd.R_reads' HO276.out).2.1); rintro e w' ⟨rfl, ⟨nd, rfl⟩⟩; refine ⟨_, rfl, ?_⟩))
            go_meet
            case rel => exact ⟨_, (true), (by first | rfl | (simp; done) | (simp [*]; done)), H', ⟨by first | omega | exact Nat.le_refl _⟩, ⟨by (with_reducible repeat (first | apply Kd.R_alloc | apply Kd.R_drewN | apply Kd.R_drew)); exact Kd.R_mono HO276.out (fun _ hk => ⟨hk.1.2, hk.2⟩)⟩, ⟨by (with_reducible repeat (first | apply Kd.R_alloc | apply Kd.R_drewN | apply Kd.R_drew)); exact Kd.R_mono HO279.out (fun _ hk => hk.2)⟩, ⟨by (with_reducible repeat (first | apply Kd.R_alloc | apply Kd.R_drewN | apply Kd.R_drew)); exact Kd.R_mono HO282.out (fun _ hk => hk.2)⟩, ⟨by (with_reducible repeat (first | apply Kd.R_alloc | apply Kd.R_drewN | apply Kd.R_drew)); exact Kd.R_mono HO285.out (fun _ hk => ⟨hk.1.2, hk.2⟩)⟩, ⟨by (with_reducible repeat (first | apply Kd.R_alloc | apply Kd.R_drewN | apply Kd.R_drew)); exact Kd.R_mono HO290.out (fun _ hk => ⟨hk.1.2, hk.2⟩)⟩, ⟨by repeat (first | (with_reducible first | exact HB.out | apply below_alloc | apply pw_below_drewN | apply below_drew1) | exact HB.out)⟩⟩
        case rest =>
          clear HC17
          try clear c1
          try clear c2
          try clear p2
          try clear c3
          try clear c4
          try clear c4b0
          try clear c4b1
          try clear c6
          try clear c6b0
          try clear c8
          try clear c8b0
          try clear c11
          try clear c15
          try clear c17
          try clear c24
          try clear c26
          try clear c33
          try clear c34
          try clear c34b0
          try clear c34b1
          obtain ⟨kq, x74_16, rfl, HA, HJ16, HO_8, HO_11, HO_12, HO_13, HO_14, HB⟩ := hcut
          cases kq with
          | zero => exact absurd HA.out (by simp [laws_FnExactImproveRenaming.j0])
          | succ kj16 =>
            have H := HA.out
            clear HA
            simp only [laws_FnExactImproveRenaming.j0] at H
            by_cases c41 : x74_16 = true
            · subst c41
              have H1 : (some false) = some r := by rw [if_pos rfl] at H; exact H
              clear H
              have H := H1
              clear H1
              exact absurd (Option.some.inj H) (by rw [hT]; decide)
            · replace c41 := Bool.eq_false_iff.mpr c41
              subst c41
              have H1 : ((laws_toLegS.f kj16 l0).bind fun t292 => ((laws_eqLegS.f kj16 t277 t292).bind fun t295 => (if t295 = true then ((laws_toLegS.f kj16 l1).bind fun t296 => ((laws_eqLegS.f kj16 t280 t296).bind fun t299 => (if t299 = true then ((laws_toIntS.f kj16 l2).bind fun t300 => ((laws_eqIntS.f kj16 t283 t300).bind fun t303 => (if t303 = true then ((laws_markLegS.f kj16 t277 1).bind fun bt304 => ((laws_markLegS.f kj16 t280 bt304.1).bind fun bt306 => ((laws_markIntS.f kj16 t283 bt306.1).bind fun bt308 => (if bt308.1 < 0 then (laws_FnExactImproveRenaming.j1 kj16 l0 l1 l2 t272 t273 t274 t286 true) else ((laws_eqIntS.f kj16 t286 t272).bind fun t310 => (if t310 = true then (if t287 = t273 then (laws_FnExactImproveRenaming.j1 kj16 l0 l1 l2 t272 t273 t274 t286 (t288 != t274)) else (laws_FnExactImproveRenaming.j1 kj16 l0 l1 l2 t272 t273 t274 t286 true)) else (laws_FnExactImproveRenaming.j1 kj16 l0 l1 l2 t272 t273 t274 t286 true))))))) else (some false)))) else (some false)))) else (some false)))) = some r := by rw [if_neg (show ¬ (false = true) by decide)] at H; exact H
              clear H
              have H := H1
              clear H1
              replace H := Option.bind_eq_some_iff.mp H
              obtain ⟨t292, A420, H⟩ := H
              replace H : ((laws_eqLegS.f kj16 t277 t292).bind fun t295 => (if t295 = true then ((laws_toLegS.f kj16 l1).bind fun t296 => ((laws_eqLegS.f kj16 t280 t296).bind fun t299 => (if t299 = true then ((laws_toIntS.f kj16 l2).bind fun t300 => ((laws_eqIntS.f kj16 t283 t300).bind fun t303 => (if t303 = true then ((laws_markLegS.f kj16 t277 1).bind fun bt304 => ((laws_markLegS.f kj16 t280 bt304.1).bind fun bt306 => ((laws_markIntS.f kj16 t283 bt306.1).bind fun bt308 => (if bt308.1 < 0 then (laws_FnExactImproveRenaming.j1 kj16 l0 l1 l2 t272 t273 t274 t286 true) else ((laws_eqIntS.f kj16 t286 t272).bind fun t310 => (if t310 = true then (if t287 = t273 then (laws_FnExactImproveRenaming.j1 kj16 l0 l1 l2 t272 t273 t274 t286 (t288 != t274)) else (laws_FnExactImproveRenaming.j1 kj16 l0 l1 l2 t272 t273 t274 t286 true)) else (laws_FnExactImproveRenaming.j1 kj16 l0 l1 l2 t272 t273 t274 t286 true))))))) else (some false)))) else (some false)))) else (some false))) = some r := H
              have A42 := Aside0.mk A420
              clear A420
              replace H := Option.bind_eq_some_iff.mp H
              obtain ⟨t295, A430, H⟩ := H
              replace H : (if t295 = true then ((laws_toLegS.f kj16 l1).bind fun t296 => ((laws_eqLegS.f kj16 t280 t296).bind fun t299 => (if t299 = true then ((laws_toIntS.f kj16 l2).bind fun t300 => ((laws_eqIntS.f kj16 t283 t300).bind fun t303 => (if t303 = true then ((laws_markLegS.f kj16 t277 1).bind fun bt304 => ((laws_markLegS.f kj16 t280 bt304.1).bind fun bt306 => ((laws_markIntS.f kj16 t283 bt306.1).bind fun bt308 => (if bt308.1 < 0 then (laws_FnExactImproveRenaming.j1 kj16 l0 l1 l2 t272 t273 t274 t286 true) else ((laws_eqIntS.f kj16 t286 t272).bind fun t310 => (if t310 = true then (if t287 = t273 then (laws_FnExactImproveRenaming.j1 kj16 l0 l1 l2 t272 t273 t274 t286 (t288 != t274)) else (laws_FnExactImproveRenaming.j1 kj16 l0 l1 l2 t272 t273 t274 t286 true)) else (laws_FnExactImproveRenaming.j1 kj16 l0 l1 l2 t272 t273 t274 t286 true))))))) else (some false)))) else (some false)))) else (some false)) = some r := H
              have A43 := Aside0.mk A430
              clear A430
              by_cases c44 : t295 = true
              · subst c44
                have H1 : ((laws_toLegS.f kj16 l1).bind fun t296 => ((laws_eqLegS.f kj16 t280 t296).bind fun t299 => (if t299 = true then ((laws_toIntS.f kj16 l2).bind fun t300 => ((laws_eqIntS.f kj16 t283 t300).bind fun t303 => (if t303 = true then ((laws_markLegS.f kj16 t277 1).bind fun bt304 => ((laws_markLegS.f kj16 t280 bt304.1).bind fun bt306 => ((laws_markIntS.f kj16 t283 bt306.1).bind fun bt308 => (if bt308.1 < 0 then (laws_FnExactImproveRenaming.j1 kj16 l0 l1 l2 t272 t273 t274 t286 true) else ((laws_eqIntS.f kj16 t286 t272).bind fun t310 => (if t310 = true then (if t287 = t273 then (laws_FnExactImproveRenaming.j1 kj16 l0 l1 l2 t272 t273 t274 t286 (t288 != t274)) else (laws_FnExactImproveRenaming.j1 kj16 l0 l1 l2 t272 t273 t274 t286 true)) else (laws_FnExactImproveRenaming.j1 kj16 l0 l1 l2 t272 t273 t274 t286 true))))))) else (some false)))) else (some false)))) = some r := by rw [if_pos rfl] at H; exact H
                clear H
                have H := H1
                clear H1
                replace H := Option.bind_eq_some_iff.mp H
                obtain ⟨t296, A450, H⟩ := H
                replace H : ((laws_eqLegS.f kj16 t280 t296).bind fun t299 => (if t299 = true then ((laws_toIntS.f kj16 l2).bind fun t300 => ((laws_eqIntS.f kj16 t283 t300).bind fun t303 => (if t303 = true then ((laws_markLegS.f kj16 t277 1).bind fun bt304 => ((laws_markLegS.f kj16 t280 bt304.1).bind fun bt306 => ((laws_markIntS.f kj16 t283 bt306.1).bind fun bt308 => (if bt308.1 < 0 then (laws_FnExactImproveRenaming.j1 kj16 l0 l1 l2 t272 t273 t274 t286 true) else ((laws_eqIntS.f kj16 t286 t272).bind fun t310 => (if t310 = true then (if t287 = t273 then (laws_FnExactImproveRenaming.j1 kj16 l0 l1 l2 t272 t273 t274 t286 (t288 != t274)) else (laws_FnExactImproveRenaming.j1 kj16 l0 l1 l2 t272 t273 t274 t286 true)) else (laws_FnExactImproveRenaming.j1 kj16 l0 l1 l2 t272 t273 t274 t286 true))))))) else (some false)))) else (some false))) = some r := H
                have A45 := Aside0.mk A450
                clear A450
                replace H := Option.bind_eq_some_iff.mp H
                obtain ⟨t299, A460, H⟩ := H
                replace H : (if t299 = true then ((laws_toIntS.f kj16 l2).bind fun t300 => ((laws_eqIntS.f kj16 t283 t300).bind fun t303 => (if t303 = true then ((laws_markLegS.f kj16 t277 1).bind fun bt304 => ((laws_markLegS.f kj16 t280 bt304.1).bind fun bt306 => ((laws_markIntS.f kj16 t283 bt306.1).bind fun bt308 => (if bt308.1 < 0 then (laws_FnExactImproveRenaming.j1 kj16 l0 l1 l2 t272 t273 t274 t286 true) else ((laws_eqIntS.f kj16 t286 t272).bind fun t310 => (if t310 = true then (if t287 = t273 then (laws_FnExactImproveRenaming.j1 kj16 l0 l1 l2 t272 t273 t274 t286 (t288 != t274)) else (laws_FnExactImproveRenaming.j1 kj16 l0 l1 l2 t272 t273 t274 t286 true)) else (laws_FnExactImproveRenaming.j1 kj16 l0 l1 l2 t272 t273 t274 t286 true))))))) else (some false)))) else (some false)) = some r := H
                have A46 := Aside0.mk A460
                clear A460
                by_cases c47 : t299 = true
                · subst c47
                  have H1 : ((laws_toIntS.f kj16 l2).bind fun t300 => ((laws_eqIntS.f kj16 t283 t300).bind fun t303 => (if t303 = true then ((laws_markLegS.f kj16 t277 1).bind fun bt304 => ((laws_markLegS.f kj16 t280 bt304.1).bind fun bt306 => ((laws_markIntS.f kj16 t283 bt306.1).bind fun bt308 => (if bt308.1 < 0 then (laws_FnExactImproveRenaming.j1 kj16 l0 l1 l2 t272 t273 t274 t286 true) else ((laws_eqIntS.f kj16 t286 t272).bind fun t310 => (if t310 = true then (if t287 = t273 then (laws_FnExactImproveRenaming.j1 kj16 l0 l1 l2 t272 t273 t274 t286 (t288 != t274)) else (laws_FnExactImproveRenaming.j1 kj16 l0 l1 l2 t272 t273 t274 t286 true)) else (laws_FnExactImproveRenaming.j1 kj16 l0 l1 l2 t272 t273 t274 t286 true))))))) else (some false)))) = some r := by rw [if_pos rfl] at H; exact H
                  clear H
                  have H := H1
                  clear H1
                  replace H := Option.bind_eq_some_iff.mp H
                  obtain ⟨t300, A480, H⟩ := H
                  replace H : ((laws_eqIntS.f kj16 t283 t300).bind fun t303 => (if t303 = true then ((laws_markLegS.f kj16 t277 1).bind fun bt304 => ((laws_markLegS.f kj16 t280 bt304.1).bind fun bt306 => ((laws_markIntS.f kj16 t283 bt306.1).bind fun bt308 => (if bt308.1 < 0 then (laws_FnExactImproveRenaming.j1 kj16 l0 l1 l2 t272 t273 t274 t286 true) else ((laws_eqIntS.f kj16 t286 t272).bind fun t310 => (if t310 = true then (if t287 = t273 then (laws_FnExactImproveRenaming.j1 kj16 l0 l1 l2 t272 t273 t274 t286 (t288 != t274)) else (laws_FnExactImproveRenaming.j1 kj16 l0 l1 l2 t272 t273 t274 t286 true)) else (laws_FnExactImproveRenaming.j1 kj16 l0 l1 l2 t272 t273 t274 t286 true))))))) else (some false))) = some r := H
                  have A48 := Aside0.mk A480
                  clear A480
                  replace H := Option.bind_eq_some_iff.mp H
                  obtain ⟨t303, A490, H⟩ := H
                  replace H : (if t303 = true then ((laws_markLegS.f kj16 t277 1).bind fun bt304 => ((laws_markLegS.f kj16 t280 bt304.1).bind fun bt306 => ((laws_markIntS.f kj16 t283 bt306.1).bind fun bt308 => (if bt308.1 < 0 then (laws_FnExactImproveRenaming.j1 kj16 l0 l1 l2 t272 t273 t274 t286 true) else ((laws_eqIntS.f kj16 t286 t272).bind fun t310 => (if t310 = true then (if t287 = t273 then (laws_FnExactImproveRenaming.j1 kj16 l0 l1 l2 t272 t273 t274 t286 (t288 != t274)) else (laws_FnExactImproveRenaming.j1 kj16 l0 l1 l2 t272 t273 t274 t286 true)) else (laws_FnExactImproveRenaming.j1 kj16 l0 l1 l2 t272 t273 t274 t286 true))))))) else (some false)) = some r := H
                  have A49 := Aside0.mk A490
                  clear A490
                  by_cases c50 : t303 = true
                  · subst c50
                    have H1 : ((laws_markLegS.f kj16 t277 1).bind fun bt304 => ((laws_markLegS.f kj16 t280 bt304.1).bind fun bt306 => ((laws_markIntS.f kj16 t283 bt306.1).bind fun bt308 => (if bt308.1 < 0 then (laws_FnExactImproveRenaming.j1 kj16 l0 l1 l2 t272 t273 t274 t286 true) else ((laws_eqIntS.f kj16 t286 t272).bind fun t310 => (if t310 = true then (if t287 = t273 then (laws_FnExactImproveRenaming.j1 kj16 l0 l1 l2 t272 t273 t274 t286 (t288 != t274)) else (laws_FnExactImproveRenaming.j1 kj16 l0 l1 l2 t272 t273 t274 t286 true)) else (laws_FnExactImproveRenaming.j1 kj16 l0 l1 l2 t272 t273 t274 t286 true))))))) = some r := by rw [if_pos rfl] at H; exact H
                    clear H
                    have H := H1
                    clear H1
                    replace H := Option.bind_eq_some_iff.mp H
                    obtain ⟨⟨t304, t305⟩, A510, H⟩ := H
                    replace H : ((laws_markLegS.f kj16 t280 t304).bind fun bt306 => ((laws_markIntS.f kj16 t283 bt306.1).bind fun bt308 => (if bt308.1 < 0 then (laws_FnExactImproveRenaming.j1 kj16 l0 l1 l2 t272 t273 t274 t286 true) else ((laws_eqIntS.f kj16 t286 t272).bind fun t310 => (if t310 = true then (if t287 = t273 then (laws_FnExactImproveRenaming.j1 kj16 l0 l1 l2 t272 t273 t274 t286 (t288 != t274)) else (laws_FnExactImproveRenaming.j1 kj16 l0 l1 l2 t272 t273 t274 t286 true)) else (laws_FnExactImproveRenaming.j1 kj16 l0 l1 l2 t272 t273 t274 t286 true)))))) = some r := H
                    have A51 := Aside0.mk A510
                    clear A510
                    replace H := Option.bind_eq_some_iff.mp H
                    obtain ⟨⟨t306, t307⟩, A520, H⟩ := H
                    replace H : ((laws_markIntS.f kj16 t283 t306).bind fun bt308 => (if bt308.1 < 0 then (laws_FnExactImproveRenaming.j1 kj16 l0 l1 l2 t272 t273 t274 t286 true) else ((laws_eqIntS.f kj16 t286 t272).bind fun t310 => (if t310 = true then (if t287 = t273 then (laws_FnExactImproveRenaming.j1 kj16 l0 l1 l2 t272 t273 t274 t286 (t288 != t274)) else (laws_FnExactImproveRenaming.j1 kj16 l0 l1 l2 t272 t273 t274 t286 true)) else (laws_FnExactImproveRenaming.j1 kj16 l0 l1 l2 t272 t273 t274 t286 true))))) = some r := H
                    have A52 := Aside0.mk A520
                    clear A520
                    replace H := Option.bind_eq_some_iff.mp H
                    obtain ⟨⟨t308, t309⟩, A530, H⟩ := H
                    replace H : (if t308 < 0 then (laws_FnExactImproveRenaming.j1 kj16 l0 l1 l2 t272 t273 t274 t286 true) else ((laws_eqIntS.f kj16 t286 t272).bind fun t310 => (if t310 = true then (if t287 = t273 then (laws_FnExactImproveRenaming.j1 kj16 l0 l1 l2 t272 t273 t274 t286 (t288 != t274)) else (laws_FnExactImproveRenaming.j1 kj16 l0 l1 l2 t272 t273 t274 t286 true)) else (laws_FnExactImproveRenaming.j1 kj16 l0 l1 l2 t272 t273 t274 t286 true)))) = some r := H
                    have A53 := Aside0.mk A530
                    clear A530
                    have HC54 := Aside0.mk H
                    clear H
                    go_upto_region 27 with (first | ((with_reducible refine gate_callee (f := 26) rfl ?_); refine goesL_ (some 77) rfl rfl Try.func26 (by kernel_rfl) rfl #[.slice A0 l0.length c0] rfl (by (try simp only [List.map_toArray, List.map_cons, List.map_nil]); first | done | rfl | (simp only [List.length_drop, List.length_take]; rfl)) ?_; (with_reducible refine (laws_toLegS.calls kj16 _ _ l0 t292 _ ?side1 ?side2 A42.out).mono ?_); (case side1 => repeat (first | exact (Kd.C_below HR0.out HB.out) | (with_reducible refine Kd.C_alloc ?_ _) | (with_reducible refine Kd.C_drewN ?_ _) | (with_reducible refine Kd.C_drew ?_))); (case side2 => exact HC0.out); rintro e w55 ⟨v293, rfl, ho0, hb⟩; refine ⟨_, rfl, ?_⟩; have n0_ := Aside0.mk (Kd.R_below (by (with_reducible repeat (first | apply Kd.R_alloc | apply Kd.R_drewN | apply Kd.R_drew)); exact HO_8.out) hb); have n1_ := Aside0.mk (Kd.R_elder' (by (with_reducible repeat (first | apply Kd.R_alloc | apply Kd.R_drewN | apply Kd.R_drew)); exact HO_11.out) (Kd.R_base ho0) hb); have n2_ := Aside0.mk (Kd.R_elder' (by (with_reducible repeat (first | apply Kd.R_alloc | apply Kd.R_drewN | apply Kd.R_drew)); exact HO_12.out) (Kd.R_base ho0) hb); have n3_ := Aside0.mk (Kd.R_below (by (with_reducible repeat (first | apply Kd.R_alloc | apply Kd.R_drewN | apply Kd.R_drew)); exact HO_13.out) hb); have n4_ := Aside0.mk (Kd.R_below (by (with_reducible repeat (first | apply Kd.R_alloc | apply Kd.R_drewN | apply Kd.R_drew)); exact HO_14.out) hb); have n5_ := Aside0.mk (Kd.R_lower (Kd.R_new' (Kd.R_new' ho0 (Kd.R_lt (by (with_reducible repeat (first | apply Kd.R_alloc | apply Kd.R_drewN | apply Kd.R_drew)); exact HO_11.out))) (Kd.R_lt (by (with_reducible repeat (first | apply Kd.R_alloc | apply Kd.R_drewN | apply Kd.R_drew)); exact HO_12.out))) (below_size (by repeat (first | (with_reducible first | exact HB.out | apply below_alloc | apply pw_below_drewN | apply below_drew1) | exact HB.out)))); have n6_ := Aside0.mk (below_step (by repeat (first | (with_reducible first | exact HB.out | apply below_alloc | apply pw_below_drewN | apply below_drew1) | exact HB.out)) hb); clear HO_8; clear HO_11; clear HO_12; clear HO_13; clear HO_14; clear HB; have HO_8 := n0_; have HO_11 := n1_; have HO_12 := n2_; have HO_13 := n3_; have HO_14 := n4_; have HO294 := n5_; have HB := n6_; clear n0_ n1_ n2_ n3_ n4_ n5_ n6_; (try clear hb); (try clear hb2); (try clear hk); (try clear hi); (try clear ho0); obtain ⟨Ao56, co56, eo56⟩ := Kd.R_slice HO294.out; subst eo56) | ((with_reducible refine gate_callee (f := 29) rfl ?_); refine goesL_ (some 78) rfl rfl Try.func29 (by kernel_rfl) rfl #[.slice Ao28 t277.length co28, .slice Ao56 t292.length co56] rfl (by (try simp only [List.map_toArray, List.map_cons, List.map_nil]); first | done | rfl | (simp only [List.length_drop, List.length_take]; rfl)) ?_; (with_reducible refine (laws_eqLegS.calls kj16 _ _ t277 _ _ t292 true _ ?side1 ?side2 ?side3 ?side4 A43.out).mono ?_); (case side1 => repeat (first | exact (Kd.R_reads' HO_11.out).2.2 | (with_reducible refine Kd.C_alloc ?_ _) | (with_reducible refine Kd.C_drewN ?_ _) | (with_reducible refine Kd.C_drew ?_))); (case side2 => exact (Kd.R_reads' HO_11.out).2.1); (case side3 => repeat (first | exact (Kd.R_reads' HO294.out).2.2 | (with_reducible refine Kd.C_alloc ?_ _) | (with_reducible refine Kd.C_drewN ?_ _) | (with_reducible refine Kd.C_drew ?_))); (case side4 => exact (Kd.R_reads' HO294.out).2.1); rintro e w57 ⟨rfl, hb⟩; refine ⟨_, rfl, ?_⟩; have n0_ := Aside0.mk (Kd.R_below (by (with_reducible repeat (first | apply Kd.R_alloc | apply Kd.R_drewN | apply Kd.R_drew)); exact HO_8.out) hb); have n1_ := Aside0.mk (Kd.R_below (by (with_reducible repeat (first | apply Kd.R_alloc | apply Kd.R_drewN | apply Kd.R_drew)); exact HO_11.out) hb); have n2_ := Aside0.mk (Kd.R_below (by (with_reducible repeat (first | apply Kd.R_alloc | apply Kd.R_drewN | apply Kd.R_drew)); exact HO_12.out) hb); have n3_ := Aside0.mk (Kd.R_below (by (with_reducible repeat (first | apply Kd.R_alloc | apply Kd.R_drewN | apply Kd.R_drew)); exact HO_13.out) hb); have n4_ := Aside0.mk (Kd.R_below (by (with_reducible repeat (first | apply Kd.R_alloc | apply Kd.R_drewN | apply Kd.R_drew)); exact HO_14.out) hb); have n5_ := Aside0.mk (Kd.R_below (by (with_reducible repeat (first | apply Kd.R_alloc | apply Kd.R_drewN | apply Kd.R_drew)); exact HO294.out) hb); have n6_ := Aside0.mk (below_step (by repeat (first | (with_reducible first | exact HB.out | apply below_alloc | apply pw_below_drewN | apply below_drew1) | exact HB.out)) hb); clear HO_8; clear HO_11; clear HO_12; clear HO_13; clear HO_14; clear HO294; clear HB; have HO_8 := n0_; have HO_11 := n1_; have HO_12 := n2_; have HO_13 := n3_; have HO_14 := n4_; have HO294 := n5_; have HB := n6_; clear n0_ n1_ n2_ n3_ n4_ n5_ n6_; (try clear hb); (try clear hb2); (try clear hk); (try clear hi)) | ((with_reducible refine gate_callee (f := 26) rfl ?_); refine goesL_ (some 82) rfl rfl Try.func26 (by kernel_rfl) rfl #[.slice A1 l1.length c1] rfl (by (try simp only [List.map_toArray, List.map_cons, List.map_nil]); first | done | rfl | (simp only [List.length_drop, List.length_take]; rfl)) ?_; (with_reducible refine (laws_toLegS.calls kj16 _ _ l1 t296 _ ?side1 ?side2 A45.out).mono ?_); (case side1 => repeat (first | exact (Kd.C_below HR1.out HB.out) | (with_reducible refine Kd.C_alloc ?_ _) | (with_reducible refine Kd.C_drewN ?_ _) | (with_reducible refine Kd.C_drew ?_))); (case side2 => exact HC1.out); rintro e w58 ⟨v297, rfl, ho0, hb⟩; refine ⟨_, rfl, ?_⟩; have n0_ := Aside0.mk (Kd.R_below (by (with_reducible repeat (first | apply Kd.R_alloc | apply Kd.R_drewN | apply Kd.R_drew)); exact HO_8.out) hb); have n1_ := Aside0.mk (Kd.R_elder' (by (with_reducible repeat (first | apply Kd.R_alloc | apply Kd.R_drewN | apply Kd.R_drew)); exact HO_11.out) (Kd.R_base ho0) hb); have n2_ := Aside0.mk (Kd.R_elder' (by (with_reducible repeat (first | apply Kd.R_alloc | apply Kd.R_drewN | apply Kd.R_drew)); exact HO_12.out) (Kd.R_base ho0) hb); have n3_ := Aside0.mk (Kd.R_below (by (with_reducible repeat (first | apply Kd.R_alloc | apply Kd.R_drewN | apply Kd.R_drew)); exact HO_13.out) hb); have n4_ := Aside0.mk (Kd.R_below (by (with_reducible repeat (first | apply Kd.R_alloc | apply Kd.R_drewN | apply Kd.R_drew)); exact HO_14.out) hb); have n5_ := Aside0.mk (Kd.R_elder' (by (with_reducible repeat (first | apply Kd.R_alloc | apply Kd.R_drewN | apply Kd.R_drew)); exact HO294.out) (Kd.R_base ho0) hb); have n6_ := Aside0.mk (Kd.R_lower (Kd.R_new' (Kd.R_new' (Kd.R_new' ho0 (Kd.R_lt (by (with_reducible repeat (first | apply Kd.R_alloc | apply Kd.R_drewN | apply Kd.R_drew)); exact HO_11.out))) (Kd.R_lt (by (with_reducible repeat (first | apply Kd.R_alloc | apply Kd.R_drewN | apply Kd.R_drew)); exact HO_12.out))) (Kd.R_lt (by (with_reducible repeat (first | apply Kd.R_alloc | apply Kd.R_drewN | apply Kd.R_drew)); exact HO294.out))) (below_size (by repeat (first | (with_reducible first | exact HB.out | apply below_alloc | apply pw_below_drewN | apply below_drew1) | exact HB.out)))); have n7_ := Aside0.mk (below_step (by repeat (first | (with_reducible first | exact HB.out | apply below_alloc | apply pw_below_drewN | apply below_drew1) | exact HB.out)) hb); clear HO_8; clear HO_11; clear HO_12; clear HO_13; clear HO_14; clear HO294; clear HB; have HO_8 := n0_; have HO_11 := n1_; have HO_12 := n2_; have HO_13 := n3_; have HO_14 := n4_; have HO294 := n5_; have HO298 := n6_; have HB := n7_; clear n0_ n1_ n2_ n3_ n4_ n5_ n6_ n7_; (try clear hb); (try clear hb2); (try clear hk); (try clear hi); (try clear ho0); obtain ⟨Ao59, co59, eo59⟩ := Kd.R_slice HO298.out; subst eo59) | ((with_reducible refine gate_callee (f := 29) rfl ?_); refine goesL_ (some 83) rfl rfl Try.func29 (by kernel_rfl) rfl #[.slice Ao29 t280.length co29, .slice Ao59 t296.length co59] rfl (by (try simp only [List.map_toArray, List.map_cons, List.map_nil]); first | done | rfl | (simp only [List.length_drop, List.length_take]; rfl)) ?_; (with_reducible refine (laws_eqLegS.calls kj16 _ _ t280 _ _ t296 true _ ?side1 ?side2 ?side3 ?side4 A46.out).mono ?_); (case side1 => repeat (first | exact (Kd.R_reads' HO_12.out).2.2 | (with_reducible refine Kd.C_alloc ?_ _) | (with_reducible refine Kd.C_drewN ?_ _) | (with_reducible refine Kd.C_drew ?_))); (case side2 => exact (Kd.R_reads' HO_12.out).2.1); (case side3 => repeat (first | exact (Kd.R_reads' HO298.out).2.2 | (with_reducible refine Kd.C_alloc ?_ _) | (with_reducible refine Kd.C_drewN ?_ _) | (with_reducible refine Kd.C_drew ?_))); (case side4 => exact (Kd.R_reads' HO298.out).2.1); rintro e w60 ⟨rfl, hb⟩; refine ⟨_, rfl, ?_⟩; have n0_ := Aside0.mk (Kd.R_below (by (with_reducible repeat (first | apply Kd.R_alloc | apply Kd.R_drewN | apply Kd.R_drew)); exact HO_8.out) hb); have n1_ := Aside0.mk (Kd.R_below (by (with_reducible repeat (first | apply Kd.R_alloc | apply Kd.R_drewN | apply Kd.R_drew)); exact HO_11.out) hb); have n2_ := Aside0.mk (Kd.R_below (by (with_reducible repeat (first | apply Kd.R_alloc | apply Kd.R_drewN | apply Kd.R_drew)); exact HO_12.out) hb); have n3_ := Aside0.mk (Kd.R_below (by (with_reducible repeat (first | apply Kd.R_alloc | apply Kd.R_drewN | apply Kd.R_drew)); exact HO_13.out) hb); have n4_ := Aside0.mk (Kd.R_below (by (with_reducible repeat (first | apply Kd.R_alloc | apply Kd.R_drewN | apply Kd.R_drew)); exact HO_14.out) hb); have n5_ := Aside0.mk (Kd.R_below (by (with_reducible repeat (first | apply Kd.R_alloc | apply Kd.R_drewN | apply Kd.R_drew)); exact HO294.out) hb); have n6_ := Aside0.mk (Kd.R_below (by (with_reducible repeat (first | apply Kd.R_alloc | apply Kd.R_drewN | apply Kd.R_drew)); exact HO298.out) hb); have n7_ := Aside0.mk (below_step (by repeat (first | (with_reducible first | exact HB.out | apply below_alloc | apply pw_below_drewN | apply below_drew1) | exact HB.out)) hb); clear HO_8; clear HO_11; clear HO_12; clear HO_13; clear HO_14; clear HO294; clear HO298; clear HB; have HO_8 := n0_; have HO_11 := n1_; have HO_12 := n2_; have HO_13 := n3_; have HO_14 := n4_; have HO294 := n5_; have HO298 := n6_; have HB := n7_; clear n0_ n1_ n2_ n3_ n4_ n5_ n6_ n7_; (try clear hb); (try clear hb2); (try clear hk); (try clear hi)) | ((with_reducible refine gate_callee (f := 15) rfl ?_); refine goesL_ (some 87) rfl rfl Try.func15 (by kernel_rfl) rfl #[.slice A2 l2.length c2] rfl (by (try simp only [List.map_toArray, List.map_cons, List.map_nil]); first | done | rfl | (simp only [List.length_drop, List.length_take]; rfl)) ?_; (with_reducible refine (laws_toIntS.calls kj16 _ _ l2 t300 _ ?side1 ?side2 A48.out).mono ?_); (case side1 => repeat (first | exact (Kd.C_below HR2.out HB.out) | (with_reducible refine Kd.C_alloc ?_ _) | (with_reducible refine Kd.C_drewN ?_ _) | (with_reducible refine Kd.C_drew ?_))); (case side2 => exact HC2.out); rintro e w61 ⟨v301, rfl, ho0, hb⟩; refine ⟨_, rfl, ?_⟩; have n0_ := Aside0.mk (Kd.R_elder' (by (with_reducible repeat (first | apply Kd.R_alloc | apply Kd.R_drewN | apply Kd.R_drew)); exact HO_8.out) (Kd.R_base ho0) hb); have n1_ := Aside0.mk (Kd.R_below (by (with_reducible repeat (first | apply Kd.R_alloc | apply Kd.R_drewN | apply Kd.R_drew)); exact HO_11.out) hb); have n2_ := Aside0.mk (Kd.R_below (by (with_reducible repeat (first | apply Kd.R_alloc | apply Kd.R_drewN | apply Kd.R_drew)); exact HO_12.out) hb); have n3_ := Aside0.mk (Kd.R_elder' (by (with_reducible repeat (first | apply Kd.R_alloc | apply Kd.R_drewN | apply Kd.R_drew)); exact HO_13.out) (Kd.R_base ho0) hb); have n4_ := Aside0.mk (Kd.R_elder' (by (with_reducible repeat (first | apply Kd.R_alloc | apply Kd.R_drewN | apply Kd.R_drew)); exact HO_14.out) (Kd.R_base ho0) hb); have n5_ := Aside0.mk (Kd.R_below (by (with_reducible repeat (first | apply Kd.R_alloc | apply Kd.R_drewN | apply Kd.R_drew)); exact HO294.out) hb); have n6_ := Aside0.mk (Kd.R_below (by (with_reducible repeat (first | apply Kd.R_alloc | apply Kd.R_drewN | apply Kd.R_drew)); exact HO298.out) hb); have n7_ := Aside0.mk (Kd.R_lower (Kd.R_new' (Kd.R_new' (Kd.R_new' ho0 (Kd.R_lt (by (with_reducible repeat (first | apply Kd.R_alloc | apply Kd.R_drewN | apply Kd.R_drew)); exact HO_8.out))) (Kd.R_lt (by (with_reducible repeat (first | apply Kd.R_alloc | apply Kd.R_drewN | apply Kd.R_drew)); exact HO_13.out))) (Kd.R_lt (by (with_reducible repeat (first | apply Kd.R_alloc | apply Kd.R_drewN | apply Kd.R_drew)); exact HO_14.out))) (below_size (by repeat (first | (with_reducible first | exact HB.out | apply below_alloc | apply pw_below_drewN | apply below_drew1) | exact HB.out)))); have n8_ := Aside0.mk (below_step (by repeat (first | (with_reducible first | exact HB.out | apply below_alloc | apply pw_below_drewN | apply below_drew1) | exact HB.out)) hb); clear HO_8; clear HO_11; clear HO_12; clear HO_13; clear HO_14; clear HO294; clear HO298; clear HB; have HO_8 := n0_; have HO_11 := n1_; have HO_12 := n2_; have HO_13 := n3_; have HO_14 := n4_; have HO294 := n5_; have HO298 := n6_; have HO302 := n7_; have HB := n8_; clear n0_ n1_ n2_ n3_ n4_ n5_ n6_ n7_ n8_; (try clear hb); (try clear hb2); (try clear hk); (try clear hi); (try clear ho0); obtain ⟨Ao62, co62, eo62⟩ := Kd.R_slice HO302.out; subst eo62) | ((with_reducible refine gate_callee (f := 17) rfl ?_); refine goesL_ (some 88) rfl rfl Try.func17 (by kernel_rfl) rfl #[.slice Ao30 t283.length co30, .slice Ao62 t300.length co62] rfl (by (try simp only [List.map_toArray, List.map_cons, List.map_nil]); first | done | rfl | (simp only [List.length_drop, List.length_take]; rfl)) ?_; (with_reducible refine (laws_eqIntS.calls kj16 _ _ t283 _ _ t300 true _ ?side1 ?side2 ?side3 ?side4 A49.out).mono ?_); (case side1 => repeat (first | exact (Kd.R_reads' HO_13.out).2.2 | (with_reducible refine Kd.C_alloc ?_ _) | (with_reducible refine Kd.C_drewN ?_ _) | (with_reducible refine Kd.C_drew ?_))); (case side2 => exact (Kd.R_reads' HO_13.out).2.1); (case side3 => repeat (first | exact (Kd.R_reads' HO302.out).2.2 | (with_reducible refine Kd.C_alloc ?_ _) | (with_reducible refine Kd.C_drewN ?_ _) | (with_reducible refine Kd.C_drew ?_))); (case side4 => exact (Kd.R_reads' HO302.out).2.1); rintro e w' ⟨rfl, ⟨nd, rfl⟩⟩; refine ⟨_, rfl, ?_⟩) | ((with_reducible refine gate_callee (f := 30) rfl ?_); refine goesL_ (some 92) rfl rfl Try.func30 (by kernel_rfl) rfl #[.slice Ao28 t277.length co28, .int .i64 1] rfl (by (try simp only [List.map_toArray, List.map_cons, List.map_nil]); first | done | rfl | (simp only [List.length_drop, List.length_take]; rfl)) ?_; (with_reducible refine (laws_markLegS.calls kj16 (fun k_ => some k_ = (.slice Ao28 t277.length co28 : Value).ownBlock) (.slice Ao28 t277.length co28) t277 1 t304 t305 w _ ?side1 ?side2 A51.out).mono ?_); (case side1 => repeat (first | (with_reducible first | exact HB.out | apply below_alloc | apply pw_below_drewN | apply below_drew1) | exact HB.out)); (case side2 => exact Kd.R_tight rfl HO_11.out); rintro e w63 ⟨rfl, hy0, hb, hkp⟩; refine ⟨_, rfl, ?_⟩; have n0_ := Aside0.mk (Kd.R_mono (ok' := fun k_ => some k_ ≠ (.slice Ao30 t283.length co30 : Value).ownBlock ∧ some k_ ≠ (v289 : Value).ownBlock ∧ some k_ ≠ (.slice Ao62 t300.length co62 : Value).ownBlock) (Kd.R_keptB ((Kd.R_apart' HO_8.out (Kd.R_typed HO_11.out) (by decide))) hkp (fun k_ hk_ hs_ => (hk_.2) hs_)) (fun k_ hk_ => ⟨hk_.1.1.1.1, hk_.1.1.1.2, hk_.1.1.2⟩)); have n1_ := Aside0.mk (Kd.R_reok rfl hy0 (fun k_ e_ => HO_11.out.1 k_ e_)); have n2_ := Aside0.mk (Kd.R_mono (ok' := fun k_ => some k_ ≠ (.slice Ao28 t277.length co28 : Value).ownBlock ∧ some k_ ≠ (.slice Ao56 t292.length co56 : Value).ownBlock ∧ some k_ ≠ (.slice Ao59 t296.length co59 : Value).ownBlock) (Kd.R_keptB (HO_12.out) hkp (fun k_ hk_ hs_ => (hk_.1.1) hs_)) (fun k_ hk_ => ⟨hk_.1.1.1, hk_.1.1.2, hk_.1.2⟩)); have n3_ := Aside0.mk (Kd.R_mono (ok' := fun k_ => some k_ ≠ (v275 : Value).ownBlock ∧ some k_ ≠ (v289 : Value).ownBlock ∧ some k_ ≠ (.slice Ao62 t300.length co62 : Value).ownBlock) (Kd.R_keptB ((Kd.R_apart' HO_13.out (Kd.R_typed HO_11.out) (by decide))) hkp (fun k_ hk_ hs_ => (hk_.2) hs_)) (fun k_ hk_ => ⟨hk_.1.1.1.1, hk_.1.1.1.2, hk_.1.1.2⟩)); have n4_ := Aside0.mk (Kd.R_mono (ok' := fun k_ => some k_ ≠ (v275 : Value).ownBlock ∧ some k_ ≠ (.slice Ao30 t283.length co30 : Value).ownBlock ∧ some k_ ≠ (.slice Ao62 t300.length co62 : Value).ownBlock) (Kd.R_keptB ((Kd.R_apart' HO_14.out (Kd.R_typed HO_11.out) (by decide))) hkp (fun k_ hk_ hs_ => (hk_.2) hs_)) (fun k_ hk_ => ⟨hk_.1.1.1.1, hk_.1.1.1.2, hk_.1.1.2⟩)); have n5_ := Aside0.mk (Kd.R_mono (ok' := fun k_ => some k_ ≠ (.slice Ao28 t277.length co28 : Value).ownBlock ∧ some k_ ≠ (.slice Ao29 t280.length co29 : Value).ownBlock ∧ some k_ ≠ (.slice Ao59 t296.length co59 : Value).ownBlock) (Kd.R_keptB (HO294.out) hkp (fun k_ hk_ hs_ => (hk_.1.1.2) hs_)) (fun k_ hk_ => ⟨hk_.1.1.1.2, hk_.1.1.2, hk_.1.2⟩)); have n6_ := Aside0.mk (Kd.R_mono (ok' := fun k_ => some k_ ≠ (.slice Ao28 t277.length co28 : Value).ownBlock ∧ some k_ ≠ (.slice Ao29 t280.length co29 : Value).ownBlock ∧ some k_ ≠ (.slice Ao56 t292.length co56 : Value).ownBlock) (Kd.R_keptB (HO298.out) hkp (fun k_ hk_ hs_ => (hk_.1.1.2) hs_)) (fun k_ hk_ => ⟨hk_.1.1.1.2, hk_.1.1.2, hk_.1.2⟩)); have n7_ := Aside0.mk (Kd.R_mono (ok' := fun k_ => some k_ ≠ (v275 : Value).ownBlock ∧ some k_ ≠ (.slice Ao30 t283.length co30 : Value).ownBlock ∧ some k_ ≠ (v289 : Value).ownBlock) (Kd.R_keptB ((Kd.R_apart' HO302.out (Kd.R_typed HO_11.out) (by decide))) hkp (fun k_ hk_ hs_ => (hk_.2) hs_)) (fun k_ hk_ => ⟨hk_.1.1.1.1.2, hk_.1.1.1.2, hk_.1.1.2⟩)); have n8_ := Aside0.mk (hb); clear HO_8; clear HO_11; clear HO_12; clear HO_13; clear HO_14; clear HO294; clear HO298; clear HO302; clear HB; have HO_8 := n0_; have HO_11 := n1_; have HO_12 := n2_; have HO_13 := n3_; have HO_14 := n4_; have HO294 := n5_; have HO298 := n6_; have HO302 := n7_; have HB := n8_; clear n0_ n1_ n2_ n3_ n4_ n5_ n6_ n7_ n8_; (try clear hb); (try clear hkp); (try clear hy0)) | ((with_reducible refine gate_callee (f := 30) rfl ?_); refine goesL_ (some 95) rfl rfl Try.func30 (by kernel_rfl) rfl #[.slice Ao29 t280.length co29, .int .i64 t304] rfl (by (try simp only [List.map_toArray, List.map_cons, List.map_nil]); first | done | rfl | (simp only [List.length_drop, List.length_take]; rfl)) ?_; (with_reducible refine (laws_markLegS.calls kj16 (fun k_ => some k_ = (.slice Ao29 t280.length co29 : Value).ownBlock) (.slice Ao29 t280.length co29) t280 t304 t306 t307 w _ ?side1 ?side2 A52.out).mono ?_); (case side1 => repeat (first | (with_reducible first | exact HB.out | apply below_alloc | apply pw_below_drewN | apply below_drew1) | exact HB.out)); (case side2 => exact Kd.R_tight rfl HO_12.out); rintro e w64 ⟨rfl, hy0, hb, hkp⟩; refine ⟨_, rfl, ?_⟩; have n0_ := Aside0.mk (Kd.R_mono (ok' := fun k_ => some k_ ≠ (.slice Ao30 t283.length co30 : Value).ownBlock ∧ some k_ ≠ (v289 : Value).ownBlock ∧ some k_ ≠ (.slice Ao62 t300.length co62 : Value).ownBlock) (Kd.R_keptB ((Kd.R_apart' HO_8.out (Kd.R_typed HO_12.out) (by decide))) hkp (fun k_ hk_ hs_ => (hk_.2) hs_)) (fun k_ hk_ => ⟨hk_.1.1.1, hk_.1.1.2.1, hk_.1.1.2.2⟩)); have n1_ := Aside0.mk (Kd.R_mono (ok' := fun k_ => some k_ ≠ (.slice Ao29 t280.length co29 : Value).ownBlock ∧ some k_ ≠ (.slice Ao56 t292.length co56 : Value).ownBlock ∧ some k_ ≠ (.slice Ao59 t296.length co59 : Value).ownBlock) (Kd.R_keptB (HO_11.out) hkp (fun k_ hk_ hs_ => (hk_.1.1) hs_)) (fun k_ hk_ => ⟨hk_.1.1.1, hk_.1.1.2, hk_.1.2⟩)); have n2_ := Aside0.mk (Kd.R_reok rfl hy0 (fun k_ e_ => HO_12.out.1 k_ e_)); have n3_ := Aside0.mk (Kd.R_mono (ok' := fun k_ => some k_ ≠ (v275 : Value).ownBlock ∧ some k_ ≠ (v289 : Value).ownBlock ∧ some k_ ≠ (.slice Ao62 t300.length co62 : Value).ownBlock) (Kd.R_keptB ((Kd.R_apart' HO_13.out (Kd.R_typed HO_12.out) (by decide))) hkp (fun k_ hk_ hs_ => (hk_.2) hs_)) (fun k_ hk_ => ⟨hk_.1.1.1, hk_.1.1.2.1, hk_.1.1.2.2⟩)); have n4_ := Aside0.mk (Kd.R_mono (ok' := fun k_ => some k_ ≠ (v275 : Value).ownBlock ∧ some k_ ≠ (.slice Ao30 t283.length co30 : Value).ownBlock ∧ some k_ ≠ (.slice Ao62 t300.length co62 : Value).ownBlock) (Kd.R_keptB ((Kd.R_apart' HO_14.out (Kd.R_typed HO_12.out) (by decide))) hkp (fun k_ hk_ hs_ => (hk_.2) hs_)) (fun k_ hk_ => ⟨hk_.1.1.1, hk_.1.1.2.1, hk_.1.1.2.2⟩)); have n5_ := Aside0.mk (Kd.R_mono (ok' := fun k_ => some k_ ≠ (.slice Ao28 t277.length co28 : Value).ownBlock ∧ some k_ ≠ (.slice Ao29 t280.length co29 : Value).ownBlock ∧ some k_ ≠ (.slice Ao59 t296.length co59 : Value).ownBlock) (Kd.R_keptB (HO294.out) hkp (fun k_ hk_ hs_ => (hk_.2.1) hs_)) (fun k_ hk_ => ⟨hk_.1.1, hk_.1.2.1, hk_.1.2.2⟩)); have n6_ := Aside0.mk (Kd.R_mono (ok' := fun k_ => some k_ ≠ (.slice Ao28 t277.length co28 : Value).ownBlock ∧ some k_ ≠ (.slice Ao29 t280.length co29 : Value).ownBlock ∧ some k_ ≠ (.slice Ao56 t292.length co56 : Value).ownBlock) (Kd.R_keptB (HO298.out) hkp (fun k_ hk_ hs_ => (hk_.2.1) hs_)) (fun k_ hk_ => ⟨hk_.1.1, hk_.1.2.1, hk_.1.2.2⟩)); have n7_ := Aside0.mk (Kd.R_mono (ok' := fun k_ => some k_ ≠ (v275 : Value).ownBlock ∧ some k_ ≠ (.slice Ao30 t283.length co30 : Value).ownBlock ∧ some k_ ≠ (v289 : Value).ownBlock) (Kd.R_keptB ((Kd.R_apart' HO302.out (Kd.R_typed HO_12.out) (by decide))) hkp (fun k_ hk_ hs_ => (hk_.2) hs_)) (fun k_ hk_ => ⟨hk_.1.1.1, hk_.1.1.2.1, hk_.1.1.2.2⟩)); have n8_ := Aside0.mk (hb); clear HO_8; clear HO_11; clear HO_12; clear HO_13; clear HO_14; clear HO294; clear HO298; clear HO302; clear HB; have HO_8 := n0_; have HO_11 := n1_; have HO_12 := n2_; have HO_13 := n3_; have HO_14 := n4_; have HO294 := n5_; have HO298 := n6_; have HO302 := n7_; have HB := n8_; clear n0_ n1_ n2_ n3_ n4_ n5_ n6_ n7_ n8_; (try clear hb); (try clear hkp); (try clear hy0)) | ((with_reducible refine gate_callee (f := 20) rfl ?_); refine goesL_ (some 98) rfl rfl Try.func20 (by kernel_rfl) rfl #[.slice Ao30 t283.length co30, .int .i64 t306] rfl (by (try simp only [List.map_toArray, List.map_cons, List.map_nil]); first | done | rfl | (simp only [List.length_drop, List.length_take]; rfl)) ?_; (with_reducible refine (laws_markIntS.calls kj16 (fun k_ => some k_ = (.slice Ao30 t283.length co30 : Value).ownBlock) (.slice Ao30 t283.length co30) t283 t306 t308 t309 w _ ?side1 ?side2 A53.out).mono ?_); (case side1 => repeat (first | (with_reducible first | exact HB.out | apply below_alloc | apply pw_below_drewN | apply below_drew1) | exact HB.out)); (case side2 => exact Kd.R_tight rfl HO_13.out); rintro e w65 ⟨rfl, hy0, hb, hkp⟩; refine ⟨_, rfl, ?_⟩; have n0_ := Aside0.mk (Kd.R_mono (ok' := fun k_ => some k_ ≠ (.slice Ao30 t283.length co30 : Value).ownBlock ∧ some k_ ≠ (v289 : Value).ownBlock ∧ some k_ ≠ (.slice Ao62 t300.length co62 : Value).ownBlock) (Kd.R_keptB (HO_8.out) hkp (fun k_ hk_ hs_ => (hk_.1) hs_)) (fun k_ hk_ => ⟨hk_.1.1, hk_.1.2.1, hk_.1.2.2⟩)); have n1_ := Aside0.mk (Kd.R_mono (ok' := fun k_ => some k_ ≠ (.slice Ao29 t280.length co29 : Value).ownBlock ∧ some k_ ≠ (.slice Ao56 t292.length co56 : Value).ownBlock ∧ some k_ ≠ (.slice Ao59 t296.length co59 : Value).ownBlock) (Kd.R_keptB ((Kd.R_apart' HO_11.out (Kd.R_typed HO_13.out) (by decide))) hkp (fun k_ hk_ hs_ => (hk_.2) hs_)) (fun k_ hk_ => ⟨hk_.1.1.1, hk_.1.1.2.1, hk_.1.1.2.2⟩)); have n2_ := Aside0.mk (Kd.R_mono (ok' := fun k_ => some k_ ≠ (.slice Ao28 t277.length co28 : Value).ownBlock ∧ some k_ ≠ (.slice Ao56 t292.length co56 : Value).ownBlock ∧ some k_ ≠ (.slice Ao59 t296.length co59 : Value).ownBlock) (Kd.R_keptB ((Kd.R_apart' HO_12.out (Kd.R_typed HO_13.out) (by decide))) hkp (fun k_ hk_ hs_ => (hk_.2) hs_)) (fun k_ hk_ => ⟨hk_.1.1.1, hk_.1.1.2.1, hk_.1.1.2.2⟩)); have n3_ := Aside0.mk (Kd.R_reok rfl hy0 (fun k_ e_ => HO_13.out.1 k_ e_)); have n4_ := Aside0.mk (Kd.R_mono (ok' := fun k_ => some k_ ≠ (v275 : Value).ownBlock ∧ some k_ ≠ (.slice Ao30 t283.length co30 : Value).ownBlock ∧ some k_ ≠ (.slice Ao62 t300.length co62 : Value).ownBlock) (Kd.R_keptB (HO_14.out) hkp (fun k_ hk_ hs_ => (hk_.2.1) hs_)) (fun k_ hk_ => ⟨hk_.1.1, hk_.1.2.1, hk_.1.2.2⟩)); have n5_ := Aside0.mk (Kd.R_mono (ok' := fun k_ => some k_ ≠ (.slice Ao28 t277.length co28 : Value).ownBlock ∧ some k_ ≠ (.slice Ao29 t280.length co29 : Value).ownBlock ∧ some k_ ≠ (.slice Ao59 t296.length co59 : Value).ownBlock) (Kd.R_keptB ((Kd.R_apart' HO294.out (Kd.R_typed HO_13.out) (by decide))) hkp (fun k_ hk_ hs_ => (hk_.2) hs_)) (fun k_ hk_ => ⟨hk_.1.1.1, hk_.1.1.2.1, hk_.1.1.2.2⟩)); have n6_ := Aside0.mk (Kd.R_mono (ok' := fun k_ => some k_ ≠ (.slice Ao28 t277.length co28 : Value).ownBlock ∧ some k_ ≠ (.slice Ao29 t280.length co29 : Value).ownBlock ∧ some k_ ≠ (.slice Ao56 t292.length co56 : Value).ownBlock) (Kd.R_keptB ((Kd.R_apart' HO298.out (Kd.R_typed HO_13.out) (by decide))) hkp (fun k_ hk_ hs_ => (hk_.2) hs_)) (fun k_ hk_ => ⟨hk_.1.1.1, hk_.1.1.2.1, hk_.1.1.2.2⟩)); have n7_ := Aside0.mk (Kd.R_mono (ok' := fun k_ => some k_ ≠ (v275 : Value).ownBlock ∧ some k_ ≠ (.slice Ao30 t283.length co30 : Value).ownBlock ∧ some k_ ≠ (v289 : Value).ownBlock) (Kd.R_keptB (HO302.out) hkp (fun k_ hk_ hs_ => (hk_.2.1) hs_)) (fun k_ hk_ => ⟨hk_.1.1, hk_.1.2.1, hk_.1.2.2⟩)); have n8_ := Aside0.mk (hb); clear HO_8; clear HO_11; clear HO_12; clear HO_13; clear HO_14; clear HO294; clear HO298; clear HO302; clear HB; have HO_8 := n0_; have HO_11 := n1_; have HO_12 := n2_; have HO_13 := n3_; have HO_14 := n4_; have HO294 := n5_; have HO298 := n6_; have HO302 := n7_; have HB := n8_; clear n0_ n1_ n2_ n3_ n4_ n5_ n6_ n7_ n8_; (try clear hb); (try clear hkp); (try clear hy0)))
                    (try simp only [Act.put, List.setIfInBounds_toArray, List.set_cons_zero, List.set_cons_succ])
                    go_cut [116] (fun v116 wc => ∃ (kq : Nat) (x116_53 : Bool), v116 = .bool x116_53 ∧ Aside0 (laws_FnExactImproveRenaming.j1 kq l0 l1 l2 t272 t273 t274 t286 x116_53 = some r) ∧ Aside0 (kq ≤ kj16) ∧ Aside0 (Kd.R (Kd.int .i64) 3 wc w.heap.size (fun k_ => some k_ ≠ (v289 : Value).ownBlock) v275 t272) ∧ Aside0 (Kd.R (Kd.int .i64) 3 wc w.heap.size (fun k_ => some k_ ≠ (v275 : Value).ownBlock) v289 t286) ∧ Aside0 (Below w.heap.size w wc))
                    case first =>
                      have H := HC54.out
                      clear HC54
                      by_cases c66 : t308 < 0
                      · rw [if_pos c66] at H
                        have c66b0 : decide (t308 < 0) = true := decide_eq_true c66
                        clear c66
                        (first | rw [c66b0] | (simp only [i64_w, i32_w]; rw [c66b0]) | skip)
                        have H' := Aside0.mk H
                        clear H
                        go_wp2
                        go_meet
                        case rel => exact ⟨_, (true), (by first | rfl | (simp; done) | (simp [*]; done)), H', ⟨by have := HJ16.out; first | omega | exact Nat.le_refl _⟩, ⟨by (with_reducible repeat (first | apply Kd.R_alloc | apply Kd.R_drewN | apply Kd.R_drew)); exact Kd.R_mono HO_8.out (fun _ hk => hk.2.1)⟩, ⟨by (with_reducible repeat (first | apply Kd.R_alloc | apply Kd.R_drewN | apply Kd.R_drew)); exact Kd.R_mono HO_14.out (fun _ hk => hk.1)⟩, ⟨by repeat (first | (with_reducible first | exact HB.out | apply below_alloc | apply pw_below_drewN | apply below_drew1) | exact HB.out)⟩⟩
                      · rw [if_neg c66] at H
                        have c66b0 : decide (t308 < 0) = false := decide_eq_false c66
                        clear c66
                        (first | rw [c66b0] | (simp only [i64_w, i32_w]; rw [c66b0]) | skip)
                        replace H := Option.bind_eq_some_iff.mp H
                        obtain ⟨t310, A670, H⟩ := H
                        replace H : (if t310 = true then (if t287 = t273 then (laws_FnExactImproveRenaming.j1 kj16 l0 l1 l2 t272 t273 t274 t286 (t288 != t274)) else (laws_FnExactImproveRenaming.j1 kj16 l0 l1 l2 t272 t273 t274 t286 true)) else (laws_FnExactImproveRenaming.j1 kj16 l0 l1 l2 t272 t273 t274 t286 true)) = some r := H
                        have A67 := Aside0.mk A670
                        clear A670
                        by_cases c68 : t310 = true
                        · subst c68
                          have H1 : (if t287 = t273 then (laws_FnExactImproveRenaming.j1 kj16 l0 l1 l2 t272 t273 t274 t286 (t288 != t274)) else (laws_FnExactImproveRenaming.j1 kj16 l0 l1 l2 t272 t273 t274 t286 true)) = some r := by rw [if_pos rfl] at H; exact H
                          clear H
                          have H := H1
                          clear H1
                          by_cases c69 : t287 = t273
                          · rw [if_pos c69] at H
                            have c69b0 : (t287 == t273) = true := beq_iff_eq.mpr c69
                            have c69b1 : (t287 != t273) = false := bne_eq_false_iff_eq.mpr c69
                            clear c69
                            have H' := Aside0.mk H
                            clear H
                            obtain ⟨Ao70, co70, eo70⟩ := Kd.R_slice HO_14.out
                            subst eo70
                            obtain ⟨Ao71, co71, eo71⟩ := Kd.R_slice HO_8.out
                            subst eo71
                            go_wp2_with (first | (go_at_call 17; (with_reducible refine (laws_eqIntS.calls kj16 _ _ t286 _ _ t272 true _ ?side1 ?side2 ?side3 ?side4 A67.out).mono ?_); (case side1 => repeat (first | exact (Kd.R_reads' HO_14.out).2.2 | (with_reducible refine Kd.C_alloc ?_ _) | (with_reducible refine Kd.C_drewN ?_ _) | (with_reducible refine Kd.C_drew ?_))); (case side2 => exact (Kd.R_reads' HO_14.out).2.1); (case side3 => repeat (first | exact (Kd.R_reads' HO_8.out).2.2 | (with_reducible refine Kd.C_alloc ?_ _) | (with_reducible refine Kd.C_drewN ?_ _) | (with_reducible refine Kd.C_drew ?_))); (case side4 => exact (Kd.R_reads' HO_8.out).2.1); rintro e w' ⟨rfl, ⟨nd, rfl⟩⟩))
                            go_meet
                            case rel => exact ⟨_, ((t288 != t274)), (by first | rfl | (simp; done) | (simp [*]; done)), H', ⟨by have := HJ16.out; first | omega | exact Nat.le_refl _⟩, ⟨by (with_reducible repeat (first | apply Kd.R_alloc | apply Kd.R_drewN | apply Kd.R_drew)); exact Kd.R_mono HO_8.out (fun _ hk => hk.2.1)⟩, ⟨by (with_reducible repeat (first | apply Kd.R_alloc | apply Kd.R_drewN | apply Kd.R_drew)); exact Kd.R_mono HO_14.out (fun _ hk => hk.1)⟩, ⟨by repeat (first | (with_reducible first | exact HB.out | apply below_alloc | apply pw_below_drewN | apply below_drew1) | exact HB.out)⟩⟩
                          · rw [if_neg c69] at H
                            have c69b0 : (t287 == t273) = false := beq_eq_false_iff_ne.mpr c69
                            have c69b1 : (t287 != t273) = true := bne_iff_ne.mpr c69
                            have H' := Aside0.mk H
                            clear H
                            obtain ⟨Ao72, co72, eo72⟩ := Kd.R_slice HO_14.out
                            subst eo72
                            obtain ⟨Ao73, co73, eo73⟩ := Kd.R_slice HO_8.out
                            subst eo73
                            go_wp2_with (first | (go_at_call 17; (with_reducible refine (laws_eqIntS.calls kj16 _ _ t286 _ _ t272 true _ ?side1 ?side2 ?side3 ?side4 A67.out).mono ?_); (case side1 => repeat (first | exact (Kd.R_reads' HO_14.out).2.2 | (with_reducible refine Kd.C_alloc ?_ _) | (with_reducible refine Kd.C_drewN ?_ _) | (with_reducible refine Kd.C_drew ?_))); (case side2 => exact (Kd.R_reads' HO_14.out).2.1); (case side3 => repeat (first | exact (Kd.R_reads' HO_8.out).2.2 | (with_reducible refine Kd.C_alloc ?_ _) | (with_reducible refine Kd.C_drewN ?_ _) | (with_reducible refine Kd.C_drew ?_))); (case side4 => exact (Kd.R_reads' HO_8.out).2.1); rintro e w' ⟨rfl, ⟨nd, rfl⟩⟩))
                            go_meet
                            case rel => exact ⟨_, (true), (by first | rfl | (simp; done) | (simp [*]; done)), H', ⟨by have := HJ16.out; first | omega | exact Nat.le_refl _⟩, ⟨by (with_reducible repeat (first | apply Kd.R_alloc | apply Kd.R_drewN | apply Kd.R_drew)); exact Kd.R_mono HO_8.out (fun _ hk => hk.2.1)⟩, ⟨by (with_reducible repeat (first | apply Kd.R_alloc | apply Kd.R_drewN | apply Kd.R_drew)); exact Kd.R_mono HO_14.out (fun _ hk => hk.1)⟩, ⟨by repeat (first | (with_reducible first | exact HB.out | apply below_alloc | apply pw_below_drewN | apply below_drew1) | exact HB.out)⟩⟩
                        · replace c68 := Bool.eq_false_iff.mpr c68
                          subst c68
                          have H1 : (laws_FnExactImproveRenaming.j1 kj16 l0 l1 l2 t272 t273 t274 t286 true) = some r := by rw [if_neg (show ¬ (false = true) by decide)] at H; exact H
                          clear H
                          have H := H1
                          clear H1
                          have H' := Aside0.mk H
                          clear H
                          obtain ⟨Ao74, co74, eo74⟩ := Kd.R_slice HO_14.out
                          subst eo74
                          obtain ⟨Ao75, co75, eo75⟩ := Kd.R_slice HO_8.out
                          subst eo75
                          go_wp2_with (first | (go_at_call 17; (with_reducible refine (laws_eqIntS.calls kj16 _ _ t286 _ _ t272 false _ ?side1 ?side2 ?side3 ?side4 A67.out).mono ?_); (case side1 => repeat (first | exact (Kd.R_reads' HO_14.out).2.2 | (with_reducible refine Kd.C_alloc ?_ _) | (with_reducible refine Kd.C_drewN ?_ _) | (with_reducible refine Kd.C_drew ?_))); (case side2 => exact (Kd.R_reads' HO_14.out).2.1); (case side3 => repeat (first | exact (Kd.R_reads' HO_8.out).2.2 | (with_reducible refine Kd.C_alloc ?_ _) | (with_reducible refine Kd.C_drewN ?_ _) | (with_reducible refine Kd.C_drew ?_))); (case side4 => exact (Kd.R_reads' HO_8.out).2.1); rintro e w' ⟨rfl, ⟨nd, rfl⟩⟩))
                          go_meet
                          case rel => exact ⟨_, (true), (by first | rfl | (simp; done) | (simp [*]; done)), H', ⟨by have := HJ16.out; first | omega | exact Nat.le_refl _⟩, ⟨by (with_reducible repeat (first | apply Kd.R_alloc | apply Kd.R_drewN | apply Kd.R_drew)); exact Kd.R_mono HO_8.out (fun _ hk => hk.2.1)⟩, ⟨by (with_reducible repeat (first | apply Kd.R_alloc | apply Kd.R_drewN | apply Kd.R_drew)); exact Kd.R_mono HO_14.out (fun _ hk => hk.1)⟩, ⟨by repeat (first | (with_reducible first | exact HB.out | apply below_alloc | apply pw_below_drewN | apply below_drew1) | exact HB.out)⟩⟩
                    case rest =>
                      clear HC54
                      try clear c1
                      try clear c2
                      try clear p2
                      try clear c3
                      try clear c4
                      try clear c4b0
                      try clear c4b1
                      try clear c5
                      try clear c6
                      try clear c6b0
                      try clear c8
                      try clear c8b0
                      try clear c11
                      try clear c15
                      try clear c17
                      try clear c20
                      try clear c24
                      try clear c26
                      try clear c29
                      try clear c30
                      try clear c33
                      try clear c34
                      try clear c34b0
                      try clear c34b1
                      try clear c41
                      try clear c42
                      try clear c43
                      try clear c44
                      try clear c47
                      try clear c50
                      try clear c66
                      try clear c66b0
                      try clear c68
                      try clear c69
                      try clear c69b0
                      try clear c69b1
                      try clear p2
                      obtain ⟨kq, x116_53, rfl, HA, HJ53, HO_8, HO_14, HB⟩ := hcut
                      cases kq with
                      | zero => exact absurd HA.out (by simp [laws_FnExactImproveRenaming.j1])
                      | succ kj53 =>
                        have H := HA.out
                        clear HA
                        simp only [laws_FnExactImproveRenaming.j1] at H
                        by_cases c76 : x116_53 = true
                        · subst c76
                          have H1 : (some false) = some r := by rw [if_pos rfl] at H; exact H
                          clear H
                          have H := H1
                          clear H1
                          exact absurd (Option.some.inj H) (by rw [hT]; decide)
                        · replace c76 := Bool.eq_false_iff.mpr c76
                          subst c76
                          have H1 : ((laws_markIntS.f kj53 t286 1).bind fun bt311 => ((laws_heldIntS.f kj53 bt311.2 1).bind fun t313 => (if t313 < 0 then (some false) else (if t313 = bt311.1 then ((laws_toLegS.f kj53 l0).bind fun t314 => ((laws_toLegS.f kj53 l1).bind fun t317 => ((laws_toIntS.f kj53 l2).bind fun t320 => ((impl_ImproveRenaming.f kj53 t314 t317 t320).bind fun bt323 => ((laws_eqIntS.f kj53 bt323.1 t272).bind fun t328 => (if t328 = true then (if bt323.2.1 = t273 then (laws_FnExactImproveRenaming.j2 kj53 bt311.2 bt311.1 (bt323.2.2 != t274)) else (laws_FnExactImproveRenaming.j2 kj53 bt311.2 bt311.1 true)) else (laws_FnExactImproveRenaming.j2 kj53 bt311.2 bt311.1 true))))))) else (some false))))) = some r := by rw [if_neg (show ¬ (false = true) by decide)] at H; exact H
                          clear H
                          have H := H1
                          clear H1
                          replace H := Option.bind_eq_some_iff.mp H
                          obtain ⟨⟨t311, t312⟩, A770, H⟩ := H
                          replace H : ((laws_heldIntS.f kj53 t312 1).bind fun t313 => (if t313 < 0 then (some false) else (if t313 = t311 then ((laws_toLegS.f kj53 l0).bind fun t314 => ((laws_toLegS.f kj53 l1).bind fun t317 => ((laws_toIntS.f kj53 l2).bind fun t320 => ((impl_ImproveRenaming.f kj53 t314 t317 t320).bind fun bt323 => ((laws_eqIntS.f kj53 bt323.1 t272).bind fun t328 => (if t328 = true then (if bt323.2.1 = t273 then (laws_FnExactImproveRenaming.j2 kj53 t312 t311 (bt323.2.2 != t274)) else (laws_FnExactImproveRenaming.j2 kj53 t312 t311 true)) else (laws_FnExactImproveRenaming.j2 kj53 t312 t311 true))))))) else (some false)))) = some r := H
                          have A77 := Aside0.mk A770
                          clear A770
                          replace H := Option.bind_eq_some_iff.mp H
                          obtain ⟨t313, A780, H⟩ := H
                          replace H : (if t313 < 0 then (some false) else (if t313 = t311 then ((laws_toLegS.f kj53 l0).bind fun t314 => ((laws_toLegS.f kj53 l1).bind fun t317 => ((laws_toIntS.f kj53 l2).bind fun t320 => ((impl_ImproveRenaming.f kj53 t314 t317 t320).bind fun bt323 => ((laws_eqIntS.f kj53 bt323.1 t272).bind fun t328 => (if t328 = true then (if bt323.2.1 = t273 then (laws_FnExactImproveRenaming.j2 kj53 t312 t311 (bt323.2.2 != t274)) else (laws_FnExactImproveRenaming.j2 kj53 t312 t311 true)) else (laws_FnExactImproveRenaming.j2 kj53 t312 t311 true))))))) else (some false))) = some r := H
                          have A78 := Aside0.mk A780
                          clear A780
                          by_cases c79 : t313 < 0
                          · rw [if_pos c79] at H
                            have c79b0 : decide (t313 < 0) = true := decide_eq_true c79
                            clear c79
                            exact absurd (Option.some.inj H) (by rw [hT]; decide)
                          · rw [if_neg c79] at H
                            have c79b0 : decide (t313 < 0) = false := decide_eq_false c79
                            clear c79
                            by_cases c82 : t313 = t311
                            · rw [if_pos c82] at H
                              have c82b0 : (t313 == t311) = true := beq_iff_eq.mpr c82
                              have c82b1 : (t313 != t311) = false := bne_eq_false_iff_eq.mpr c82
                              clear c82
                              replace H := Option.bind_eq_some_iff.mp H
                              obtain ⟨t314, A830, H⟩ := H
                              replace H : ((laws_toLegS.f kj53 l1).bind fun t317 => ((laws_toIntS.f kj53 l2).bind fun t320 => ((impl_ImproveRenaming.f kj53 t314 t317 t320).bind fun bt323 => ((laws_eqIntS.f kj53 bt323.1 t272).bind fun t328 => (if t328 = true then (if bt323.2.1 = t273 then (laws_FnExactImproveRenaming.j2 kj53 t312 t311 (bt323.2.2 != t274)) else (laws_FnExactImproveRenaming.j2 kj53 t312 t311 true)) else (laws_FnExactImproveRenaming.j2 kj53 t312 t311 true)))))) = some r := H
                              have A83 := Aside0.mk A830
                              clear A830
                              replace H := Option.bind_eq_some_iff.mp H
                              obtain ⟨t317, A840, H⟩ := H
                              replace H : ((laws_toIntS.f kj53 l2).bind fun t320 => ((impl_ImproveRenaming.f kj53 t314 t317 t320).bind fun bt323 => ((laws_eqIntS.f kj53 bt323.1 t272).bind fun t328 => (if t328 = true then (if bt323.2.1 = t273 then (laws_FnExactImproveRenaming.j2 kj53 t312 t311 (bt323.2.2 != t274)) else (laws_FnExactImproveRenaming.j2 kj53 t312 t311 true)) else (laws_FnExactImproveRenaming.j2 kj53 t312 t311 true))))) = some r := H
                              have A84 := Aside0.mk A840
                              clear A840
                              replace H := Option.bind_eq_some_iff.mp H
                              obtain ⟨t320, A850, H⟩ := H
                              replace H : ((impl_ImproveRenaming.f kj53 t314 t317 t320).bind fun bt323 => ((laws_eqIntS.f kj53 bt323.1 t272).bind fun t328 => (if t328 = true then (if bt323.2.1 = t273 then (laws_FnExactImproveRenaming.j2 kj53 t312 t311 (bt323.2.2 != t274)) else (laws_FnExactImproveRenaming.j2 kj53 t312 t311 true)) else (laws_FnExactImproveRenaming.j2 kj53 t312 t311 true)))) = some r := H
                              have A85 := Aside0.mk A850
                              clear A850
                              replace H := Option.bind_eq_some_iff.mp H
                              obtain ⟨⟨t323, t324, t325⟩, A860, H⟩ := H
                              replace H : ((laws_eqIntS.f kj53 t323 t272).bind fun t328 => (if t328 = true then (if t324 = t273 then (laws_FnExactImproveRenaming.j2 kj53 t312 t311 (t325 != t274)) else (laws_FnExactImproveRenaming.j2 kj53 t312 t311 true)) else (laws_FnExactImproveRenaming.j2 kj53 t312 t311 true))) = some r := H
                              have A86 := Aside0.mk A860
                              clear A860
                              have HC87 := Aside0.mk H
                              clear H
                              obtain ⟨Ao88, co88, eo88⟩ := Kd.R_slice HO_14.out
                              subst eo88
                              go_upto_region 38 with (first | ((with_reducible refine gate_callee (f := 20) rfl ?_); refine goesL_ (some 119) rfl rfl Try.func20 (by kernel_rfl) rfl #[.slice Ao88 t286.length co88, .int .i64 1] rfl (by (try simp only [List.map_toArray, List.map_cons, List.map_nil]); first | done | rfl | (simp only [List.length_drop, List.length_take]; rfl)) ?_; (with_reducible refine (laws_markIntS.calls kj53 (fun k_ => some k_ = (.slice Ao88 t286.length co88 : Value).ownBlock) (.slice Ao88 t286.length co88) t286 1 t311 t312 w _ ?side1 ?side2 A77.out).mono ?_); (case side1 => repeat (first | (with_reducible first | exact HB.out | apply below_alloc | apply pw_below_drewN | apply below_drew1) | exact HB.out)); (case side2 => exact Kd.R_tight rfl HO_14.out); rintro e w89 ⟨rfl, hy0, hb, hkp⟩; refine ⟨_, rfl, ?_⟩; have n0_ := Aside0.mk (Kd.R_mono (ok' := fun k_ => some k_ ≠ (.slice Ao88 t286.length co88 : Value).ownBlock) (Kd.R_keptB (HO_8.out) hkp (fun k_ hk_ hs_ => (hk_) hs_)) (fun k_ hk_ => hk_.1)); have n1_ := Aside0.mk (Kd.R_reok rfl hy0 (fun k_ e_ => HO_14.out.1 k_ e_)); have n2_ := Aside0.mk (hb); clear HO_8; clear HO_14; clear HB; have HO_8 := n0_; have HO_14 := n1_; have HB := n2_; clear n0_ n1_ n2_; (try clear hb); (try clear hkp); (try clear hy0)) | ((with_reducible refine gate_callee (f := 21) rfl ?_); refine goesL_ (some 122) rfl rfl Try.func21 (by kernel_rfl) rfl #[.slice Ao88 t312.length co88, .int .i64 1] rfl (by (try simp only [List.map_toArray, List.map_cons, List.map_nil]); first | done | (rw [show t312.length = t286.length from (Kd.R_reads' HO_14.out).1.symm] <;> rfl) | rfl | (simp only [List.length_drop, List.length_take]; rfl)) ?_; (with_reducible refine (laws_heldIntS.calls kj53 _ _ t312 1 t313 _ ?side1 ?side2 A78.out).mono ?_); (case side1 => repeat (first | exact (Kd.R_reads' HO_14.out).2.2 | (with_reducible refine Kd.C_alloc ?_ _) | (with_reducible refine Kd.C_drewN ?_ _) | (with_reducible refine Kd.C_drew ?_))); (case side2 => rw [show t312.length = t286.length from (Kd.R_reads' HO_14.out).1.symm]; exact (Kd.R_reads' HO_14.out).2.1); rintro e w' ⟨rfl, ⟨nd, rfl⟩⟩; refine ⟨_, rfl, ?_⟩) | ((with_reducible refine gate_callee (f := 26) rfl ?_); refine goesL_ (some 130) rfl rfl Try.func26 (by kernel_rfl) rfl #[.slice A0 l0.length c0] rfl (by (try simp only [List.map_toArray, List.map_cons, List.map_nil]); first | done | rfl | (simp only [List.length_drop, List.length_take]; rfl)) ?_; (with_reducible refine (laws_toLegS.calls kj53 _ _ l0 t314 _ ?side1 ?side2 A83.out).mono ?_); (case side1 => repeat (first | exact (Kd.C_below HR0.out (by repeat (first | (with_reducible first | exact HB.out | apply below_alloc | apply pw_below_drewN | apply below_drew1) | exact HB.out))) | (with_reducible refine Kd.C_alloc ?_ _) | (with_reducible refine Kd.C_drewN ?_ _) | (with_reducible refine Kd.C_drew ?_))); (case side2 => exact HC0.out); rintro e w90 ⟨v315, rfl, ho0, hb⟩; refine ⟨_, rfl, ?_⟩; have n0_ := Aside0.mk (Kd.R_below (by (with_reducible repeat (first | apply Kd.R_alloc | apply Kd.R_drewN | apply Kd.R_drew)); exact HO_8.out) hb); have n1_ := Aside0.mk (Kd.R_below (by (with_reducible repeat (first | apply Kd.R_alloc | apply Kd.R_drewN | apply Kd.R_drew)); exact HO_14.out) hb); have n2_ := Aside0.mk (Kd.R_lower ho0 (below_size (by repeat (first | (with_reducible first | exact HB.out | apply below_alloc | apply pw_below_drewN | apply below_drew1) | exact HB.out)))); have n3_ := Aside0.mk (below_step (by repeat (first | (with_reducible first | exact HB.out | apply below_alloc | apply pw_below_drewN | apply below_drew1) | exact HB.out)) hb); clear HO_8; clear HO_14; clear HB; have HO_8 := n0_; have HO_14 := n1_; have HO316 := n2_; have HB := n3_; clear n0_ n1_ n2_ n3_; (try clear hb); (try clear hb2); (try clear hk); (try clear hi); (try clear ho0)) | ((with_reducible refine gate_callee (f := 26) rfl ?_); refine goesL_ (some 132) rfl rfl Try.func26 (by kernel_rfl) rfl #[.slice A1 l1.length c1] rfl (by (try simp only [List.map_toArray, List.map_cons, List.map_nil]); first | done | rfl | (simp only [List.length_drop, List.length_take]; rfl)) ?_; (with_reducible refine (laws_toLegS.calls kj53 _ _ l1 t317 _ ?side1 ?side2 A84.out).mono ?_); (case side1 => repeat (first | exact (Kd.C_below HR1.out HB.out) | (with_reducible refine Kd.C_alloc ?_ _) | (with_reducible refine Kd.C_drewN ?_ _) | (with_reducible refine Kd.C_drew ?_))); (case side2 => exact HC1.out); rintro e w91 ⟨v318, rfl, ho0, hb⟩; refine ⟨_, rfl, ?_⟩; have n0_ := Aside0.mk (Kd.R_below (by (with_reducible repeat (first | apply Kd.R_alloc | apply Kd.R_drewN | apply Kd.R_drew)); exact HO_8.out) hb); have n1_ := Aside0.mk (Kd.R_below (by (with_reducible repeat (first | apply Kd.R_alloc | apply Kd.R_drewN | apply Kd.R_drew)); exact HO_14.out) hb); have n2_ := Aside0.mk (Kd.R_elder' (by (with_reducible repeat (first | apply Kd.R_alloc | apply Kd.R_drewN | apply Kd.R_drew)); exact HO316.out) (Kd.R_base ho0) hb); have n3_ := Aside0.mk (Kd.R_lower (Kd.R_new' ho0 (Kd.R_lt (by (with_reducible repeat (first | apply Kd.R_alloc | apply Kd.R_drewN | apply Kd.R_drew)); exact HO316.out))) (below_size (by repeat (first | (with_reducible first | exact HB.out | apply below_alloc | apply pw_below_drewN | apply below_drew1) | exact HB.out)))); have n4_ := Aside0.mk (below_step (by repeat (first | (with_reducible first | exact HB.out | apply below_alloc | apply pw_below_drewN | apply below_drew1) | exact HB.out)) hb); clear HO_8; clear HO_14; clear HO316; clear HB; have HO_8 := n0_; have HO_14 := n1_; have HO316 := n2_; have HO319 := n3_; have HB := n4_; clear n0_ n1_ n2_ n3_ n4_; (try clear hb); (try clear hb2); (try clear hk); (try clear hi); (try clear ho0)) | ((with_reducible refine gate_callee (f := 15) rfl ?_); refine goesL_ (some 134) rfl rfl Try.func15 (by kernel_rfl) rfl #[.slice A2 l2.length c2] rfl (by (try simp only [List.map_toArray, List.map_cons, List.map_nil]); first | done | rfl | (simp only [List.length_drop, List.length_take]; rfl)) ?_; (with_reducible refine (laws_toIntS.calls kj53 _ _ l2 t320 _ ?side1 ?side2 A85.out).mono ?_); (case side1 => repeat (first | exact (Kd.C_below HR2.out HB.out) | (with_reducible refine Kd.C_alloc ?_ _) | (with_reducible refine Kd.C_drewN ?_ _) | (with_reducible refine Kd.C_drew ?_))); (case side2 => exact HC2.out); rintro e w92 ⟨v321, rfl, ho0, hb⟩; refine ⟨_, rfl, ?_⟩; have n0_ := Aside0.mk (Kd.R_elder' (by (with_reducible repeat (first | apply Kd.R_alloc | apply Kd.R_drewN | apply Kd.R_drew)); exact HO_8.out) (Kd.R_base ho0) hb); have n1_ := Aside0.mk (Kd.R_elder' (by (with_reducible repeat (first | apply Kd.R_alloc | apply Kd.R_drewN | apply Kd.R_drew)); exact HO_14.out) (Kd.R_base ho0) hb); have n2_ := Aside0.mk (Kd.R_below (by (with_reducible repeat (first | apply Kd.R_alloc | apply Kd.R_drewN | apply Kd.R_drew)); exact HO316.out) hb); have n3_ := Aside0.mk (Kd.R_below (by (with_reducible repeat (first | apply Kd.R_alloc | apply Kd.R_drewN | apply Kd.R_drew)); exact HO319.out) hb); have n4_ := Aside0.mk (Kd.R_lower (Kd.R_new' (Kd.R_new' ho0 (Kd.R_lt (by (with_reducible repeat (first | apply Kd.R_alloc | apply Kd.R_drewN | apply Kd.R_drew)); exact HO_8.out))) (Kd.R_lt (by (with_reducible repeat (first | apply Kd.R_alloc | apply Kd.R_drewN | apply Kd.R_drew)); exact HO_14.out))) (below_size (by repeat (first | (with_reducible first | exact HB.out | apply below_alloc | apply pw_below_drewN | apply below_drew1) | exact HB.out)))); have n5_ := Aside0.mk (below_step (by repeat (first | (with_reducible first | exact HB.out | apply below_alloc | apply pw_below_drewN | apply below_drew1) | exact HB.out)) hb); clear HO_8; clear HO_14; clear HO316; clear HO319; clear HB; have HO_8 := n0_; have HO_14 := n1_; have HO316 := n2_; have HO319 := n3_; have HO322 := n4_; have HB := n5_; clear n0_ n1_ n2_ n3_ n4_ n5_; (try clear hb); (try clear hb2); (try clear hk); (try clear hi); (try clear ho0); obtain ⟨Ao93, co93, eo93⟩ := Kd.R_slice HO316.out; subst eo93; obtain ⟨Ao94, co94, eo94⟩ := Kd.R_slice HO319.out; subst eo94; obtain ⟨Ao95, co95, eo95⟩ := Kd.R_slice HO322.out; subst eo95) | ((with_reducible refine gate_callee (f := 43) rfl ?_); refine goesL_ (some 135) rfl rfl Try.func43 (by kernel_rfl) rfl #[.slice Ao93 t314.length co93, .slice Ao94 t317.length co94, .slice Ao95 t320.length co95] rfl (by (try simp only [List.map_toArray, List.map_cons, List.map_nil]); first | done | rfl | (simp only [List.length_drop, List.length_take]; rfl)) ?_; (with_reducible refine (impl_ImproveRenaming.calls kj53 _ _ t314 _ _ t317 _ _ t320 t323 t324 t325 _ ?side1 ?side2 ?side3 ?side4 ?side5 ?side6 A86.out).mono ?_); (case side1 => repeat (first | exact (Kd.R_reads' HO316.out).2.2 | (with_reducible refine Kd.C_alloc ?_ _) | (with_reducible refine Kd.C_drewN ?_ _) | (with_reducible refine Kd.C_drew ?_))); (case side2 => exact (Kd.R_reads' HO316.out).2.1); (case side3 => repeat (first | exact (Kd.R_reads' HO319.out).2.2 | (with_reducible refine Kd.C_alloc ?_ _) | (with_reducible refine Kd.C_drewN ?_ _) | (with_reducible refine Kd.C_drew ?_))); (case side4 => exact (Kd.R_reads' HO319.out).2.1); (case side5 => repeat (first | exact (Kd.R_reads' HO322.out).2.2 | (with_reducible refine Kd.C_alloc ?_ _) | (with_reducible refine Kd.C_drewN ?_ _) | (with_reducible refine Kd.C_drew ?_))); (case side6 => exact (Kd.R_reads' HO322.out).2.1); rintro e w96 ⟨v326, rfl, ho0, hb⟩; refine ⟨_, rfl, ?_⟩; have n0_ := Aside0.mk (Kd.R_elder' (by (with_reducible repeat (first | apply Kd.R_alloc | apply Kd.R_drewN | apply Kd.R_drew)); exact HO_8.out) (Kd.R_base ho0) hb); have n1_ := Aside0.mk (Kd.R_elder' (by (with_reducible repeat (first | apply Kd.R_alloc | apply Kd.R_drewN | apply Kd.R_drew)); exact HO_14.out) (Kd.R_base ho0) hb); have n2_ := Aside0.mk (Kd.R_below (by (with_reducible repeat (first | apply Kd.R_alloc | apply Kd.R_drewN | apply Kd.R_drew)); exact HO316.out) hb); have n3_ := Aside0.mk (Kd.R_below (by (with_reducible repeat (first | apply Kd.R_alloc | apply Kd.R_drewN | apply Kd.R_drew)); exact HO319.out) hb); have n4_ := Aside0.mk (Kd.R_elder' (by (with_reducible repeat (first | apply Kd.R_alloc | apply Kd.R_drewN | apply Kd.R_drew)); exact HO322.out) (Kd.R_base ho0) hb); have n5_ := Aside0.mk (Kd.R_lower (Kd.R_new' (Kd.R_new' (Kd.R_new' ho0 (Kd.R_lt (by (with_reducible repeat (first | apply Kd.R_alloc | apply Kd.R_drewN | apply Kd.R_drew)); exact HO_8.out))) (Kd.R_lt (by (with_reducible repeat (first | apply Kd.R_alloc | apply Kd.R_drewN | apply Kd.R_drew)); exact HO_14.out))) (Kd.R_lt (by (with_reducible repeat (first | apply Kd.R_alloc | apply Kd.R_drewN | apply Kd.R_drew)); exact HO322.out))) (below_size (by repeat (first | (with_reducible first | exact HB.out | apply below_alloc | apply pw_below_drewN | apply below_drew1) | exact HB.out)))); have n6_ := Aside0.mk (below_step (by repeat (first | (with_reducible first | exact HB.out | apply below_alloc | apply pw_below_drewN | apply below_drew1) | exact HB.out)) hb); clear HO_8; clear HO_14; clear HO316; clear HO319; clear HO322; clear HB; have HO_8 := n0_; have HO_14 := n1_; have HO316 := n2_; have HO319 := n3_; have HO322 := n4_; have HO327 := n5_; have HB := n6_; clear n0_ n1_ n2_ n3_ n4_ n5_ n6_; (try clear hb); (try clear hb2); (try clear hk); (try clear hi); (try clear ho0)))
                              (try simp only [Act.put, List.setIfInBounds_toArray, List.set_cons_zero, List.set_cons_succ])
                              go_cut [152] (fun v152 wc => ∃ (kq : Nat) (x152_86 : Bool), v152 = .bool x152_86 ∧ Aside0 (laws_FnExactImproveRenaming.j2 kq t312 t311 x152_86 = some r) ∧ Aside0 (kq ≤ kj53) ∧ Aside0 (Kd.R (Kd.int .i64) 3 wc w.heap.size (fun _ => True) (.slice Ao88 t286.length co88) t312) ∧ Aside0 (Below w.heap.size w wc))
                              case first =>
                                have H := HC87.out
                                clear HC87
                                replace H := Option.bind_eq_some_iff.mp H
                                obtain ⟨t328, A970, H⟩ := H
                                replace H : (if t328 = true then (if t324 = t273 then (laws_FnExactImproveRenaming.j2 kj53 t312 t311 (t325 != t274)) else (laws_FnExactImproveRenaming.j2 kj53 t312 t311 true)) else (laws_FnExactImproveRenaming.j2 kj53 t312 t311 true)) = some r := H
                                have A97 := Aside0.mk A970
                                clear A970
                                by_cases c98 : t328 = true
                                · subst c98
                                  have H1 : (if t324 = t273 then (laws_FnExactImproveRenaming.j2 kj53 t312 t311 (t325 != t274)) else (laws_FnExactImproveRenaming.j2 kj53 t312 t311 true)) = some r := by rw [if_pos rfl] at H; exact H
                                  clear H
                                  have H := H1
                                  clear H1
                                  by_cases c99 : t324 = t273
                                  · rw [if_pos c99] at H
                                    have c99b0 : (t324 == t273) = true := beq_iff_eq.mpr c99
                                    have c99b1 : (t324 != t273) = false := bne_eq_false_iff_eq.mpr c99
                                    clear c99
                                    (first | rw [c99b0] | (simp only [i64_w, i32_w]; rw [c99b0]) | skip)
                                    have H' := Aside0.mk H
                                    clear H
                                    obtain ⟨Ao100, co100, eo100⟩ := Kd.R_slice HO327.out
                                    subst eo100
                                    obtain ⟨Ao101, co101, eo101⟩ := Kd.R_slice HO_8.out
                                    subst eo101
                                    go_wp2_with (first | ((with_reducible refine gate_callee (f := 17) rfl ?_); refine goesL_ (some 141) rfl rfl Try.func17 (by kernel_rfl) rfl #[.slice Ao100 t323.length co100, .slice Ao101 t272.length co101] rfl (by (try simp only [List.map_toArray, List.map_cons, List.map_nil]); first | done | rfl | (simp only [List.length_drop, List.length_take]; rfl)) ?_; (with_reducible refine (laws_eqIntS.calls kj53 _ _ t323 _ _ t272 true _ ?side1 ?side2 ?side3 ?side4 A97.out).mono ?_); (case side1 => repeat (first | exact (Kd.R_reads' HO327.out).2.2 | (with_reducible refine Kd.C_alloc ?_ _) | (with_reducible refine Kd.C_drewN ?_ _) | (with_reducible refine Kd.C_drew ?_))); (case side2 => exact (Kd.R_reads' HO327.out).2.1); (case side3 => repeat (first | exact (Kd.R_reads' HO_8.out).2.2 | (with_reducible refine Kd.C_alloc ?_ _) | (with_reducible refine Kd.C_drewN ?_ _) | (with_reducible refine Kd.C_drew ?_))); (case side4 => exact (Kd.R_reads' HO_8.out).2.1); rintro e w' ⟨rfl, ⟨nd, rfl⟩⟩; refine ⟨_, rfl, ?_⟩))
                                    go_meet
                                    case rel => exact ⟨_, ((t325 != t274)), (by first | rfl | (simp; done) | (simp [*]; done)), H', ⟨by have := HJ16.out; have := HJ53.out; first | omega | exact Nat.le_refl _⟩, ⟨by (with_reducible repeat (first | apply Kd.R_alloc | apply Kd.R_drewN | apply Kd.R_drew)); exact Kd.R_mono HO_14.out (fun _ hk => trivial)⟩, ⟨by repeat (first | (with_reducible first | exact HB.out | apply below_alloc | apply pw_below_drewN | apply below_drew1) | exact HB.out)⟩⟩
                                  · rw [if_neg c99] at H
                                    have c99b0 : (t324 == t273) = false := beq_eq_false_iff_ne.mpr c99
                                    have c99b1 : (t324 != t273) = true := bne_iff_ne.mpr c99
                                    (first | rw [c99b0] | (simp only [i64_w, i32_w]; rw [c99b0]) | skip)
                                    have H' := Aside0.mk H
                                    clear H
                                    obtain ⟨Ao102, co102, eo102⟩ := Kd.R_slice HO327.out
                                    subst eo102
                                    obtain ⟨Ao103, co103, eo103⟩ := Kd.R_slice HO_8.out
                                    subst eo103
                                    go_wp2_with (first | ((with_reducible refine gate_callee (f := 17) rfl ?_); refine goesL_ (some 141) rfl rfl Try.func17 (by kernel_rfl) rfl #[.slice Ao102 t323.length co102, .slice Ao103 t272.length co103] rfl (by (try simp only [List.map_toArray, List.map_cons, List.map_nil]); first | done | rfl | (simp only [List.length_drop, List.length_take]; rfl)) ?_; (with_reducible refine (laws_eqIntS.calls kj53 _ _ t323 _ _ t272 true _ ?side1 ?side2 ?side3 ?side4 A97.out).mono ?_); (case side1 => repeat (first | exact (Kd.R_reads' HO327.out).2.2 | (with_reducible refine Kd.C_alloc ?_ _) | (with_reducible refine Kd.C_drewN ?_ _) | (with_reducible refine Kd.C_drew ?_))); (case side2 => exact (Kd.R_reads' HO327.out).2.1); (case side3 => repeat (first | exact (Kd.R_reads' HO_8.out).2.2 | (with_reducible refine Kd.C_alloc ?_ _) | (with_reducible refine Kd.C_drewN ?_ _) | (with_reducible refine Kd.C_drew ?_))); (case side4 => exact (Kd.R_reads' HO_8.out).2.1); rintro e w' ⟨rfl, ⟨nd, rfl⟩⟩; refine ⟨_, rfl, ?_⟩))
                                    go_meet
                                    case rel => exact ⟨_, (true), (by first | rfl | (simp; done) | (simp [*]; done)), H', ⟨by have := HJ16.out; have := HJ53.out; first | omega | exact Nat.le_refl _⟩, ⟨by (with_reducible repeat (first | apply Kd.R_alloc | apply Kd.R_drewN | apply Kd.R_drew)); exact Kd.R_mono HO_14.out (fun _ hk => trivial)⟩, ⟨by repeat (first | (with_reducible first | exact HB.out | apply below_alloc | apply pw_below_drewN | apply below_drew1) | exact HB.out)⟩⟩
                                · replace c98 := Bool.eq_false_iff.mpr c98
                                  subst c98
                                  have H1 : (laws_FnExactImproveRenaming.j2 kj53 t312 t311 true) = some r := by rw [if_neg (show ¬ (false = true) by decide)] at H; exact H
                                  clear H
                                  have H := H1
                                  clear H1
                                  have H' := Aside0.mk H
                                  clear H
                                  obtain ⟨Ao104, co104, eo104⟩ := Kd.R_slice HO327.out
                                  subst eo104
                                  obtain ⟨Ao105, co105, eo105⟩ := Kd.R_slice HO_8.out
                                  subst eo105
                                  go_wp2_with (first | ((with_reducible refine gate_callee (f := 17) rfl ?_); refine goesL_ (some 141) rfl rfl Try.func17 (by kernel_rfl) rfl #[.slice Ao104 t323.length co104, .slice Ao105 t272.length co105] rfl (by (try simp only [List.map_toArray, List.map_cons, List.map_nil]); first | done | rfl | (simp only [List.length_drop, List.length_take]; rfl)) ?_; (with_reducible refine (laws_eqIntS.calls kj53 _ _ t323 _ _ t272 false _ ?side1 ?side2 ?side3 ?side4 A97.out).mono ?_); (case side1 => repeat (first | exact (Kd.R_reads' HO327.out).2.2 | (with_reducible refine Kd.C_alloc ?_ _) | (with_reducible refine Kd.C_drewN ?_ _) | (with_reducible refine Kd.C_drew ?_))); (case side2 => exact (Kd.R_reads' HO327.out).2.1); (case side3 => repeat (first | exact (Kd.R_reads' HO_8.out).2.2 | (with_reducible refine Kd.C_alloc ?_ _) | (with_reducible refine Kd.C_drewN ?_ _) | (with_reducible refine Kd.C_drew ?_))); (case side4 => exact (Kd.R_reads' HO_8.out).2.1); rintro e w' ⟨rfl, ⟨nd, rfl⟩⟩; refine ⟨_, rfl, ?_⟩))
                                  go_meet
                                  case rel => exact ⟨_, (true), (by first | rfl | (simp; done) | (simp [*]; done)), H', ⟨by have := HJ16.out; have := HJ53.out; first | omega | exact Nat.le_refl _⟩, ⟨by (with_reducible repeat (first | apply Kd.R_alloc | apply Kd.R_drewN | apply Kd.R_drew)); exact Kd.R_mono HO_14.out (fun _ hk => trivial)⟩, ⟨by repeat (first | (with_reducible first | exact HB.out | apply below_alloc | apply pw_below_drewN | apply below_drew1) | exact HB.out)⟩⟩
                              case rest =>
                                clear HC87
                                try clear c1
                                try clear c2
                                try clear p2
                                try clear c3
                                try clear c4
                                try clear c4b0
                                try clear c4b1
                                try clear c5
                                try clear c6
                                try clear c6b0
                                try clear c7
                                try clear c8
                                try clear c8b0
                                try clear c9
                                try clear c11
                                try clear c15
                                try clear c17
                                try clear c20
                                try clear c21
                                try clear c24
                                try clear c26
                                try clear c29
                                try clear c30
                                try clear c33
                                try clear c34
                                try clear c34b0
                                try clear c34b1
                                try clear c41
                                try clear c42
                                try clear c43
                                try clear c44
                                try clear c47
                                try clear c50
                                try clear c66
                                try clear c66b0
                                try clear c68
                                try clear c69
                                try clear c69b0
                                try clear c69b1
                                try clear c76
                                try clear c79
                                try clear c79b0
                                try clear c82
                                try clear c82b0
                                try clear c82b1
                                try clear c98
                                try clear c99
                                try clear c99b0
                                try clear c99b1
                                try clear p2
                                obtain ⟨kq, x152_86, rfl, HA, HJ86, HO_14, HB⟩ := hcut
                                have hl14_86 := (Kd.R_reads' HO_14.out).1
                                rw [hl14_86] at HO_14
                                (try simp only [hl14_86])
                                cases kq with
                                | zero => exact absurd HA.out (by simp [laws_FnExactImproveRenaming.j2])
                                | succ kj86 =>
                                  have H := HA.out
                                  clear HA
                                  simp only [laws_FnExactImproveRenaming.j2] at H
                                  by_cases c106 : x152_86 = true
                                  · subst c106
                                    have H1 : (some false) = some r := by rw [if_pos rfl] at H; exact H
                                    clear H
                                    have H := H1
                                    clear H1
                                    exact absurd (Option.some.inj H) (by rw [hT]; decide)
                                  · replace c106 := Bool.eq_false_iff.mpr c106
                                    subst c106
                                    have H1 : ((laws_heldIntS.f kj86 t312 1).bind fun t329 => (if t329 < 0 then (some false) else (if t329 = t311 then (some true) else (some false)))) = some r := by rw [if_neg (show ¬ (false = true) by decide)] at H; exact H
                                    clear H
                                    have H := H1
                                    clear H1
                                    replace H := Option.bind_eq_some_iff.mp H
                                    obtain ⟨t329, A1070, H⟩ := H
                                    replace H : (if t329 < 0 then (some false) else (if t329 = t311 then (some true) else (some false))) = some r := H
                                    have A107 := Aside0.mk A1070
                                    clear A1070
                                    by_cases c108 : t329 < 0
                                    · rw [if_pos c108] at H
                                      have c108b0 : decide (t329 < 0) = true := decide_eq_true c108
                                      clear c108
                                      exact absurd (Option.some.inj H) (by rw [hT]; decide)
                                    · rw [if_neg c108] at H
                                      have c108b0 : decide (t329 < 0) = false := decide_eq_false c108
                                      clear c108
                                      by_cases c109 : t329 = t311
                                      · rw [if_pos c109] at H
                                        have c109b0 : (t329 == t311) = true := beq_iff_eq.mpr c109
                                        have c109b1 : (t329 != t311) = false := bne_eq_false_iff_eq.mpr c109
                                        clear c109
                                        obtain rfl := (Option.some.inj H)
                                        go_wp2_with (first | ((with_reducible refine gate_callee (f := 21) rfl ?_); refine goesL_ (some 155) rfl rfl Try.func21 (by kernel_rfl) rfl #[.slice Ao88 t312.length co88, .int .i64 1] rfl (by (try simp only [List.map_toArray, List.map_cons, List.map_nil]); first | done | rfl | (simp only [List.length_drop, List.length_take]; rfl)) ?_; (with_reducible refine (laws_heldIntS.calls kj86 _ _ t312 1 t329 _ ?side1 ?side2 A107.out).mono ?_); (case side1 => repeat (first | exact (Kd.R_reads' HO_14.out).2.2 | (with_reducible refine Kd.C_alloc ?_ _) | (with_reducible refine Kd.C_drewN ?_ _) | (with_reducible refine Kd.C_drew ?_))); (case side2 => exact (Kd.R_reads' HO_14.out).2.1); rintro e w' ⟨rfl, ⟨nd, rfl⟩⟩; refine ⟨_, rfl, ?_⟩))
                                        go_ret
                                        exact ⟨by first | rfl | (simp [errW_none, errW_some] <;> rfl) | (simp [*, errW_none, errW_some] <;> rfl), by repeat (first | (with_reducible first | exact HB.out | apply below_alloc | apply pw_below_drewN | apply below_drew1) | exact HB.out)⟩
                                      · rw [if_neg c109] at H
                                        have c109b0 : (t329 == t311) = false := beq_eq_false_iff_ne.mpr c109
                                        have c109b1 : (t329 != t311) = true := bne_iff_ne.mpr c109
                                        obtain rfl := (Option.some.inj H)
                                        go_wp2_with (first | ((with_reducible refine gate_callee (f := 21) rfl ?_); refine goesL_ (some 155) rfl rfl Try.func21 (by kernel_rfl) rfl #[.slice Ao88 t312.length co88, .int .i64 1] rfl (by (try simp only [List.map_toArray, List.map_cons, List.map_nil]); first | done | rfl | (simp only [List.length_drop, List.length_take]; rfl)) ?_; (with_reducible refine (laws_heldIntS.calls kj86 _ _ t312 1 t329 _ ?side1 ?side2 A107.out).mono ?_); (case side1 => repeat (first | exact (Kd.R_reads' HO_14.out).2.2 | (with_reducible refine Kd.C_alloc ?_ _) | (with_reducible refine Kd.C_drewN ?_ _) | (with_reducible refine Kd.C_drew ?_))); (case side2 => exact (Kd.R_reads' HO_14.out).2.1); rintro e w' ⟨rfl, ⟨nd, rfl⟩⟩; refine ⟨_, rfl, ?_⟩))
                                        go_ret
                                        exact ⟨by first | rfl | (simp [errW_none, errW_some] <;> rfl) | (simp [*, errW_none, errW_some] <;> rfl), by repeat (first | (with_reducible first | exact HB.out | apply below_alloc | apply pw_below_drewN | apply below_drew1) | exact HB.out)⟩
                            · rw [if_neg c82] at H
                              have c82b0 : (t313 == t311) = false := beq_eq_false_iff_ne.mpr c82
                              have c82b1 : (t313 != t311) = true := bne_iff_ne.mpr c82
                              obtain rfl := (Option.some.inj H)
                              obtain ⟨Ao110, co110, eo110⟩ := Kd.R_slice HO_14.out
                              subst eo110
                              go_wp2_with (first | ((with_reducible refine gate_callee (f := 20) rfl ?_); refine goesL_ (some 119) rfl rfl Try.func20 (by kernel_rfl) rfl #[.slice Ao110 t286.length co110, .int .i64 1] rfl (by (try simp only [List.map_toArray, List.map_cons, List.map_nil]); first | done | rfl | (simp only [List.length_drop, List.length_take]; rfl)) ?_; (with_reducible refine (laws_markIntS.calls kj53 (fun k_ => some k_ = (.slice Ao110 t286.length co110 : Value).ownBlock) (.slice Ao110 t286.length co110) t286 1 t311 t312 w _ ?side1 ?side2 A77.out).mono ?_); (case side1 => repeat (first | (with_reducible first | exact HB.out | apply below_alloc | apply pw_below_drewN | apply below_drew1) | exact HB.out)); (case side2 => exact Kd.R_tight rfl HO_14.out); rintro e w111 ⟨rfl, hy0, hb, hkp⟩; refine ⟨_, rfl, ?_⟩; have n0_ := Aside0.mk (Kd.R_mono (ok' := fun k_ => some k_ ≠ (.slice Ao110 t286.length co110 : Value).ownBlock) (Kd.R_keptB (HO_8.out) hkp (fun k_ hk_ hs_ => (hk_) hs_)) (fun k_ hk_ => hk_.1)); have n1_ := Aside0.mk (Kd.R_reok rfl hy0 (fun k_ e_ => HO_14.out.1 k_ e_)); have n2_ := Aside0.mk (hb); clear HO_8; clear HO_14; clear HB; have HO_8 := n0_; have HO_14 := n1_; have HB := n2_; clear n0_ n1_ n2_; (try clear hb); (try clear hkp); (try clear hy0)) | ((with_reducible refine gate_callee (f := 21) rfl ?_); refine goesL_ (some 122) rfl rfl Try.func21 (by kernel_rfl) rfl #[.slice Ao110 t312.length co110, .int .i64 1] rfl (by (try simp only [List.map_toArray, List.map_cons, List.map_nil]); first | done | (rw [show t312.length = t286.length from (Kd.R_reads' HO_14.out).1.symm] <;> rfl) | rfl | (simp only [List.length_drop, List.length_take]; rfl)) ?_; (with_reducible refine (laws_heldIntS.calls kj53 _ _ t312 1 t313 _ ?side1 ?side2 A78.out).mono ?_); (case side1 => repeat (first | exact (Kd.R_reads' HO_14.out).2.2 | (with_reducible refine Kd.C_alloc ?_ _) | (with_reducible refine Kd.C_drewN ?_ _) | (with_reducible refine Kd.C_drew ?_))); (case side2 => rw [show t312.length = t286.length from (Kd.R_reads' HO_14.out).1.symm]; exact (Kd.R_reads' HO_14.out).2.1); rintro e w' ⟨rfl, ⟨nd, rfl⟩⟩; refine ⟨_, rfl, ?_⟩))
                              go_ret
                              exact ⟨by first | rfl | (simp [errW_none, errW_some] <;> rfl) | (simp [*, errW_none, errW_some] <;> rfl), by repeat (first | (with_reducible first | exact HB.out | apply below_alloc | apply pw_below_drewN | apply below_drew1) | exact HB.out)⟩
                  · replace c50 := Bool.eq_false_iff.mpr c50
                    subst c50
                    have H1 : (some false) = some r := by rw [if_neg (show ¬ (false = true) by decide)] at H; exact H
                    clear H
                    have H := H1
                    clear H1
                    exact absurd (Option.some.inj H) (by rw [hT]; decide)
                · replace c47 := Bool.eq_false_iff.mpr c47
                  subst c47
                  have H1 : (some false) = some r := by rw [if_neg (show ¬ (false = true) by decide)] at H; exact H
                  clear H
                  have H := H1
                  clear H1
                  exact absurd (Option.some.inj H) (by rw [hT]; decide)
              · replace c44 := Bool.eq_false_iff.mpr c44
                subst c44
                have H1 : (some false) = some r := by rw [if_neg (show ¬ (false = true) by decide)] at H; exact H
                clear H
                have H := H1
                clear H1
                exact absurd (Option.some.inj H) (by rw [hT]; decide)

end Go.Proofs.Ytfaojmabalplfaa.QFnExactImproveRenaming
