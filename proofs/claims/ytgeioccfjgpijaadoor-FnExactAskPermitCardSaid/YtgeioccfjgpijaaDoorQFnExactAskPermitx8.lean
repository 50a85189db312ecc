/- Contracts of Go functions that FnExactAskPermit reaches: the call computes what the plain function says. No condition. -/
import Derived.Test.YtgeioccfjgpijaaDoorQFnExactAskPermitx0
import Derived.Test.YtgeioccfjgpijaaDoorQFnExactAskPermitx1
import Derived.Test.YtgeioccfjgpijaaDoorQFnExactAskPermitx4
import Derived.Test.YtgeioccfjgpijaaDoorQFnExactAskPermitx6
import Derived.Test.YtgeioccfjgpijaaDoorQFnExactAskPermitx7
namespace Go.Proofs.YtgeioccfjgpijaaDoor.QFnExactAskPermit
open Go.RowKit Go.Proofs.YtgeioccfjgpijaaDoorW.PrintWords Go.Proofs.YtgeioccfjgpijaaDoorW.PrintLast Go.Proofs.YtgeioccfjgpijaaDoorW.PrintMore
attribute [local go_sem] max2_int min2_int max_two min_two max_three min_three max_four min_four   -- for this text's walks alone
set_option linter.unusedVariables false
set_option linter.unusedSimpArgs false

/-! ### laws_FnExactAskPermit: function 7 -/
mutual
def laws_FnExactAskPermit.j0 : Nat → List (S23) → ByteArray → Int → Int → Int → List (S26) → Int → Bool → List (S26) → List (S26) → Int → Bool → Bool → Option (Bool)
  | 0, _, _, _, _, _, _, _, _, _, _, _, _, _ => none
  | k + 1, x0, x1, x2, x3, x4, x12, x13, x14, x15, x16, x17, x18, x69 => if x69 = true then (some false) else ((laws_toPermitS.f k x0).bind fun t234 => ((laws_eqPermitS.f k x15 t234).bind fun t237 => (if t237 = true then ((laws_markPermitS.f k x15 1).bind fun bt238 => (if bt238.1 < 0 then (laws_FnExactAskPermit.j1 k x0 x1 x2 x3 x4 x12 x13 x14 x16 true) else ((laws_eqPermitS.f k x16 x12).bind fun t240 => (if t240 = true then (if x17 = x13 then (laws_FnExactAskPermit.j1 k x0 x1 x2 x3 x4 x12 x13 x14 x16 (x18 != x14)) else (laws_FnExactAskPermit.j1 k x0 x1 x2 x3 x4 x12 x13 x14 x16 true)) else (laws_FnExactAskPermit.j1 k x0 x1 x2 x3 x4 x12 x13 x14 x16 true))))) else (some false))))
def laws_FnExactAskPermit.j1 : Nat → List (S23) → ByteArray → Int → Int → Int → List (S26) → Int → Bool → List (S26) → Bool → Option (Bool)
  | 0, _, _, _, _, _, _, _, _, _, _ => none
  | k + 1, x0, x1, x2, x3, x4, x12, x13, x14, x16, x95 => if x95 = true then (some false) else ((laws_markPermitS.f k x16 1).bind fun bt241 => ((laws_heldPermitS.f k bt241.2 1).bind fun t243 => (if t243 < 0 then (some false) else (if t243 = bt241.1 then ((laws_toPermitS.f k x0).bind fun t244 => ((impl_AskPermit.f k t244 x1 x2 x3 x4).bind fun bt247 => ((laws_eqPermitS.f k bt247.1 x12).bind fun t252 => (if t252 = true then (if bt247.2.1 = x13 then (laws_FnExactAskPermit.j2 k bt241.2 bt241.1 (bt247.2.2 != x14)) else (laws_FnExactAskPermit.j2 k bt241.2 bt241.1 true)) else (laws_FnExactAskPermit.j2 k bt241.2 bt241.1 true))))) else (some false)))))
def laws_FnExactAskPermit.j2 : Nat → List (S26) → Int → Bool → Option (Bool)
  | 0, _, _, _ => none
  | k + 1, x16, x20, x131 => if x131 = true then (some false) else ((laws_heldPermitS.f k x16 1).bind fun t253 => (if t253 < 0 then (some false) else (if t253 = x20 then (some true) else (some false))))
end
def laws_FnExactAskPermit.f (k : Nat) (l0 : List (S23)) (a1 : ByteArray) (a2 : Int) (a3 : Int) (a4 : Int) : Option (Bool) := if (a1.size : Int) > 1048576 then (some true) else ((laws_szPermitS.f k l0 1048576).bind fun t216 => (if t216 < 0 then (some true) else ((laws_toPermitS.f k l0).bind fun t217 => ((spec_AskPermit.f k t217 a1 a2 a3 a4).bind fun bt220 => ((laws_toPermitS.f k l0).bind fun t225 => ((impl_AskPermit.f k t225 a1 a2 a3 a4).bind fun bt228 => ((laws_eqPermitS.f k bt228.1 bt220.1).bind fun t233 => (if t233 = true then (if bt228.2.1 = bt220.2.1 then (laws_FnExactAskPermit.j0 k l0 a1 a2 a3 a4 bt220.1 bt220.2.1 bt220.2.2 t225 bt228.1 bt228.2.1 bt228.2.2 (bt228.2.2 != bt220.2.2)) else (laws_FnExactAskPermit.j0 k l0 a1 a2 a3 a4 bt220.1 bt220.2.1 bt220.2.2 t225 bt228.1 bt228.2.1 bt228.2.2 true)) else (laws_FnExactAskPermit.j0 k l0 a1 a2 a3 a4 bt220.1 bt220.2.1 bt220.2.2 t225 bt228.1 bt228.2.1 bt228.2.2 true)))))))))
theorem laws_FnExactAskPermit.mono_l : ∀ k, (∀ y0 y1 y2 y3 y4 y5 y6 y7 y8 y9 y10 y11 y12, LeO (laws_FnExactAskPermit.j0 k y0 y1 y2 y3 y4 y5 y6 y7 y8 y9 y10 y11 y12) (laws_FnExactAskPermit.j0 (k + 1) y0 y1 y2 y3 y4 y5 y6 y7 y8 y9 y10 y11 y12)) ∧ (∀ y0 y1 y2 y3 y4 y5 y6 y7 y8 y9, LeO (laws_FnExactAskPermit.j1 k y0 y1 y2 y3 y4 y5 y6 y7 y8 y9) (laws_FnExactAskPermit.j1 (k + 1) y0 y1 y2 y3 y4 y5 y6 y7 y8 y9)) ∧ (∀ y0 y1 y2, LeO (laws_FnExactAskPermit.j2 k y0 y1 y2) (laws_FnExactAskPermit.j2 (k + 1) y0 y1 y2))
  | 0 => ⟨fun _ _ _ _ _ _ _ _ _ _ _ _ _ r h => by simp [laws_FnExactAskPermit.j0] at h, fun _ _ _ _ _ _ _ _ _ _ r h => by simp [laws_FnExactAskPermit.j1] at h, fun _ _ _ r h => by simp [laws_FnExactAskPermit.j2] at h⟩
  | k + 1 => by
    obtain ⟨ih0, ih1, ih2⟩ := laws_FnExactAskPermit.mono_l k
    refine ⟨?_, ?_, ?_⟩
    · intro y0 y1 y2 y3 y4 y5 y6 y7 y8 y9 y10 y11 y12
      unfold laws_FnExactAskPermit.j0
      repeat' first
      | (with_reducible exact ih0 _ _ _ _ _ _ _ _ _ _ _ _ _)
      | (with_reducible exact ih1 _ _ _ _ _ _ _ _ _ _)
      | (with_reducible exact ih2 _ _ _)
      | (with_reducible exact impl_AskPermit.mono _ _ _ _ _ _)
      | (with_reducible exact laws_eqPermitS.mono _ _ _)
      | (with_reducible exact laws_heldPermitS.mono _ _ _)
      | (with_reducible exact laws_markPermitS.mono _ _ _)
      | (with_reducible exact laws_szPermitS.mono _ _ _)
      | (with_reducible exact laws_toPermitS.mono _ _)
      | (with_reducible exact spec_AskPermit.mono _ _ _ _ _ _)
      | (with_reducible exact LeO.refl _)
      | (with_reducible exact LeO.none _)
      | (with_reducible refine LeO.ite ?_ ?_)
      | (with_reducible refine LeO.bind ?_ (fun _ => ?_))
      | exact ih0 _ _ _ _ _ _ _ _ _ _ _ _ _
      | exact ih1 _ _ _ _ _ _ _ _ _ _
      | exact ih2 _ _ _
      | exact impl_AskPermit.mono _ _ _ _ _ _
      | exact laws_eqPermitS.mono _ _ _
      | exact laws_heldPermitS.mono _ _ _
      | exact laws_markPermitS.mono _ _ _
      | exact laws_szPermitS.mono _ _ _
      | exact laws_toPermitS.mono _ _
      | exact spec_AskPermit.mono _ _ _ _ _ _
      | exact LeO.none _
      | refine LeO.ite ?_ ?_
      | refine LeO.bind ?_ (fun _ => ?_)
    · intro y0 y1 y2 y3 y4 y5 y6 y7 y8 y9
      unfold laws_FnExactAskPermit.j1
      repeat' first
      | (with_reducible exact ih0 _ _ _ _ _ _ _ _ _ _ _ _ _)
      | (with_reducible exact ih1 _ _ _ _ _ _ _ _ _ _)
      | (with_reducible exact ih2 _ _ _)
      | (with_reducible exact impl_AskPermit.mono _ _ _ _ _ _)
      | (with_reducible exact laws_eqPermitS.mono _ _ _)
      | (with_reducible exact laws_heldPermitS.mono _ _ _)
      | (with_reducible exact laws_markPermitS.mono _ _ _)
      | (with_reducible exact laws_szPermitS.mono _ _ _)
      | (with_reducible exact laws_toPermitS.mono _ _)
      | (with_reducible exact spec_AskPermit.mono _ _ _ _ _ _)
      | (with_reducible exact LeO.refl _)
      | (with_reducible exact LeO.none _)
      | (with_reducible refine LeO.ite ?_ ?_)
      | (with_reducible refine LeO.bind ?_ (fun _ => ?_))
      | exact ih0 _ _ _ _ _ _ _ _ _ _ _ _ _
      | exact ih1 _ _ _ _ _ _ _ _ _ _
      | exact ih2 _ _ _
      | exact impl_AskPermit.mono _ _ _ _ _ _
      | exact laws_eqPermitS.mono _ _ _
      | exact laws_heldPermitS.mono _ _ _
      | exact laws_markPermitS.mono _ _ _
      | exact laws_szPermitS.mono _ _ _
      | exact laws_toPermitS.mono _ _
      | exact spec_AskPermit.mono _ _ _ _ _ _
      | exact LeO.none _
      | refine LeO.ite ?_ ?_
      | refine LeO.bind ?_ (fun _ => ?_)
    · intro y0 y1 y2
      unfold laws_FnExactAskPermit.j2
      repeat' first
      | (with_reducible exact ih0 _ _ _ _ _ _ _ _ _ _ _ _ _)
      | (with_reducible exact ih1 _ _ _ _ _ _ _ _ _ _)
      | (with_reducible exact ih2 _ _ _)
      | (with_reducible exact impl_AskPermit.mono _ _ _ _ _ _)
      | (with_reducible exact laws_eqPermitS.mono _ _ _)
      | (with_reducible exact laws_heldPermitS.mono _ _ _)
      | (with_reducible exact laws_markPermitS.mono _ _ _)
      | (with_reducible exact laws_szPermitS.mono _ _ _)
      | (with_reducible exact laws_toPermitS.mono _ _)
      | (with_reducible exact spec_AskPermit.mono _ _ _ _ _ _)
      | (with_reducible exact LeO.refl _)
      | (with_reducible exact LeO.none _)
      | (with_reducible refine LeO.ite ?_ ?_)
      | (with_reducible refine LeO.bind ?_ (fun _ => ?_))
      | exact ih0 _ _ _ _ _ _ _ _ _ _ _ _ _
      | exact ih1 _ _ _ _ _ _ _ _ _ _
      | exact ih2 _ _ _
      | exact impl_AskPermit.mono _ _ _ _ _ _
      | exact laws_eqPermitS.mono _ _ _
      | exact laws_heldPermitS.mono _ _ _
      | exact laws_markPermitS.mono _ _ _
      | exact laws_szPermitS.mono _ _ _
      | exact laws_toPermitS.mono _ _
      | exact spec_AskPermit.mono _ _ _ _ _ _
      | exact LeO.none _
      | refine LeO.ite ?_ ?_
      | refine LeO.bind ?_ (fun _ => ?_)
theorem laws_FnExactAskPermit.mono : ∀ a0 a1 a2 a3 a4 k, LeO (laws_FnExactAskPermit.f k a0 a1 a2 a3 a4) (laws_FnExactAskPermit.f (k + 1) a0 a1 a2 a3 a4) := by
  intro a0 a1 a2 a3 a4 k
  obtain ⟨ih0, ih1, ih2⟩ := laws_FnExactAskPermit.mono_l k
  unfold laws_FnExactAskPermit.f
  repeat' first
      | (with_reducible exact ih0 _ _ _ _ _ _ _ _ _ _ _ _ _)
      | (with_reducible exact ih1 _ _ _ _ _ _ _ _ _ _)
      | (with_reducible exact ih2 _ _ _)
      | (with_reducible exact impl_AskPermit.mono _ _ _ _ _ _)
      | (with_reducible exact laws_eqPermitS.mono _ _ _)
      | (with_reducible exact laws_heldPermitS.mono _ _ _)
      | (with_reducible exact laws_markPermitS.mono _ _ _)
      | (with_reducible exact laws_szPermitS.mono _ _ _)
      | (with_reducible exact laws_toPermitS.mono _ _)
      | (with_reducible exact spec_AskPermit.mono _ _ _ _ _ _)
      | (with_reducible exact LeO.refl _)
      | (with_reducible exact LeO.none _)
      | (with_reducible refine LeO.ite ?_ ?_)
      | (with_reducible refine LeO.bind ?_ (fun _ => ?_))
      | exact ih0 _ _ _ _ _ _ _ _ _ _ _ _ _
      | exact ih1 _ _ _ _ _ _ _ _ _ _
      | exact ih2 _ _ _
      | exact impl_AskPermit.mono _ _ _ _ _ _
      | exact laws_eqPermitS.mono _ _ _
      | exact laws_heldPermitS.mono _ _ _
      | exact laws_markPermitS.mono _ _ _
      | exact laws_szPermitS.mono _ _ _
      | exact laws_toPermitS.mono _ _
      | exact spec_AskPermit.mono _ _ _ _ _ _
      | exact LeO.none _
      | refine LeO.ite ?_ ?_
      | refine LeO.bind ?_ (fun _ => ?_)
set_option maxHeartbeats 8000000 in
set_option maxRecDepth 100000 in
theorem laws_FnExactAskPermit.calls (k : Nat) (A0 : Option Addr) (c0 : Nat) (l0 : List (S23)) (a1 : ByteArray) (a2 : Int) (a3 : Int) (a4 : Int) (r : Bool) (w : World) (hr0 : Kd.C k23 w A0 l0.length l0) (hc0 : l0.length ≤ c0) (h : laws_FnExactAskPermit.f k l0 a1 a2 a3 a4 = some r) (hT : r = true) :
    Calls Tryd.prog 7 #[.slice A0 l0.length c0, .string a1, .int .i64 a2, .int .i64 a3, .int .i64 a4] w fun e w' => e = .returned (.bool r) ∧ Below w.heap.size w w' := by
  have HR0 := Aside0.mk hr0
  have HC0 := Aside0.mk hc0
  clear hr0 hc0
  have HB := Aside0.mk (Below.refl w.heap.size w)
  have H : (if (a1.size : Int) > 1048576 then (some true) else ((laws_szPermitS.f k l0 1048576).bind fun t216 => (if t216 < 0 then (some true) else ((laws_toPermitS.f k l0).bind fun t217 => ((spec_AskPermit.f k t217 a1 a2 a3 a4).bind fun bt220 => ((laws_toPermitS.f k l0).bind fun t225 => ((impl_AskPermit.f k t225 a1 a2 a3 a4).bind fun bt228 => ((laws_eqPermitS.f k bt228.1 bt220.1).bind fun t233 => (if t233 = true then (if bt228.2.1 = bt220.2.1 then (laws_FnExactAskPermit.j0 k l0 a1 a2 a3 a4 bt220.1 bt220.2.1 bt220.2.2 t225 bt228.1 bt228.2.1 bt228.2.2 (bt228.2.2 != bt220.2.2)) else (laws_FnExactAskPermit.j0 k l0 a1 a2 a3 a4 bt220.1 bt220.2.1 bt220.2.2 t225 bt228.1 bt228.2.1 bt228.2.2 true)) else (laws_FnExactAskPermit.j0 k l0 a1 a2 a3 a4 bt220.1 bt220.2.1 bt220.2.2 t225 bt228.1 bt228.2.1 bt228.2.2 true)))))))))) = some r := h
  clear h
  by_cases c6 : (a1.size : Int) > 1048576
  · rw [if_pos c6] at H
    have c6b0 : decide (1048576 < (a1.size : Int)) = true := decide_eq_true c6
    have c6b1 : decide (1048576 < a1.size) = true := decide_eq_true (by omega)
    clear c6
    obtain rfl := (Option.some.inj H)
    go_enter Tryd.func7, Tryd.ntmps7
    go_wp2
    go_ret
    exact ⟨by first | rfl | (simp [errW_none, errW_some] <;> rfl) | (simp [*, errW_none, errW_some] <;> rfl), (upB HB.out)⟩
  · rw [if_neg c6] at H
    have c6b0 : decide (1048576 < (a1.size : Int)) = false := decide_eq_false c6
    have c6b1 : decide (1048576 < a1.size) = false := decide_eq_false (by omega)
    clear c6
    replace H := Option.bind_eq_some_iff.mp H
    obtain ⟨t216, A70, H⟩ := H
    replace H : (if t216 < 0 then (some true) else ((laws_toPermitS.f k l0).bind fun t217 => ((spec_AskPermit.f k t217 a1 a2 a3 a4).bind fun bt220 => ((laws_toPermitS.f k l0).bind fun t225 => ((impl_AskPermit.f k t225 a1 a2 a3 a4).bind fun bt228 => ((laws_eqPermitS.f k bt228.1 bt220.1).bind fun t233 => (if t233 = true then (if bt228.2.1 = bt220.2.1 then (laws_FnExactAskPermit.j0 k l0 a1 a2 a3 a4 bt220.1 bt220.2.1 bt220.2.2 t225 bt228.1 bt228.2.1 bt228.2.2 (bt228.2.2 != bt220.2.2)) else (laws_FnExactAskPermit.j0 k l0 a1 a2 a3 a4 bt220.1 bt220.2.1 bt220.2.2 t225 bt228.1 bt228.2.1 bt228.2.2 true)) else (laws_FnExactAskPermit.j0 k l0 a1 a2 a3 a4 bt220.1 bt220.2.1 bt220.2.2 t225 bt228.1 bt228.2.1 bt228.2.2 true)))))))) = some r := H
    have A7 := Aside0.mk A70
    clear A70
    by_cases c8 : t216 < 0
    · rw [if_pos c8] at H
      have c8b0 : decide (t216 < 0) = true := decide_eq_true c8
      clear c8
      obtain rfl := (Option.some.inj H)
      go_enter Tryd.func7, Tryd.ntmps7
      go_wp2_with (first | ((with_reducible refine gate_callee (f := 18) rfl ?_); refine goesL_ (some 30) rfl rfl Tryd.func18 (by kernel_rfl) rfl #[.slice A0 l0.length c0, .int .i64 1048576] rfl argsB ?_; (with_reducible refine (laws_szPermitS.calls k _ _ l0 1048576 t216 _ ?side1 ?side2 A7.out).mono ?_); (case side1 => repeat (first | exact HR0.out | (with_reducible refine Kd.C_alloc ?_ _) | (with_reducible refine Kd.C_drewN ?_ _) | (with_reducible refine Kd.C_drew ?_))); (case side2 => exact HC0.out); rintro e w9 ⟨rfl, hb⟩; refine ⟨_, rfl, ?_⟩; have n0_ := Aside0.mk (below_step (upB HB.out) hb); clear HB; have HB := n0_; clear n0_; (try clear hb); (try clear hk)))
      go_ret
      exact ⟨by first | rfl | (simp [errW_none, errW_some] <;> rfl) | (simp [*, errW_none, errW_some] <;> rfl), (upB HB.out)⟩
    · rw [if_neg c8] at H
      have c8b0 : decide (t216 < 0) = false := decide_eq_false c8
      clear c8
      replace H := Option.bind_eq_some_iff.mp H
      obtain ⟨t217, A100, H⟩ := H
      replace H : ((spec_AskPermit.f k t217 a1 a2 a3 a4).bind fun bt220 => ((laws_toPermitS.f k l0).bind fun t225 => ((impl_AskPermit.f k t225 a1 a2 a3 a4).bind fun bt228 => ((laws_eqPermitS.f k bt228.1 bt220.1).bind fun t233 => (if t233 = true then (if bt228.2.1 = bt220.2.1 then (laws_FnExactAskPermit.j0 k l0 a1 a2 a3 a4 bt220.1 bt220.2.1 bt220.2.2 t225 bt228.1 bt228.2.1 bt228.2.2 (bt228.2.2 != bt220.2.2)) else (laws_FnExactAskPermit.j0 k l0 a1 a2 a3 a4 bt220.1 bt220.2.1 bt220.2.2 t225 bt228.1 bt228.2.1 bt228.2.2 true)) else (laws_FnExactAskPermit.j0 k l0 a1 a2 a3 a4 bt220.1 bt220.2.1 bt220.2.2 t225 bt228.1 bt228.2.1 bt228.2.2 true)))))) = some r := H
      have A10 := Aside0.mk A100
      clear A100
      replace H := Option.bind_eq_some_iff.mp H
      obtain ⟨⟨t220, t221, t222⟩, A110, H⟩ := H
      replace H : ((laws_toPermitS.f k l0).bind fun t225 => ((impl_AskPermit.f k t225 a1 a2 a3 a4).bind fun bt228 => ((laws_eqPermitS.f k bt228.1 t220).bind fun t233 => (if t233 = true then (if bt228.2.1 = t221 then (laws_FnExactAskPermit.j0 k l0 a1 a2 a3 a4 t220 t221 t222 t225 bt228.1 bt228.2.1 bt228.2.2 (bt228.2.2 != t222)) else (laws_FnExactAskPermit.j0 k l0 a1 a2 a3 a4 t220 t221 t222 t225 bt228.1 bt228.2.1 bt228.2.2 true)) else (laws_FnExactAskPermit.j0 k l0 a1 a2 a3 a4 t220 t221 t222 t225 bt228.1 bt228.2.1 bt228.2.2 true))))) = some r := H
      have A11 := Aside0.mk A110
      clear A110
      replace H := Option.bind_eq_some_iff.mp H
      obtain ⟨t225, A120, H⟩ := H
      replace H : ((impl_AskPermit.f k t225 a1 a2 a3 a4).bind fun bt228 => ((laws_eqPermitS.f k bt228.1 t220).bind fun t233 => (if t233 = true then (if bt228.2.1 = t221 then (laws_FnExactAskPermit.j0 k l0 a1 a2 a3 a4 t220 t221 t222 t225 bt228.1 bt228.2.1 bt228.2.2 (bt228.2.2 != t222)) else (laws_FnExactAskPermit.j0 k l0 a1 a2 a3 a4 t220 t221 t222 t225 bt228.1 bt228.2.1 bt228.2.2 true)) else (laws_FnExactAskPermit.j0 k l0 a1 a2 a3 a4 t220 t221 t222 t225 bt228.1 bt228.2.1 bt228.2.2 true)))) = some r := H
      have A12 := Aside0.mk A120
      clear A120
      replace H := Option.bind_eq_some_iff.mp H
      obtain ⟨⟨t228, t229, t230⟩, A130, H⟩ := H
      replace H : ((laws_eqPermitS.f k t228 t220).bind fun t233 => (if t233 = true then (if t229 = t221 then (laws_FnExactAskPermit.j0 k l0 a1 a2 a3 a4 t220 t221 t222 t225 t228 t229 t230 (t230 != t222)) else (laws_FnExactAskPermit.j0 k l0 a1 a2 a3 a4 t220 t221 t222 t225 t228 t229 t230 true)) else (laws_FnExactAskPermit.j0 k l0 a1 a2 a3 a4 t220 t221 t222 t225 t228 t229 t230 true))) = some r := H
      have A13 := Aside0.mk A130
      clear A130
      have HC14 := Aside0.mk H
      clear H
      go_enter Tryd.func7, Tryd.ntmps7
      go_upto_region 10 with (first | ((with_reducible refine gate_callee (f := 18) rfl ?_); refine goesL_ (some 30) rfl rfl Tryd.func18 (by kernel_rfl) rfl #[.slice A0 l0.length c0, .int .i64 1048576] rfl argsB ?_; (with_reducible refine (laws_szPermitS.calls k _ _ l0 1048576 t216 _ ?side1 ?side2 A7.out).mono ?_); (case side1 => repeat (first | exact HR0.out | (with_reducible refine Kd.C_alloc ?_ _) | (with_reducible refine Kd.C_drewN ?_ _) | (with_reducible refine Kd.C_drew ?_))); (case side2 => exact HC0.out); rintro e w15 ⟨rfl, hb⟩; refine ⟨_, rfl, ?_⟩; have n0_ := Aside0.mk (below_step (upB HB.out) hb); clear HB; have HB := n0_; clear n0_; (try clear hb); (try clear hk)) | ((with_reducible refine gate_callee (f := 20) rfl ?_); refine goesL_ (some 35) rfl rfl Tryd.func20 (by kernel_rfl) rfl #[.slice A0 l0.length c0] rfl argsB ?_; (with_reducible refine (laws_toPermitS.calls k _ _ l0 t217 _ ?side1 ?side2 A10.out).mono ?_); (case side1 => repeat (first | exact (Kd.C_below HR0.out HB.out) | (with_reducible refine Kd.C_alloc ?_ _) | (with_reducible refine Kd.C_drewN ?_ _) | (with_reducible refine Kd.C_drew ?_))); (case side2 => exact HC0.out); rintro e w16 ⟨v218, rfl, ho0, hb⟩; refine ⟨_, rfl, ?_⟩; have n0_ := Aside0.mk (Kd.R_lower ho0 (below_size (upB HB.out))); have n1_ := Aside0.mk (below_step (upB HB.out) hb); clear HB; have HO219 := n0_; have HB := n1_; clear n0_ n1_; (try clear hb); (try clear hk); (try clear ho0); obtain ⟨Ao17, co17, eo17⟩ := Kd.R_slice HO219.out; subst eo17) | ((with_reducible refine gate_callee (f := 27) rfl ?_); refine goesL_ (some 40) rfl rfl Tryd.func27 (by kernel_rfl) rfl #[.slice Ao17 t217.length co17, .string a1, .int .i64 a2, .int .i64 a3, .int .i64 a4] rfl argsB ?_; (with_reducible refine (spec_AskPermit.calls k _ _ t217 a1 a2 a3 a4 t220 t221 t222 _ ?side1 ?side2 A11.out).mono ?_); (case side1 => repeat (first | exact (Kd.R_reads' HO219.out).2.2 | (with_reducible refine Kd.C_alloc ?_ _) | (with_reducible refine Kd.C_drewN ?_ _) | (with_reducible refine Kd.C_drew ?_))); (case side2 => exact (Kd.R_reads' HO219.out).2.1); rintro e w18 ⟨v223, rfl, ho0, hb⟩; refine ⟨_, rfl, ?_⟩; have n0_ := Aside0.mk (Kd.R_elder' (upR HO219.out) (Kd.R_base ho0) hb); have n1_ := Aside0.mk (Kd.R_lower (Kd.R_new' ho0 (Kd.R_lt (upR HO219.out))) (below_size (upB HB.out))); have n2_ := Aside0.mk (below_step (upB HB.out) hb); clear HO219; clear HB; have HO219 := n0_; have HO224 := n1_; have HB := n2_; clear n0_ n1_ n2_; (try clear hb); (try clear hk); (try clear ho0)) | ((with_reducible refine gate_callee (f := 20) rfl ?_); refine goesL_ (some 45) rfl rfl Tryd.func20 (by kernel_rfl) rfl #[.slice A0 l0.length c0] rfl argsB ?_; (with_reducible refine (laws_toPermitS.calls k _ _ l0 t225 _ ?side1 ?side2 A12.out).mono ?_); (case side1 => repeat (first | exact (Kd.C_below HR0.out HB.out) | (with_reducible refine Kd.C_alloc ?_ _) | (with_reducible refine Kd.C_drewN ?_ _) | (with_reducible refine Kd.C_drew ?_))); (case side2 => exact HC0.out); rintro e w19 ⟨v226, rfl, ho0, hb⟩; refine ⟨_, rfl, ?_⟩; have n0_ := Aside0.mk (Kd.R_elder' (upR HO219.out) (Kd.R_base ho0) hb); have n1_ := Aside0.mk (Kd.R_elder' (upR HO224.out) (Kd.R_base ho0) hb); have n2_ := Aside0.mk (Kd.R_lower (Kd.R_new' (Kd.R_new' ho0 (Kd.R_lt (upR HO219.out))) (Kd.R_lt (upR HO224.out))) (below_size (upB HB.out))); have n3_ := Aside0.mk (below_step (upB HB.out) hb); clear HO219; clear HO224; clear HB; have HO219 := n0_; have HO224 := n1_; have HO227 := n2_; have HB := n3_; clear n0_ n1_ n2_ n3_; (try clear hb); (try clear hk); (try clear ho0); obtain ⟨Ao20, co20, eo20⟩ := Kd.R_slice HO227.out; subst eo20) | ((with_reducible refine gate_callee (f := 28) rfl ?_); refine goesL_ (some 52) rfl rfl Tryd.func28 (by kernel_rfl) rfl #[.slice Ao20 t225.length co20, .string a1, .int .i64 a2, .int .i64 a3, .int .i64 a4] rfl argsB ?_; (with_reducible refine (impl_AskPermit.calls k _ _ t225 a1 a2 a3 a4 t228 t229 t230 _ ?side1 ?side2 A13.out).mono ?_); (case side1 => repeat (first | exact (Kd.R_reads' HO227.out).2.2 | (with_reducible refine Kd.C_alloc ?_ _) | (with_reducible refine Kd.C_drewN ?_ _) | (with_reducible refine Kd.C_drew ?_))); (case side2 => exact (Kd.R_reads' HO227.out).2.1); rintro e w21 ⟨v231, rfl, ho0, hb⟩; refine ⟨_, rfl, ?_⟩; have n0_ := Aside0.mk (Kd.R_elder' (upR HO219.out) (Kd.R_base ho0) hb); have n1_ := Aside0.mk (Kd.R_elder' (upR HO224.out) (Kd.R_base ho0) hb); have n2_ := Aside0.mk (Kd.R_elder' (upR HO227.out) (Kd.R_base ho0) hb); have n3_ := Aside0.mk (Kd.R_lower (Kd.R_new' (Kd.R_new' (Kd.R_new' ho0 (Kd.R_lt (upR HO219.out))) (Kd.R_lt (upR HO224.out))) (Kd.R_lt (upR HO227.out))) (below_size (upB HB.out))); have n4_ := Aside0.mk (below_step (upB HB.out) hb); clear HO219; clear HO224; clear HO227; clear HB; have HO219 := n0_; have HO224 := n1_; have HO227 := n2_; have HO232 := n3_; have HB := n4_; clear n0_ n1_ n2_ n3_ n4_; (try clear hb); (try clear hk); (try clear ho0)))
      (try simp only [Act.put, List.setIfInBounds_toArray, List.set_cons_zero, List.set_cons_succ])
      go_cut [69] (fun v69 wc => ∃ (kq : Nat) (x69_13 : Bool), v69 = .bool x69_13 ∧ Aside0 (laws_FnExactAskPermit.j0 kq l0 a1 a2 a3 a4 t220 t221 t222 t225 t228 t229 t230 x69_13 = some r) ∧ Aside0 (kq ≤ k) ∧ Aside0 (Kd.R k26 26 wc w.heap.size (fun k_ => some k_ ≠ ((.slice Ao20 t225.length co20) : Value).ownBlock ∧ some k_ ≠ (v231 : Value).ownBlock) v223 t220) ∧ Aside0 (Kd.R k26 26 wc w.heap.size (fun k_ => some k_ ≠ (v223 : Value).ownBlock ∧ some k_ ≠ (v231 : Value).ownBlock) (.slice Ao20 t225.length co20) t225) ∧ Aside0 (Kd.R k26 26 wc w.heap.size (fun k_ => some k_ ≠ (v223 : Value).ownBlock ∧ some k_ ≠ ((.slice Ao20 t225.length co20) : Value).ownBlock) v231 t228) ∧ Aside0 (Below w.heap.size w wc))
      case first =>
        have H := HC14.out
        clear HC14
        replace H := Option.bind_eq_some_iff.mp H
        obtain ⟨t233, A220, H⟩ := H
        replace H : (if t233 = true then (if t229 = t221 then (laws_FnExactAskPermit.j0 k l0 a1 a2 a3 a4 t220 t221 t222 t225 t228 t229 t230 (t230 != t222)) else (laws_FnExactAskPermit.j0 k l0 a1 a2 a3 a4 t220 t221 t222 t225 t228 t229 t230 true)) else (laws_FnExactAskPermit.j0 k l0 a1 a2 a3 a4 t220 t221 t222 t225 t228 t229 t230 true)) = some r := H
        have A22 := Aside0.mk A220
        clear A220
        by_cases c23 : t233 = true
        · subst c23
          have H1 : (if t229 = t221 then (laws_FnExactAskPermit.j0 k l0 a1 a2 a3 a4 t220 t221 t222 t225 t228 t229 t230 (t230 != t222)) else (laws_FnExactAskPermit.j0 k l0 a1 a2 a3 a4 t220 t221 t222 t225 t228 t229 t230 true)) = some r := by rw [if_pos rfl] at H; exact H
          clear H
          have H := H1
          clear H1
          by_cases c24 : t229 = t221
          · rw [if_pos c24] at H
            have c24b0 : (t229 == t221) = true := beq_iff_eq.mpr c24
            have c24b1 : (t229 != t221) = false := bne_eq_false_iff_eq.mpr c24
            clear c24
            (first | rw [c24b0] | (simp only [i64_w, i32_w]; rw [c24b0]) | skip)
            have H' := Aside0.mk H
            clear H
            obtain ⟨Ao25, co25, eo25⟩ := Kd.R_slice HO232.out
            subst eo25
            obtain ⟨Ao26, co26, eo26⟩ := Kd.R_slice HO224.out
            subst eo26
            go_wp2_with (first | ((with_reducible refine gate_callee (f := 22) rfl ?_); refine goesL_ (some 58) rfl rfl Tryd.func22 (by kernel_rfl) rfl #[.slice Ao25 t228.length co25, .slice Ao26 t220.length co26] rfl argsB ?_; (with_reducible refine (laws_eqPermitS.calls k _ _ t228 _ _ t220 true _ ?side1 ?side2 ?side3 ?side4 A22.out).mono ?_); (case side1 => repeat (first | exact (Kd.R_reads' HO232.out).2.2 | (with_reducible refine Kd.C_alloc ?_ _) | (with_reducible refine Kd.C_drewN ?_ _) | (with_reducible refine Kd.C_drew ?_))); (case side2 => exact (Kd.R_reads' HO232.out).2.1); (case side3 => repeat (first | exact (Kd.R_reads' HO224.out).2.2 | (with_reducible refine Kd.C_alloc ?_ _) | (with_reducible refine Kd.C_drewN ?_ _) | (with_reducible refine Kd.C_drew ?_))); (case side4 => exact (Kd.R_reads' HO224.out).2.1); rintro e w27 ⟨rfl, hb⟩; refine ⟨_, rfl, ?_⟩; have n0_ := Aside0.mk (Kd.R_below (upR HO219.out) hb); have n1_ := Aside0.mk (Kd.R_below (upR HO224.out) hb); have n2_ := Aside0.mk (Kd.R_below (upR HO227.out) hb); have n3_ := Aside0.mk (Kd.R_below (upR HO232.out) hb); have n4_ := Aside0.mk (below_step (upB HB.out) hb); clear HO219; clear HO224; clear HO227; clear HO232; clear HB; have HO219 := n0_; have HO224 := n1_; have HO227 := n2_; have HO232 := n3_; have HB := n4_; clear n0_ n1_ n2_ n3_ n4_; (try clear hb); (try clear hk)))
            go_meet
            case rel => exact ⟨_, ((t230 != t222)), (by first | rfl | (simp; done) | (simp [*]; done)), H', ⟨by first | omega | exact Nat.le_refl _⟩, ⟨by (with_reducible repeat (first | apply Kd.R_alloc | apply Kd.R_drewN | apply Kd.R_drew)); exact Kd.R_mono HO224.out (fun _ hk => ⟨hk.1.2, hk.2⟩)⟩, ⟨by (with_reducible repeat (first | apply Kd.R_alloc | apply Kd.R_drewN | apply Kd.R_drew)); exact Kd.R_mono HO227.out (fun _ hk => ⟨hk.1.2, hk.2⟩)⟩, ⟨by (with_reducible repeat (first | apply Kd.R_alloc | apply Kd.R_drewN | apply Kd.R_drew)); exact Kd.R_mono HO232.out (fun _ hk => ⟨hk.1.2, hk.2⟩)⟩, ⟨(upB HB.out)⟩⟩
          · rw [if_neg c24] at H
            have c24b0 : (t229 == t221) = false := beq_eq_false_iff_ne.mpr c24
            have c24b1 : (t229 != t221) = true := bne_iff_ne.mpr c24
            (first | rw [c24b0] | (simp only [i64_w, i32_w]; rw [c24b0]) | skip)
            have H' := Aside0.mk H
            clear H
            obtain ⟨Ao28, co28, eo28⟩ := Kd.R_slice HO232.out
            subst eo28
            obtain ⟨Ao29, co29, eo29⟩ := Kd.R_slice HO224.out
            subst eo29
            go_wp2_with (first | ((with_reducible refine gate_callee (f := 22) rfl ?_); refine goesL_ (some 58) rfl rfl Tryd.func22 (by kernel_rfl) rfl #[.slice Ao28 t228.length co28, .slice Ao29 t220.length co29] rfl argsB ?_; (with_reducible refine (laws_eqPermitS.calls k _ _ t228 _ _ t220 true _ ?side1 ?side2 ?side3 ?side4 A22.out).mono ?_); (case side1 => repeat (first | exact (Kd.R_reads' HO232.out).2.2 | (with_reducible refine Kd.C_alloc ?_ _) | (with_reducible refine Kd.C_drewN ?_ _) | (with_reducible refine Kd.C_drew ?_))); (case side2 => exact (Kd.R_reads' HO232.out).2.1); (case side3 => repeat (first | exact (Kd.R_reads' HO224.out).2.2 | (with_reducible refine Kd.C_alloc ?_ _) | (with_reducible refine Kd.C_drewN ?_ _) | (with_reducible refine Kd.C_drew ?_))); (case side4 => exact (Kd.R_reads' HO224.out).2.1); rintro e w30 ⟨rfl, hb⟩; refine ⟨_, rfl, ?_⟩; have n0_ := Aside0.mk (Kd.R_below (upR HO219.out) hb); have n1_ := Aside0.mk (Kd.R_below (upR HO224.out) hb); have n2_ := Aside0.mk (Kd.R_below (upR HO227.out) hb); have n3_ := Aside0.mk (Kd.R_below (upR HO232.out) hb); have n4_ := Aside0.mk (below_step (upB HB.out) hb); clear HO219; clear HO224; clear HO227; clear HO232; clear HB; have HO219 := n0_; have HO224 := n1_; have HO227 := n2_; have HO232 := n3_; have HB := n4_; clear n0_ n1_ n2_ n3_ n4_; (try clear hb); (try clear hk)))
            go_meet
            case rel => exact ⟨_, (true), (by first | rfl | (simp; done) | (simp [*]; done)), H', ⟨by first | omega | exact Nat.le_refl _⟩, ⟨by (with_reducible repeat (first | apply Kd.R_alloc | apply Kd.R_drewN | apply Kd.R_drew)); exact Kd.R_mono HO224.out (fun _ hk => ⟨hk.1.2, hk.2⟩)⟩, ⟨by (with_reducible repeat (first | apply Kd.R_alloc | apply Kd.R_drewN | apply Kd.R_drew)); exact Kd.R_mono HO227.out (fun _ hk => ⟨hk.1.2, hk.2⟩)⟩, ⟨by (with_reducible repeat (first | apply Kd.R_alloc | apply Kd.R_drewN | apply Kd.R_drew)); exact Kd.R_mono HO232.out (fun _ hk => ⟨hk.1.2, hk.2⟩)⟩, ⟨(upB HB.out)⟩⟩
        · replace c23 := Bool.eq_false_iff.mpr c23
          subst c23
          have H1 : (laws_FnExactAskPermit.j0 k l0 a1 a2 a3 a4 t220 t221 t222 t225 t228 t229 t230 true) = some r := by rw [if_neg (show ¬ (false = true) by decide)] at H; exact H
          clear H
          have H := H1
          clear H1
          have H' := Aside0.mk H
          clear H
          obtain ⟨Ao31, co31, eo31⟩ := Kd.R_slice HO232.out
          subst eo31
          obtain ⟨Ao32, co32, eo32⟩ := Kd.R_slice HO224.out
          subst eo32
          go_wp2_with (first | ((with_reducible refine gate_callee (f := 22) rfl ?_); refine goesL_ (some 58) rfl rfl Tryd.func22 (by kernel_rfl) rfl #[.slice Ao31 t228.length co31, .slice Ao32 t220.length co32] rfl argsB ?_; (with_reducible refine (laws_eqPermitS.calls k _ _ t228 _ _ t220 false _ ?side1 ?side2 ?side3 ?side4 A22.out).mono ?_); (case side1 => repeat (first | exact (Kd.R_reads' HO232.out).2.2 | (with_reducible refine Kd.C_alloc ?_ _) | (with_reducible refine Kd.C_drewN ?_ _) | (with_reducible refine Kd.C_drew ?_))); (case side2 => exact (Kd.R_reads' HO232.out).2.1); (case side3 => repeat (first | exact (Kd.R_reads' HO224.out).2.2 | (with_reducible refine Kd.C_alloc ?_ _) | (with_reducible refine Kd.C_drewN ?_ _) | (with_reducible refine Kd.C_drew ?_))); (case side4 => exact (Kd.R_reads' HO224.out).2.1); rintro e w33 ⟨rfl, hb⟩; refine ⟨_, rfl, ?_⟩; have n0_ := Aside0.mk (Kd.R_below (upR HO219.out) hb); have n1_ := Aside0.mk (Kd.R_below (upR HO224.out) hb); have n2_ := Aside0.mk (Kd.R_below (upR HO227.out) hb); have n3_ := Aside0.mk (Kd.R_below (upR HO232.out) hb); have n4_ := Aside0.mk (below_step (upB HB.out) hb); clear HO219; clear HO224; clear HO227; clear HO232; clear HB; have HO219 := n0_; have HO224 := n1_; have HO227 := n2_; have HO232 := n3_; have HB := n4_; clear n0_ n1_ n2_ n3_ n4_; (try clear hb); (try clear hk)))
          go_meet
          case rel => exact ⟨_, (true), (by first | rfl | (simp; done) | (simp [*]; done)), H', ⟨by first | omega | exact Nat.le_refl _⟩, ⟨by (with_reducible repeat (first | apply Kd.R_alloc | apply Kd.R_drewN | apply Kd.R_drew)); exact Kd.R_mono HO224.out (fun _ hk => ⟨hk.1.2, hk.2⟩)⟩, ⟨by (with_reducible repeat (first | apply Kd.R_alloc | apply Kd.R_drewN | apply Kd.R_drew)); exact Kd.R_mono HO227.out (fun _ hk => ⟨hk.1.2, hk.2⟩)⟩, ⟨by (with_reducible repeat (first | apply Kd.R_alloc | apply Kd.R_drewN | apply Kd.R_drew)); exact Kd.R_mono HO232.out (fun _ hk => ⟨hk.1.2, hk.2⟩)⟩, ⟨(upB HB.out)⟩⟩
      case rest =>
        clear HC14
        try clear c6
        try clear c6b0
        try clear c6b1
        try clear c8
        try clear c8b0
        try clear c23
        try clear c24
        try clear c24b0
        try clear c24b1
        obtain ⟨kq, x69_13, rfl, HA, HJ13, HO_12, HO_15, HO_16, HB⟩ := hcut
        cases kq with
        | zero => exact absurd HA.out (by simp [laws_FnExactAskPermit.j0])
        | succ kj13 =>
          have H := HA.out
          clear HA
          simp only [laws_FnExactAskPermit.j0] at H
          by_cases c34 : x69_13 = true
          · subst c34
            have H1 : (some false) = some r := by rw [if_pos rfl] at H; exact H
            clear H
            have H := H1
            clear H1
            exact absurd (Option.some.inj H) (by rw [hT]; decide)
          · replace c34 := Bool.eq_false_iff.mpr c34
            subst c34
            have H1 : ((laws_toPermitS.f kj13 l0).bind fun t234 => ((laws_eqPermitS.f kj13 t225 t234).bind fun t237 => (if t237 = true then ((laws_markPermitS.f kj13 t225 1).bind fun bt238 => (if bt238.1 < 0 then (laws_FnExactAskPermit.j1 kj13 l0 a1 a2 a3 a4 t220 t221 t222 t228 true) else ((laws_eqPermitS.f kj13 t228 t220).bind fun t240 => (if t240 = true then (if t229 = t221 then (laws_FnExactAskPermit.j1 kj13 l0 a1 a2 a3 a4 t220 t221 t222 t228 (t230 != t222)) else (laws_FnExactAskPermit.j1 kj13 l0 a1 a2 a3 a4 t220 t221 t222 t228 true)) else (laws_FnExactAskPermit.j1 kj13 l0 a1 a2 a3 a4 t220 t221 t222 t228 true))))) else (some false)))) = some r := by rw [if_neg (show ¬ (false = true) by decide)] at H; exact H
            clear H
            have H := H1
            clear H1
            replace H := Option.bind_eq_some_iff.mp H
            obtain ⟨t234, A350, H⟩ := H
            replace H : ((laws_eqPermitS.f kj13 t225 t234).bind fun t237 => (if t237 = true then ((laws_markPermitS.f kj13 t225 1).bind fun bt238 => (if bt238.1 < 0 then (laws_FnExactAskPermit.j1 kj13 l0 a1 a2 a3 a4 t220 t221 t222 t228 true) else ((laws_eqPermitS.f kj13 t228 t220).bind fun t240 => (if t240 = true then (if t229 = t221 then (laws_FnExactAskPermit.j1 kj13 l0 a1 a2 a3 a4 t220 t221 t222 t228 (t230 != t222)) else (laws_FnExactAskPermit.j1 kj13 l0 a1 a2 a3 a4 t220 t221 t222 t228 true)) else (laws_FnExactAskPermit.j1 kj13 l0 a1 a2 a3 a4 t220 t221 t222 t228 true))))) else (some false))) = some r := H
            have A35 := Aside0.mk A350
            clear A350
            replace H := Option.bind_eq_some_iff.mp H
            obtain ⟨t237, A360, H⟩ := H
            replace H : (if t237 = true then ((laws_markPermitS.f kj13 t225 1).bind fun bt238 => (if bt238.1 < 0 then (laws_FnExactAskPermit.j1 kj13 l0 a1 a2 a3 a4 t220 t221 t222 t228 true) else ((laws_eqPermitS.f kj13 t228 t220).bind fun t240 => (if t240 = true then (if t229 = t221 then (laws_FnExactAskPermit.j1 kj13 l0 a1 a2 a3 a4 t220 t221 t222 t228 (t230 != t222)) else (laws_FnExactAskPermit.j1 kj13 l0 a1 a2 a3 a4 t220 t221 t222 t228 true)) else (laws_FnExactAskPermit.j1 kj13 l0 a1 a2 a3 a4 t220 t221 t222 t228 true))))) else (some false)) = some r := H
            have A36 := Aside0.mk A360
            clear A360
            by_cases c37 : t237 = true
            · subst c37
              have H1 : ((laws_markPermitS.f kj13 t225 1).bind fun bt238 => (if bt238.1 < 0 then (laws_FnExactAskPermit.j1 kj13 l0 a1 a2 a3 a4 t220 t221 t222 t228 true) else ((laws_eqPermitS.f kj13 t228 t220).bind fun t240 => (if t240 = true then (if t229 = t221 then (laws_FnExactAskPermit.j1 kj13 l0 a1 a2 a3 a4 t220 t221 t222 t228 (t230 != t222)) else (laws_FnExactAskPermit.j1 kj13 l0 a1 a2 a3 a4 t220 t221 t222 t228 true)) else (laws_FnExactAskPermit.j1 kj13 l0 a1 a2 a3 a4 t220 t221 t222 t228 true))))) = some r := by rw [if_pos rfl] at H; exact H
              clear H
              have H := H1
              clear H1
              replace H := Option.bind_eq_some_iff.mp H
              obtain ⟨⟨t238, t239⟩, A380, H⟩ := H
              replace H : (if t238 < 0 then (laws_FnExactAskPermit.j1 kj13 l0 a1 a2 a3 a4 t220 t221 t222 t228 true) else ((laws_eqPermitS.f kj13 t228 t220).bind fun t240 => (if t240 = true then (if t229 = t221 then (laws_FnExactAskPermit.j1 kj13 l0 a1 a2 a3 a4 t220 t221 t222 t228 (t230 != t222)) else (laws_FnExactAskPermit.j1 kj13 l0 a1 a2 a3 a4 t220 t221 t222 t228 true)) else (laws_FnExactAskPermit.j1 kj13 l0 a1 a2 a3 a4 t220 t221 t222 t228 true)))) = some r := H
              have A38 := Aside0.mk A380
              clear A380
              have HC39 := Aside0.mk H
              clear H
              go_upto_region 16 with (first | ((with_reducible refine gate_callee (f := 20) rfl ?_); refine goesL_ (some 72) rfl rfl Tryd.func20 (by kernel_rfl) rfl #[.slice A0 l0.length c0] rfl argsB ?_; (with_reducible refine (laws_toPermitS.calls kj13 _ _ l0 t234 _ ?side1 ?side2 A35.out).mono ?_); (case side1 => repeat (first | exact (Kd.C_below HR0.out HB.out) | (with_reducible refine Kd.C_alloc ?_ _) | (with_reducible refine Kd.C_drewN ?_ _) | (with_reducible refine Kd.C_drew ?_))); (case side2 => exact HC0.out); rintro e w40 ⟨v235, rfl, ho0, hb⟩; refine ⟨_, rfl, ?_⟩; have n0_ := Aside0.mk (Kd.R_elder' (upR HO_12.out) (Kd.R_base ho0) hb); have n1_ := Aside0.mk (Kd.R_elder' (upR HO_15.out) (Kd.R_base ho0) hb); have n2_ := Aside0.mk (Kd.R_elder' (upR HO_16.out) (Kd.R_base ho0) hb); have n3_ := Aside0.mk (Kd.R_lower (Kd.R_new' (Kd.R_new' (Kd.R_new' ho0 (Kd.R_lt (upR HO_12.out))) (Kd.R_lt (upR HO_15.out))) (Kd.R_lt (upR HO_16.out))) (below_size (upB HB.out))); have n4_ := Aside0.mk (below_step (upB HB.out) hb); clear HO_12; clear HO_15; clear HO_16; clear HB; have HO_12 := n0_; have HO_15 := n1_; have HO_16 := n2_; have HO236 := n3_; have HB := n4_; clear n0_ n1_ n2_ n3_ n4_; (try clear hb); (try clear hk); (try clear ho0); obtain ⟨Ao41, co41, eo41⟩ := Kd.R_slice HO236.out; subst eo41) | ((with_reducible refine gate_callee (f := 22) rfl ?_); refine goesL_ (some 73) rfl rfl Tryd.func22 (by kernel_rfl) rfl #[.slice Ao20 t225.length co20, .slice Ao41 t234.length co41] rfl argsB ?_; (with_reducible refine (laws_eqPermitS.calls kj13 _ _ t225 _ _ t234 true _ ?side1 ?side2 ?side3 ?side4 A36.out).mono ?_); (case side1 => repeat (first | exact (Kd.R_reads' HO_15.out).2.2 | (with_reducible refine Kd.C_alloc ?_ _) | (with_reducible refine Kd.C_drewN ?_ _) | (with_reducible refine Kd.C_drew ?_))); (case side2 => exact (Kd.R_reads' HO_15.out).2.1); (case side3 => repeat (first | exact (Kd.R_reads' HO236.out).2.2 | (with_reducible refine Kd.C_alloc ?_ _) | (with_reducible refine Kd.C_drewN ?_ _) | (with_reducible refine Kd.C_drew ?_))); (case side4 => exact (Kd.R_reads' HO236.out).2.1); rintro e w42 ⟨rfl, hb⟩; refine ⟨_, rfl, ?_⟩; have n0_ := Aside0.mk (Kd.R_below (upR HO_12.out) hb); have n1_ := Aside0.mk (Kd.R_below (upR HO_15.out) hb); have n2_ := Aside0.mk (Kd.R_below (upR HO_16.out) hb); have n3_ := Aside0.mk (Kd.R_below (upR HO236.out) hb); have n4_ := Aside0.mk (below_step (upB HB.out) hb); clear HO_12; clear HO_15; clear HO_16; clear HO236; clear HB; have HO_12 := n0_; have HO_15 := n1_; have HO_16 := n2_; have HO236 := n3_; have HB := n4_; clear n0_ n1_ n2_ n3_ n4_; (try clear hb); (try clear hk)) | ((with_reducible refine gate_callee (f := 29) rfl ?_); refine goesL_ (some 77) rfl rfl Tryd.func29 (by kernel_rfl) rfl #[.slice Ao20 t225.length co20, .int .i64 1] rfl argsB ?_; (with_reducible refine (laws_markPermitS.calls kj13 (fun k_ => some k_ = (.slice Ao20 t225.length co20 : Value).ownBlock) (.slice Ao20 t225.length co20) t225 1 t238 t239 w _ ?side1 ?side2 A38.out).mono ?_); (case side1 => repeat (first | (with_reducible first | exact HB.out | apply below_alloc | apply pw_below_drewN | apply below_drew1) | exact HB.out)); (case side2 => exact Kd.R_tight rfl HO_15.out); rintro e w43 ⟨rfl, hy0, hb, hkp⟩; refine ⟨_, rfl, ?_⟩; have n0_ := Aside0.mk (Kd.R_mono (ok' := fun k_ => some k_ ≠ (.slice Ao20 t225.length co20 : Value).ownBlock ∧ some k_ ≠ (v231 : Value).ownBlock ∧ some k_ ≠ (.slice Ao41 t234.length co41 : Value).ownBlock) (Kd.R_keptB (HO_12.out) hkp (fun k_ hk_ hs_ => (hk_.1.1) hs_)) (fun k_ hk_ => ⟨hk_.1.1.1, hk_.1.1.2, hk_.1.2⟩)); have n1_ := Aside0.mk (Kd.R_reok rfl hy0 (fun k_ e_ => HO_15.out.1 k_ e_)); have n2_ := Aside0.mk (Kd.R_mono (ok' := fun k_ => some k_ ≠ (v223 : Value).ownBlock ∧ some k_ ≠ (.slice Ao20 t225.length co20 : Value).ownBlock ∧ some k_ ≠ (.slice Ao41 t234.length co41 : Value).ownBlock) (Kd.R_keptB (HO_16.out) hkp (fun k_ hk_ hs_ => (hk_.1.2) hs_)) (fun k_ hk_ => ⟨hk_.1.1.1, hk_.1.1.2, hk_.1.2⟩)); have n3_ := Aside0.mk (Kd.R_mono (ok' := fun k_ => some k_ ≠ (v223 : Value).ownBlock ∧ some k_ ≠ (.slice Ao20 t225.length co20 : Value).ownBlock ∧ some k_ ≠ (v231 : Value).ownBlock) (Kd.R_keptB (HO236.out) hkp (fun k_ hk_ hs_ => (hk_.1.2) hs_)) (fun k_ hk_ => ⟨hk_.1.1.1.2, hk_.1.1.2, hk_.1.2⟩)); have n4_ := Aside0.mk (hb); clear HO_12; clear HO_15; clear HO_16; clear HO236; clear HB; have HO_12 := n0_; have HO_15 := n1_; have HO_16 := n2_; have HO236 := n3_; have HB := n4_; clear n0_ n1_ n2_ n3_ n4_; (try clear hb); (try clear hkp); (try clear hy0)))
              (try simp only [Act.put, List.setIfInBounds_toArray, List.set_cons_zero, List.set_cons_succ])
              go_cut [95] (fun v95 wc => ∃ (kq : Nat) (x95_38 : Bool), v95 = .bool x95_38 ∧ Aside0 (laws_FnExactAskPermit.j1 kq l0 a1 a2 a3 a4 t220 t221 t222 t228 x95_38 = some r) ∧ Aside0 (kq ≤ kj13) ∧ Aside0 (Kd.R k26 26 wc w.heap.size (fun k_ => some k_ ≠ (v231 : Value).ownBlock) v223 t220) ∧ Aside0 (Kd.R k26 26 wc w.heap.size (fun k_ => some k_ ≠ (v223 : Value).ownBlock) v231 t228) ∧ Aside0 (Below w.heap.size w wc))
              case first =>
                have H := HC39.out
                clear HC39
                by_cases c44 : t238 < 0
                · rw [if_pos c44] at H
                  have c44b0 : decide (t238 < 0) = true := decide_eq_true c44
                  clear c44
                  (first | rw [c44b0] | (simp only [i64_w, i32_w]; rw [c44b0]) | skip)
                  have H' := Aside0.mk H
                  clear H
                  go_wp2
                  go_meet
                  case rel => exact ⟨_, (true), (by first | rfl | (simp; done) | (simp [*]; done)), H', ⟨by have := HJ13.out; first | omega | exact Nat.le_refl _⟩, ⟨by (with_reducible repeat (first | apply Kd.R_alloc | apply Kd.R_drewN | apply Kd.R_drew)); exact Kd.R_mono HO_12.out (fun _ hk => hk.2.1)⟩, ⟨by (with_reducible repeat (first | apply Kd.R_alloc | apply Kd.R_drewN | apply Kd.R_drew)); exact Kd.R_mono HO_16.out (fun _ hk => hk.1)⟩, ⟨(upB HB.out)⟩⟩
                · rw [if_neg c44] at H
                  have c44b0 : decide (t238 < 0) = false := decide_eq_false c44
                  clear c44
                  (first | rw [c44b0] | (simp only [i64_w, i32_w]; rw [c44b0]) | skip)
                  replace H := Option.bind_eq_some_iff.mp H
                  obtain ⟨t240, A450, H⟩ := H
                  replace H : (if t240 = true then (if t229 = t221 then (laws_FnExactAskPermit.j1 kj13 l0 a1 a2 a3 a4 t220 t221 t222 t228 (t230 != t222)) else (laws_FnExactAskPermit.j1 kj13 l0 a1 a2 a3 a4 t220 t221 t222 t228 true)) else (laws_FnExactAskPermit.j1 kj13 l0 a1 a2 a3 a4 t220 t221 t222 t228 true)) = some r := H
                  have A45 := Aside0.mk A450
                  clear A450
                  by_cases c46 : t240 = true
                  · subst c46
                    have H1 : (if t229 = t221 then (laws_FnExactAskPermit.j1 kj13 l0 a1 a2 a3 a4 t220 t221 t222 t228 (t230 != t222)) else (laws_FnExactAskPermit.j1 kj13 l0 a1 a2 a3 a4 t220 t221 t222 t228 true)) = some r := by rw [if_pos rfl] at H; exact H
                    clear H
                    have H := H1
                    clear H1
                    by_cases c47 : t229 = t221
                    · rw [if_pos c47] at H
                      have c47b0 : (t229 == t221) = true := beq_iff_eq.mpr c47
                      have c47b1 : (t229 != t221) = false := bne_eq_false_iff_eq.mpr c47
                      clear c47
                      have H' := Aside0.mk H
                      clear H
                      obtain ⟨Ao48, co48, eo48⟩ := Kd.R_slice HO_16.out
                      subst eo48
                      obtain ⟨Ao49, co49, eo49⟩ := Kd.R_slice HO_12.out
                      subst eo49
                      go_wp2_with (first | (go_at_call 22; (with_reducible refine (laws_eqPermitS.calls kj13 _ _ t228 _ _ t220 true _ ?side1 ?side2 ?side3 ?side4 A45.out).mono ?_); (case side1 => repeat (first | exact (Kd.R_reads' HO_16.out).2.2 | (with_reducible refine Kd.C_alloc ?_ _) | (with_reducible refine Kd.C_drewN ?_ _) | (with_reducible refine Kd.C_drew ?_))); (case side2 => exact (Kd.R_reads' HO_16.out).2.1); (case side3 => repeat (first | exact (Kd.R_reads' HO_12.out).2.2 | (with_reducible refine Kd.C_alloc ?_ _) | (with_reducible refine Kd.C_drewN ?_ _) | (with_reducible refine Kd.C_drew ?_))); (case side4 => exact (Kd.R_reads' HO_12.out).2.1); rintro e w50 ⟨rfl, hb⟩; have n0_ := Aside0.mk (Kd.R_below (upR HO_12.out) hb); have n1_ := Aside0.mk (Kd.R_below (upR HO_15.out) hb); have n2_ := Aside0.mk (Kd.R_below (upR HO_16.out) hb); have n3_ := Aside0.mk (Kd.R_below (upR HO236.out) hb); have n4_ := Aside0.mk (below_step (upB HB.out) hb); clear HO_12; clear HO_15; clear HO_16; clear HO236; clear HB; have HO_12 := n0_; have HO_15 := n1_; have HO_16 := n2_; have HO236 := n3_; have HB := n4_; clear n0_ n1_ n2_ n3_ n4_; (try clear hb); (try clear hk)))
                      go_meet
                      case rel => exact ⟨_, ((t230 != t222)), (by first | rfl | (simp; done) | (simp [*]; done)), H', ⟨by have := HJ13.out; first | omega | exact Nat.le_refl _⟩, ⟨by (with_reducible repeat (first | apply Kd.R_alloc | apply Kd.R_drewN | apply Kd.R_drew)); exact Kd.R_mono HO_12.out (fun _ hk => hk.2.1)⟩, ⟨by (with_reducible repeat (first | apply Kd.R_alloc | apply Kd.R_drewN | apply Kd.R_drew)); exact Kd.R_mono HO_16.out (fun _ hk => hk.1)⟩, ⟨(upB HB.out)⟩⟩
                    · rw [if_neg c47] at H
                      have c47b0 : (t229 == t221) = false := beq_eq_false_iff_ne.mpr c47
                      have c47b1 : (t229 != t221) = true := bne_iff_ne.mpr c47
                      have H' := Aside0.mk H
                      clear H
                      obtain ⟨Ao51, co51, eo51⟩ := Kd.R_slice HO_16.out
                      subst eo51
                      obtain ⟨Ao52, co52, eo52⟩ := Kd.R_slice HO_12.out
                      subst eo52
                      go_wp2_with (first | (go_at_call 22; (with_reducible refine (laws_eqPermitS.calls kj13 _ _ t228 _ _ t220 true _ ?side1 ?side2 ?side3 ?side4 A45.out).mono ?_); (case side1 => repeat (first | exact (Kd.R_reads' HO_16.out).2.2 | (with_reducible refine Kd.C_alloc ?_ _) | (with_reducible refine Kd.C_drewN ?_ _) | (with_reducible refine Kd.C_drew ?_))); (case side2 => exact (Kd.R_reads' HO_16.out).2.1); (case side3 => repeat (first | exact (Kd.R_reads' HO_12.out).2.2 | (with_reducible refine Kd.C_alloc ?_ _) | (with_reducible refine Kd.C_drewN ?_ _) | (with_reducible refine Kd.C_drew ?_))); (case side4 => exact (Kd.R_reads' HO_12.out).2.1); rintro e w53 ⟨rfl, hb⟩; have n0_ := Aside0.mk (Kd.R_below (upR HO_12.out) hb); have n1_ := Aside0.mk (Kd.R_below (upR HO_15.out) hb); have n2_ := Aside0.mk (Kd.R_below (upR HO_16.out) hb); have n3_ := Aside0.mk (Kd.R_below (upR HO236.out) hb); have n4_ := Aside0.mk (below_step (upB HB.out) hb); clear HO_12; clear HO_15; clear HO_16; clear HO236; clear HB; have HO_12 := n0_; have HO_15 := n1_; have HO_16 := n2_; have HO236 := n3_; have HB := n4_; clear n0_ n1_ n2_ n3_ n4_; (try clear hb); (try clear hk)))
                      go_meet
                      case rel => exact ⟨_, (true), (by first | rfl | (simp; done) | (simp [*]; done)), H', ⟨by have := HJ13.out; first | omega | exact Nat.le_refl _⟩, ⟨by (with_reducible repeat (first | apply Kd.R_alloc | apply Kd.R_drewN | apply Kd.R_drew)); exact Kd.R_mono HO_12.out (fun _ hk => hk.2.1)⟩, ⟨by (with_reducible repeat (first | apply Kd.R_alloc | apply Kd.R_drewN | apply Kd.R_drew)); exact Kd.R_mono HO_16.out (fun _ hk => hk.1)⟩, ⟨(upB HB.out)⟩⟩
                  · replace c46 := Bool.eq_false_iff.mpr c46
                    subst c46
                    have H1 : (laws_FnExactAskPermit.j1 kj13 l0 a1 a2 a3 a4 t220 t221 t222 t228 true) = some r := by rw [if_neg (show ¬ (false = true) by decide)] at H; exact H
                    clear H
                    have H := H1
                    clear H1
                    have H' := Aside0.mk H
                    clear H
                    obtain ⟨Ao54, co54, eo54⟩ := Kd.R_slice HO_16.out
                    subst eo54
                    obtain ⟨Ao55, co55, eo55⟩ := Kd.R_slice HO_12.out
                    subst eo55
                    go_wp2_with (first | (go_at_call 22; (with_reducible refine (laws_eqPermitS.calls kj13 _ _ t228 _ _ t220 false _ ?side1 ?side2 ?side3 ?side4 A45.out).mono ?_); (case side1 => repeat (first | exact (Kd.R_reads' HO_16.out).2.2 | (with_reducible refine Kd.C_alloc ?_ _) | (with_reducible refine Kd.C_drewN ?_ _) | (with_reducible refine Kd.C_drew ?_))); (case side2 => exact (Kd.R_reads' HO_16.out).2.1); (case side3 => repeat (first | exact (Kd.R_reads' HO_12.out).2.2 | (with_reducible refine Kd.C_alloc ?_ _) | (with_reducible refine Kd.C_drewN ?_ _) | (with_reducible refine Kd.C_drew ?_))); (case side4 => exact (Kd.R_reads' HO_12.out).2.1); rintro e w56 ⟨rfl, hb⟩; have n0_ := Aside0.mk (Kd.R_below (upR HO_12.out) hb); have n1_ := Aside0.mk (Kd.R_below (upR HO_15.out) hb); have n2_ := Aside0.mk (Kd.R_below (upR HO_16.out) hb); have n3_ := Aside0.mk (Kd.R_below (upR HO236.out) hb); have n4_ := Aside0.mk (below_step (upB HB.out) hb); clear HO_12; clear HO_15; clear HO_16; clear HO236; clear HB; have HO_12 := n0_; have HO_15 := n1_; have HO_16 := n2_; have HO236 := n3_; have HB := n4_; clear n0_ n1_ n2_ n3_ n4_; (try clear hb); (try clear hk)))
                    go_meet
                    case rel => exact ⟨_, (true), (by first | rfl | (simp; done) | (simp [*]; done)), H', ⟨by have := HJ13.out; first | omega | exact Nat.le_refl _⟩, ⟨by (with_reducible repeat (first | apply Kd.R_alloc | apply Kd.R_drewN | apply Kd.R_drew)); exact Kd.R_mono HO_12.out (fun _ hk => hk.2.1)⟩, ⟨by (with_reducible repeat (first | apply Kd.R_alloc | apply Kd.R_drewN | apply Kd.R_drew)); exact Kd.R_mono HO_16.out (fun _ hk => hk.1)⟩, ⟨(upB HB.out)⟩⟩
              case rest =>
                clear HC39
                try clear c6
                try clear c6b0
                try clear c6b1
                try clear c8
                try clear c8b0
                try clear c23
                try clear c24
                try clear c24b0
                try clear c24b1
                try clear c34
                try clear c37
                try clear c44
                try clear c44b0
                try clear c46
                try clear c47
                try clear c47b0
                try clear c47b1
                obtain ⟨kq, x95_38, rfl, HA, HJ38, HO_12, HO_16, HB⟩ := hcut
                cases kq with
                | zero => exact absurd HA.out (by simp [laws_FnExactAskPermit.j1])
                | succ kj38 =>
                  have H := HA.out
                  clear HA
                  simp only [laws_FnExactAskPermit.j1] at H
                  by_cases c57 : x95_38 = true
                  · subst c57
                    have H1 : (some false) = some r := by rw [if_pos rfl] at H; exact H
                    clear H
                    have H := H1
                    clear H1
                    exact absurd (Option.some.inj H) (by rw [hT]; decide)
                  · replace c57 := Bool.eq_false_iff.mpr c57
                    subst c57
                    have H1 : ((laws_markPermitS.f kj38 t228 1).bind fun bt241 => ((laws_heldPermitS.f kj38 bt241.2 1).bind fun t243 => (if t243 < 0 then (some false) else (if t243 = bt241.1 then ((laws_toPermitS.f kj38 l0).bind fun t244 => ((impl_AskPermit.f kj38 t244 a1 a2 a3 a4).bind fun bt247 => ((laws_eqPermitS.f kj38 bt247.1 t220).bind fun t252 => (if t252 = true then (if bt247.2.1 = t221 then (laws_FnExactAskPermit.j2 kj38 bt241.2 bt241.1 (bt247.2.2 != t222)) else (laws_FnExactAskPermit.j2 kj38 bt241.2 bt241.1 true)) else (laws_FnExactAskPermit.j2 kj38 bt241.2 bt241.1 true))))) else (some false))))) = some r := by rw [if_neg (show ¬ (false = true) by decide)] at H; exact H
                    clear H
                    have H := H1
                    clear H1
                    replace H := Option.bind_eq_some_iff.mp H
                    obtain ⟨⟨t241, t242⟩, A580, H⟩ := H
                    replace H : ((laws_heldPermitS.f kj38 t242 1).bind fun t243 => (if t243 < 0 then (some false) else (if t243 = t241 then ((laws_toPermitS.f kj38 l0).bind fun t244 => ((impl_AskPermit.f kj38 t244 a1 a2 a3 a4).bind fun bt247 => ((laws_eqPermitS.f kj38 bt247.1 t220).bind fun t252 => (if t252 = true then (if bt247.2.1 = t221 then (laws_FnExactAskPermit.j2 kj38 t242 t241 (bt247.2.2 != t222)) else (laws_FnExactAskPermit.j2 kj38 t242 t241 true)) else (laws_FnExactAskPermit.j2 kj38 t242 t241 true))))) else (some false)))) = some r := H
                    have A58 := Aside0.mk A580
                    clear A580
                    replace H := Option.bind_eq_some_iff.mp H
                    obtain ⟨t243, A590, H⟩ := H
                    replace H : (if t243 < 0 then (some false) else (if t243 = t241 then ((laws_toPermitS.f kj38 l0).bind fun t244 => ((impl_AskPermit.f kj38 t244 a1 a2 a3 a4).bind fun bt247 => ((laws_eqPermitS.f kj38 bt247.1 t220).bind fun t252 => (if t252 = true then (if bt247.2.1 = t221 then (laws_FnExactAskPermit.j2 kj38 t242 t241 (bt247.2.2 != t222)) else (laws_FnExactAskPermit.j2 kj38 t242 t241 true)) else (laws_FnExactAskPermit.j2 kj38 t242 t241 true))))) else (some false))) = some r := H
                    have A59 := Aside0.mk A590
                    clear A590
                    by_cases c60 : t243 < 0
                    · rw [if_pos c60] at H
                      have c60b0 : decide (t243 < 0) = true := decide_eq_true c60
                      clear c60
                      exact absurd (Option.some.inj H) (by rw [hT]; decide)
                    · rw [if_neg c60] at H
                      have c60b0 : decide (t243 < 0) = false := decide_eq_false c60
                      clear c60
                      by_cases c64 : t243 = t241
                      · rw [if_pos c64] at H
                        have c64b0 : (t243 == t241) = true := beq_iff_eq.mpr c64
                        have c64b1 : (t243 != t241) = false := bne_eq_false_iff_eq.mpr c64
                        clear c64
                        replace H := Option.bind_eq_some_iff.mp H
                        obtain ⟨t244, A650, H⟩ := H
                        replace H : ((impl_AskPermit.f kj38 t244 a1 a2 a3 a4).bind fun bt247 => ((laws_eqPermitS.f kj38 bt247.1 t220).bind fun t252 => (if t252 = true then (if bt247.2.1 = t221 then (laws_FnExactAskPermit.j2 kj38 t242 t241 (bt247.2.2 != t222)) else (laws_FnExactAskPermit.j2 kj38 t242 t241 true)) else (laws_FnExactAskPermit.j2 kj38 t242 t241 true)))) = some r := H
                        have A65 := Aside0.mk A650
                        clear A650
                        replace H := Option.bind_eq_some_iff.mp H
                        obtain ⟨⟨t247, t248, t249⟩, A660, H⟩ := H
                        replace H : ((laws_eqPermitS.f kj38 t247 t220).bind fun t252 => (if t252 = true then (if t248 = t221 then (laws_FnExactAskPermit.j2 kj38 t242 t241 (t249 != t222)) else (laws_FnExactAskPermit.j2 kj38 t242 t241 true)) else (laws_FnExactAskPermit.j2 kj38 t242 t241 true))) = some r := H
                        have A66 := Aside0.mk A660
                        clear A660
                        have HC67 := Aside0.mk H
                        clear H
                        obtain ⟨Ao68, co68, eo68⟩ := Kd.R_slice HO_16.out
                        subst eo68
                        go_upto_region 27 with (first | ((with_reducible refine gate_callee (f := 29) rfl ?_); refine goesL_ (some 98) rfl rfl Tryd.func29 (by kernel_rfl) rfl #[.slice Ao68 t228.length co68, .int .i64 1] rfl argsB ?_; (with_reducible refine (laws_markPermitS.calls kj38 (fun k_ => some k_ = (.slice Ao68 t228.length co68 : Value).ownBlock) (.slice Ao68 t228.length co68) t228 1 t241 t242 w _ ?side1 ?side2 A58.out).mono ?_); (case side1 => repeat (first | (with_reducible first | exact HB.out | apply below_alloc | apply pw_below_drewN | apply below_drew1) | exact HB.out)); (case side2 => exact Kd.R_tight rfl HO_16.out); rintro e w69 ⟨rfl, hy0, hb, hkp⟩; refine ⟨_, rfl, ?_⟩; have n0_ := Aside0.mk (Kd.R_mono (ok' := fun k_ => some k_ ≠ (.slice Ao68 t228.length co68 : Value).ownBlock) (Kd.R_keptB (HO_12.out) hkp (fun k_ hk_ hs_ => (hk_) hs_)) (fun k_ hk_ => hk_.1)); have n1_ := Aside0.mk (Kd.R_reok rfl hy0 (fun k_ e_ => HO_16.out.1 k_ e_)); have n2_ := Aside0.mk (hb); clear HO_12; clear HO_16; clear HB; have HO_12 := n0_; have HO_16 := n1_; have HB := n2_; clear n0_ n1_ n2_; (try clear hb); (try clear hkp); (try clear hy0)) | ((with_reducible refine gate_callee (f := 30) rfl ?_); refine goesL_ (some 101) rfl rfl Tryd.func30 (by kernel_rfl) rfl #[.slice Ao68 t242.length co68, .int .i64 1] rfl (by (try simp only [List.map_toArray, List.map_cons, List.map_nil]); first | done | (rw [show t242.length = t228.length from (Kd.R_reads' HO_16.out).1.symm] <;> rfl) | rfl | (simp only [List.length_drop, List.length_take]; rfl)) ?_; (with_reducible refine (laws_heldPermitS.calls kj38 _ _ t242 1 t243 _ ?side1 ?side2 A59.out).mono ?_); (case side1 => repeat (first | exact (Kd.R_reads' HO_16.out).2.2 | (with_reducible refine Kd.C_alloc ?_ _) | (with_reducible refine Kd.C_drewN ?_ _) | (with_reducible refine Kd.C_drew ?_))); (case side2 => rw [show t242.length = t228.length from (Kd.R_reads' HO_16.out).1.symm]; exact (Kd.R_reads' HO_16.out).2.1); rintro e w70 ⟨rfl, hb⟩; refine ⟨_, rfl, ?_⟩; have n0_ := Aside0.mk (Kd.R_below (upR HO_12.out) hb); have n1_ := Aside0.mk (Kd.R_below (upR HO_16.out) hb); have n2_ := Aside0.mk (below_step (upB HB.out) hb); clear HO_12; clear HO_16; clear HB; have HO_12 := n0_; have HO_16 := n1_; have HB := n2_; clear n0_ n1_ n2_; (try clear hb); (try clear hk)) | ((with_reducible refine gate_callee (f := 20) rfl ?_); refine goesL_ (some 109) rfl rfl Tryd.func20 (by kernel_rfl) rfl #[.slice A0 l0.length c0] rfl argsB ?_; (with_reducible refine (laws_toPermitS.calls kj38 _ _ l0 t244 _ ?side1 ?side2 A65.out).mono ?_); (case side1 => repeat (first | exact (Kd.C_below HR0.out HB.out) | (with_reducible refine Kd.C_alloc ?_ _) | (with_reducible refine Kd.C_drewN ?_ _) | (with_reducible refine Kd.C_drew ?_))); (case side2 => exact HC0.out); rintro e w71 ⟨v245, rfl, ho0, hb⟩; refine ⟨_, rfl, ?_⟩; have n0_ := Aside0.mk (Kd.R_elder' (upR HO_12.out) (Kd.R_base ho0) hb); have n1_ := Aside0.mk (Kd.R_elder' (upR HO_16.out) (Kd.R_base ho0) hb); have n2_ := Aside0.mk (Kd.R_lower (Kd.R_new' (Kd.R_new' ho0 (Kd.R_lt (upR HO_12.out))) (Kd.R_lt (upR HO_16.out))) (below_size (upB HB.out))); have n3_ := Aside0.mk (below_step (upB HB.out) hb); clear HO_12; clear HO_16; clear HB; have HO_12 := n0_; have HO_16 := n1_; have HO246 := n2_; have HB := n3_; clear n0_ n1_ n2_ n3_; (try clear hb); (try clear hk); (try clear ho0); obtain ⟨Ao72, co72, eo72⟩ := Kd.R_slice HO246.out; subst eo72) | ((with_reducible refine gate_callee (f := 28) rfl ?_); refine goesL_ (some 114) rfl rfl Tryd.func28 (by kernel_rfl) rfl #[.slice Ao72 t244.length co72, .string a1, .int .i64 a2, .int .i64 a3, .int .i64 a4] rfl argsB ?_; (with_reducible refine (impl_AskPermit.calls kj38 _ _ t244 a1 a2 a3 a4 t247 t248 t249 _ ?side1 ?side2 A66.out).mono ?_); (case side1 => repeat (first | exact (Kd.R_reads' HO246.out).2.2 | (with_reducible refine Kd.C_alloc ?_ _) | (with_reducible refine Kd.C_drewN ?_ _) | (with_reducible refine Kd.C_drew ?_))); (case side2 => exact (Kd.R_reads' HO246.out).2.1); rintro e w73 ⟨v250, rfl, ho0, hb⟩; refine ⟨_, rfl, ?_⟩; have n0_ := Aside0.mk (Kd.R_elder' (upR HO_12.out) (Kd.R_base ho0) hb); have n1_ := Aside0.mk (Kd.R_elder' (upR HO_16.out) (Kd.R_base ho0) hb); have n2_ := Aside0.mk (Kd.R_elder' (upR HO246.out) (Kd.R_base ho0) hb); have n3_ := Aside0.mk (Kd.R_lower (Kd.R_new' (Kd.R_new' (Kd.R_new' ho0 (Kd.R_lt (upR HO_12.out))) (Kd.R_lt (upR HO_16.out))) (Kd.R_lt (upR HO246.out))) (below_size (upB HB.out))); have n4_ := Aside0.mk (below_step (upB HB.out) hb); clear HO_12; clear HO_16; clear HO246; clear HB; have HO_12 := n0_; have HO_16 := n1_; have HO246 := n2_; have HO251 := n3_; have HB := n4_; clear n0_ n1_ n2_ n3_ n4_; (try clear hb); (try clear hk); (try clear ho0)))
                        (try simp only [Act.put, List.setIfInBounds_toArray, List.set_cons_zero, List.set_cons_succ])
                        go_cut [131] (fun v131 wc => ∃ (kq : Nat) (x131_66 : Bool), v131 = .bool x131_66 ∧ Aside0 (laws_FnExactAskPermit.j2 kq t242 t241 x131_66 = some r) ∧ Aside0 (kq ≤ kj38) ∧ Aside0 (Kd.R k26 26 wc w.heap.size (fun _ => True) (.slice Ao68 t228.length co68) t242) ∧ Aside0 (Below w.heap.size w wc))
                        case first =>
                          have H := HC67.out
                          clear HC67
                          replace H := Option.bind_eq_some_iff.mp H
                          obtain ⟨t252, A740, H⟩ := H
                          replace H : (if t252 = true then (if t248 = t221 then (laws_FnExactAskPermit.j2 kj38 t242 t241 (t249 != t222)) else (laws_FnExactAskPermit.j2 kj38 t242 t241 true)) else (laws_FnExactAskPermit.j2 kj38 t242 t241 true)) = some r := H
                          have A74 := Aside0.mk A740
                          clear A740
                          by_cases c75 : t252 = true
                          · subst c75
                            have H1 : (if t248 = t221 then (laws_FnExactAskPermit.j2 kj38 t242 t241 (t249 != t222)) else (laws_FnExactAskPermit.j2 kj38 t242 t241 true)) = some r := by rw [if_pos rfl] at H; exact H
                            clear H
                            have H := H1
                            clear H1
                            by_cases c76 : t248 = t221
                            · rw [if_pos c76] at H
                              have c76b0 : (t248 == t221) = true := beq_iff_eq.mpr c76
                              have c76b1 : (t248 != t221) = false := bne_eq_false_iff_eq.mpr c76
                              clear c76
                              (first | rw [c76b0] | (simp only [i64_w, i32_w]; rw [c76b0]) | skip)
                              have H' := Aside0.mk H
                              clear H
                              obtain ⟨Ao77, co77, eo77⟩ := Kd.R_slice HO251.out
                              subst eo77
                              obtain ⟨Ao78, co78, eo78⟩ := Kd.R_slice HO_12.out
                              subst eo78
                              go_wp2_with (first | ((with_reducible refine gate_callee (f := 22) rfl ?_); refine goesL_ (some 120) rfl rfl Tryd.func22 (by kernel_rfl) rfl #[.slice Ao77 t247.length co77, .slice Ao78 t220.length co78] rfl argsB ?_; (with_reducible refine (laws_eqPermitS.calls kj38 _ _ t247 _ _ t220 true _ ?side1 ?side2 ?side3 ?side4 A74.out).mono ?_); (case side1 => repeat (first | exact (Kd.R_reads' HO251.out).2.2 | (with_reducible refine Kd.C_alloc ?_ _) | (with_reducible refine Kd.C_drewN ?_ _) | (with_reducible refine Kd.C_drew ?_))); (case side2 => exact (Kd.R_reads' HO251.out).2.1); (case side3 => repeat (first | exact (Kd.R_reads' HO_12.out).2.2 | (with_reducible refine Kd.C_alloc ?_ _) | (with_reducible refine Kd.C_drewN ?_ _) | (with_reducible refine Kd.C_drew ?_))); (case side4 => exact (Kd.R_reads' HO_12.out).2.1); rintro e w79 ⟨rfl, hb⟩; refine ⟨_, rfl, ?_⟩; have n0_ := Aside0.mk (Kd.R_below (upR HO_12.out) hb); have n1_ := Aside0.mk (Kd.R_below (upR HO_16.out) hb); have n2_ := Aside0.mk (Kd.R_below (upR HO246.out) hb); have n3_ := Aside0.mk (Kd.R_below (upR HO251.out) hb); have n4_ := Aside0.mk (below_step (upB HB.out) hb); clear HO_12; clear HO_16; clear HO246; clear HO251; clear HB; have HO_12 := n0_; have HO_16 := n1_; have HO246 := n2_; have HO251 := n3_; have HB := n4_; clear n0_ n1_ n2_ n3_ n4_; (try clear hb); (try clear hk)))
                              go_meet
                              case rel => exact ⟨_, ((t249 != t222)), (by first | rfl | (simp; done) | (simp [*]; done)), H', ⟨by have := HJ13.out; have := HJ38.out; first | omega | exact Nat.le_refl _⟩, ⟨by (with_reducible repeat (first | apply Kd.R_alloc | apply Kd.R_drewN | apply Kd.R_drew)); exact Kd.R_mono HO_16.out (fun _ hk => trivial)⟩, ⟨(upB HB.out)⟩⟩
                            · rw [if_neg c76] at H
                              have c76b0 : (t248 == t221) = false := beq_eq_false_iff_ne.mpr c76
                              have c76b1 : (t248 != t221) = true := bne_iff_ne.mpr c76
                              (first | rw [c76b0] | (simp only [i64_w, i32_w]; rw [c76b0]) | skip)
                              have H' := Aside0.mk H
                              clear H
                              obtain ⟨Ao80, co80, eo80⟩ := Kd.R_slice HO251.out
                              subst eo80
                              obtain ⟨Ao81, co81, eo81⟩ := Kd.R_slice HO_12.out
                              subst eo81
                              go_wp2_with (first | ((with_reducible refine gate_callee (f := 22) rfl ?_); refine goesL_ (some 120) rfl rfl Tryd.func22 (by kernel_rfl) rfl #[.slice Ao80 t247.length co80, .slice Ao81 t220.length co81] rfl argsB ?_; (with_reducible refine (laws_eqPermitS.calls kj38 _ _ t247 _ _ t220 true _ ?side1 ?side2 ?side3 ?side4 A74.out).mono ?_); (case side1 => repeat (first | exact (Kd.R_reads' HO251.out).2.2 | (with_reducible refine Kd.C_alloc ?_ _) | (with_reducible refine Kd.C_drewN ?_ _) | (with_reducible refine Kd.C_drew ?_))); (case side2 => exact (Kd.R_reads' HO251.out).2.1); (case side3 => repeat (first | exact (Kd.R_reads' HO_12.out).2.2 | (with_reducible refine Kd.C_alloc ?_ _) | (with_reducible refine Kd.C_drewN ?_ _) | (with_reducible refine Kd.C_drew ?_))); (case side4 => exact (Kd.R_reads' HO_12.out).2.1); rintro e w82 ⟨rfl, hb⟩; refine ⟨_, rfl, ?_⟩; have n0_ := Aside0.mk (Kd.R_below (upR HO_12.out) hb); have n1_ := Aside0.mk (Kd.R_below (upR HO_16.out) hb); have n2_ := Aside0.mk (Kd.R_below (upR HO246.out) hb); have n3_ := Aside0.mk (Kd.R_below (upR HO251.out) hb); have n4_ := Aside0.mk (below_step (upB HB.out) hb); clear HO_12; clear HO_16; clear HO246; clear HO251; clear HB; have HO_12 := n0_; have HO_16 := n1_; have HO246 := n2_; have HO251 := n3_; have HB := n4_; clear n0_ n1_ n2_ n3_ n4_; (try clear hb); (try clear hk)))
                              go_meet
                              case rel => exact ⟨_, (true), (by first | rfl | (simp; done) | (simp [*]; done)), H', ⟨by have := HJ13.out; have := HJ38.out; first | omega | exact Nat.le_refl _⟩, ⟨by (with_reducible repeat (first | apply Kd.R_alloc | apply Kd.R_drewN | apply Kd.R_drew)); exact Kd.R_mono HO_16.out (fun _ hk => trivial)⟩, ⟨(upB HB.out)⟩⟩
                          · replace c75 := Bool.eq_false_iff.mpr c75
                            subst c75
                            have H1 : (laws_FnExactAskPermit.j2 kj38 t242 t241 true) = some r := by rw [if_neg (show ¬ (false = true) by decide)] at H; exact H
                            clear H
                            have H := H1
                            clear H1
                            have H' := Aside0.mk H
                            clear H
                            obtain ⟨Ao83, co83, eo83⟩ := Kd.R_slice HO251.out
                            subst eo83
                            obtain ⟨Ao84, co84, eo84⟩ := Kd.R_slice HO_12.out
                            subst eo84
                            go_wp2_with (first | ((with_reducible refine gate_callee (f := 22) rfl ?_); refine goesL_ (some 120) rfl rfl Tryd.func22 (by kernel_rfl) rfl #[.slice Ao83 t247.length co83, .slice Ao84 t220.length co84] rfl argsB ?_; (with_reducible refine (laws_eqPermitS.calls kj38 _ _ t247 _ _ t220 false _ ?side1 ?side2 ?side3 ?side4 A74.out).mono ?_); (case side1 => repeat (first | exact (Kd.R_reads' HO251.out).2.2 | (with_reducible refine Kd.C_alloc ?_ _) | (with_reducible refine Kd.C_drewN ?_ _) | (with_reducible refine Kd.C_drew ?_))); (case side2 => exact (Kd.R_reads' HO251.out).2.1); (case side3 => repeat (first | exact (Kd.R_reads' HO_12.out).2.2 | (with_reducible refine Kd.C_alloc ?_ _) | (with_reducible refine Kd.C_drewN ?_ _) | (with_reducible refine Kd.C_drew ?_))); (case side4 => exact (Kd.R_reads' HO_12.out).2.1); rintro e w85 ⟨rfl, hb⟩; refine ⟨_, rfl, ?_⟩; have n0_ := Aside0.mk (Kd.R_below (upR HO_12.out) hb); have n1_ := Aside0.mk (Kd.R_below (upR HO_16.out) hb); have n2_ := Aside0.mk (Kd.R_below (upR HO246.out) hb); have n3_ := Aside0.mk (Kd.R_below (upR HO251.out) hb); have n4_ := Aside0.mk (below_step (upB HB.out) hb); clear HO_12; clear HO_16; clear HO246; clear HO251; clear HB; have HO_12 := n0_; have HO_16 := n1_; have HO246 := n2_; have HO251 := n3_; have HB := n4_; clear n0_ n1_ n2_ n3_ n4_; (try clear hb); (try clear hk)))
                            go_meet
                            case rel => exact ⟨_, (true), (by first | rfl | (simp; done) | (simp [*]; done)), H', ⟨by have := HJ13.out; have := HJ38.out; first | omega | exact Nat.le_refl _⟩, ⟨by (with_reducible repeat (first | apply Kd.R_alloc | apply Kd.R_drewN | apply Kd.R_drew)); exact Kd.R_mono HO_16.out (fun _ hk => trivial)⟩, ⟨(upB HB.out)⟩⟩
                        case rest =>
                          clear HC67
                          try clear c6
                          try clear c6b0
                          try clear c6b1
                          try clear c8
                          try clear c8b0
                          try clear c23
                          try clear c24
                          try clear c24b0
                          try clear c24b1
                          try clear c34
                          try clear c37
                          try clear c44
                          try clear c44b0
                          try clear c46
                          try clear c47
                          try clear c47b0
                          try clear c47b1
                          try clear c57
                          try clear c60
                          try clear c60b0
                          try clear c64
                          try clear c64b0
                          try clear c64b1
                          try clear c75
                          try clear c76
                          try clear c76b0
                          try clear c76b1
                          obtain ⟨kq, x131_66, rfl, HA, HJ66, HO_16, HB⟩ := hcut
                          have hl16_66 := (Kd.R_reads' HO_16.out).1
                          rw [hl16_66] at HO_16
                          (try simp only [hl16_66])
                          cases kq with
                          | zero => exact absurd HA.out (by simp [laws_FnExactAskPermit.j2])
                          | succ kj66 =>
                            have H := HA.out
                            clear HA
                            simp only [laws_FnExactAskPermit.j2] at H
                            by_cases c86 : x131_66 = true
                            · subst c86
                              have H1 : (some false) = some r := by rw [if_pos rfl] at H; exact H
                              clear H
                              have H := H1
                              clear H1
                              exact absurd (Option.some.inj H) (by rw [hT]; decide)
                            · replace c86 := Bool.eq_false_iff.mpr c86
                              subst c86
                              have H1 : ((laws_heldPermitS.f kj66 t242 1).bind fun t253 => (if t253 < 0 then (some false) else (if t253 = t241 then (some true) else (some false)))) = some r := by rw [if_neg (show ¬ (false = true) by decide)] at H; exact H
                              clear H
                              have H := H1
                              clear H1
                              replace H := Option.bind_eq_some_iff.mp H
                              obtain ⟨t253, A870, H⟩ := H
                              replace H : (if t253 < 0 then (some false) else (if t253 = t241 then (some true) else (some false))) = some r := H
                              have A87 := Aside0.mk A870
                              clear A870
                              by_cases c88 : t253 < 0
                              · rw [if_pos c88] at H
                                have c88b0 : decide (t253 < 0) = true := decide_eq_true c88
                                clear c88
                                exact absurd (Option.some.inj H) (by rw [hT]; decide)
                              · rw [if_neg c88] at H
                                have c88b0 : decide (t253 < 0) = false := decide_eq_false c88
                                clear c88
                                by_cases c90 : t253 = t241
                                · rw [if_pos c90] at H
                                  have c90b0 : (t253 == t241) = true := beq_iff_eq.mpr c90
                                  have c90b1 : (t253 != t241) = false := bne_eq_false_iff_eq.mpr c90
                                  clear c90
                                  obtain rfl := (Option.some.inj H)
                                  go_wp2_with (first | ((with_reducible refine gate_callee (f := 30) rfl ?_); refine goesL_ (some 134) rfl rfl Tryd.func30 (by kernel_rfl) rfl #[.slice Ao68 t242.length co68, .int .i64 1] rfl argsB ?_; (with_reducible refine (laws_heldPermitS.calls kj66 _ _ t242 1 t253 _ ?side1 ?side2 A87.out).mono ?_); (case side1 => repeat (first | exact (Kd.R_reads' HO_16.out).2.2 | (with_reducible refine Kd.C_alloc ?_ _) | (with_reducible refine Kd.C_drewN ?_ _) | (with_reducible refine Kd.C_drew ?_))); (case side2 => exact (Kd.R_reads' HO_16.out).2.1); rintro e w91 ⟨rfl, hb⟩; refine ⟨_, rfl, ?_⟩; have n0_ := Aside0.mk (Kd.R_below (upR HO_16.out) hb); have n1_ := Aside0.mk (below_step (upB HB.out) hb); clear HO_16; clear HB; have HO_16 := n0_; have HB := n1_; clear n0_ n1_; (try clear hb); (try clear hk)))
                                  go_ret
                                  exact ⟨by first | rfl | (simp [errW_none, errW_some] <;> rfl) | (simp [*, errW_none, errW_some] <;> rfl), (upB HB.out)⟩
                                · rw [if_neg c90] at H
                                  have c90b0 : (t253 == t241) = false := beq_eq_false_iff_ne.mpr c90
                                  have c90b1 : (t253 != t241) = true := bne_iff_ne.mpr c90
                                  obtain rfl := (Option.some.inj H)
                                  go_wp2_with (first | ((with_reducible refine gate_callee (f := 30) rfl ?_); refine goesL_ (some 134) rfl rfl Tryd.func30 (by kernel_rfl) rfl #[.slice Ao68 t242.length co68, .int .i64 1] rfl argsB ?_; (with_reducible refine (laws_heldPermitS.calls kj66 _ _ t242 1 t253 _ ?side1 ?side2 A87.out).mono ?_); (case side1 => repeat (first | exact (Kd.R_reads' HO_16.out).2.2 | (with_reducible refine Kd.C_alloc ?_ _) | (with_reducible refine Kd.C_drewN ?_ _) | (with_reducible refine Kd.C_drew ?_))); (case side2 => exact (Kd.R_reads' HO_16.out).2.1); rintro e w92 ⟨rfl, hb⟩; refine ⟨_, rfl, ?_⟩; have n0_ := Aside0.mk (Kd.R_below (upR HO_16.out) hb); have n1_ := Aside0.mk (below_step (upB HB.out) hb); clear HO_16; clear HB; have HO_16 := n0_; have HB := n1_; clear n0_ n1_; (try clear hb); (try clear hk)))
                                  go_ret
                                  exact ⟨by first | rfl | (simp [errW_none, errW_some] <;> rfl) | (simp [*, errW_none, errW_some] <;> rfl), (upB HB.out)⟩
                      · rw [if_neg c64] at H
                        have c64b0 : (t243 == t241) = false := beq_eq_false_iff_ne.mpr c64
                        have c64b1 : (t243 != t241) = true := bne_iff_ne.mpr c64
                        obtain rfl := (Option.some.inj H)
                        obtain ⟨Ao93, co93, eo93⟩ := Kd.R_slice HO_16.out
                        subst eo93
                        go_wp2_with (first | ((with_reducible refine gate_callee (f := 29) rfl ?_); refine goesL_ (some 98) rfl rfl Tryd.func29 (by kernel_rfl) rfl #[.slice Ao93 t228.length co93, .int .i64 1] rfl argsB ?_; (with_reducible refine (laws_markPermitS.calls kj38 (fun k_ => some k_ = (.slice Ao93 t228.length co93 : Value).ownBlock) (.slice Ao93 t228.length co93) t228 1 t241 t242 w _ ?side1 ?side2 A58.out).mono ?_); (case side1 => repeat (first | (with_reducible first | exact HB.out | apply below_alloc | apply pw_below_drewN | apply below_drew1) | exact HB.out)); (case side2 => exact Kd.R_tight rfl HO_16.out); rintro e w94 ⟨rfl, hy0, hb, hkp⟩; refine ⟨_, rfl, ?_⟩; have n0_ := Aside0.mk (Kd.R_mono (ok' := fun k_ => some k_ ≠ (.slice Ao93 t228.length co93 : Value).ownBlock) (Kd.R_keptB (HO_12.out) hkp (fun k_ hk_ hs_ => (hk_) hs_)) (fun k_ hk_ => hk_.1)); have n1_ := Aside0.mk (Kd.R_reok rfl hy0 (fun k_ e_ => HO_16.out.1 k_ e_)); have n2_ := Aside0.mk (hb); clear HO_12; clear HO_16; clear HB; have HO_12 := n0_; have HO_16 := n1_; have HB := n2_; clear n0_ n1_ n2_; (try clear hb); (try clear hkp); (try clear hy0)) | ((with_reducible refine gate_callee (f := 30) rfl ?_); refine goesL_ (some 101) rfl rfl Tryd.func30 (by kernel_rfl) rfl #[.slice Ao93 t242.length co93, .int .i64 1] rfl (by (try simp only [List.map_toArray, List.map_cons, List.map_nil]); first | done | (rw [show t242.length = t228.length from (Kd.R_reads' HO_16.out).1.symm] <;> rfl) | rfl | (simp only [List.length_drop, List.length_take]; rfl)) ?_; (with_reducible refine (laws_heldPermitS.calls kj38 _ _ t242 1 t243 _ ?side1 ?side2 A59.out).mono ?_); (case side1 => repeat (first | exact (Kd.R_reads' HO_16.out).2.2 | (with_reducible refine Kd.C_alloc ?_ _) | (with_reducible refine Kd.C_drewN ?_ _) | (with_reducible refine Kd.C_drew ?_))); (case side2 => rw [show t242.length = t228.length from (Kd.R_reads' HO_16.out).1.symm]; exact (Kd.R_reads' HO_16.out).2.1); rintro e w95 ⟨rfl, hb⟩; refine ⟨_, rfl, ?_⟩; have n0_ := Aside0.mk (Kd.R_below (upR HO_12.out) hb); have n1_ := Aside0.mk (Kd.R_below (upR HO_16.out) hb); have n2_ := Aside0.mk (below_step (upB HB.out) hb); clear HO_12; clear HO_16; clear HB; have HO_12 := n0_; have HO_16 := n1_; have HB := n2_; clear n0_ n1_ n2_; (try clear hb); (try clear hk)))
                        go_ret
                        exact ⟨by first | rfl | (simp [errW_none, errW_some] <;> rfl) | (simp [*, errW_none, errW_some] <;> rfl), (upB HB.out)⟩
            · replace c37 := Bool.eq_false_iff.mpr c37
              subst c37
              have H1 : (some false) = some r := by rw [if_neg (show ¬ (false = true) by decide)] at H; exact H
              clear H
              have H := H1
              clear H1
              exact absurd (Option.some.inj H) (by rw [hT]; decide)

end Go.Proofs.YtgeioccfjgpijaaDoor.QFnExactAskPermit
