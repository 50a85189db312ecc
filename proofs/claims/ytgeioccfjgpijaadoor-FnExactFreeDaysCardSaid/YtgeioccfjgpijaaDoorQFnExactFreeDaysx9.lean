/- Contracts of Go functions that FnExactFreeDays reaches: the call computes what the plain function says. No condition. -/
import Derived.Test.YtgeioccfjgpijaaDoorQFnExactFreeDaysx0
import Derived.Test.YtgeioccfjgpijaaDoorQFnExactFreeDaysx1
import Derived.Test.YtgeioccfjgpijaaDoorQFnExactFreeDaysx2
import Derived.Test.YtgeioccfjgpijaaDoorQFnExactFreeDaysx4
import Derived.Test.YtgeioccfjgpijaaDoorQFnExactFreeDaysx7
import Derived.Test.YtgeioccfjgpijaaDoorQFnExactFreeDaysx8
namespace Go.Proofs.YtgeioccfjgpijaaDoor.QFnExactFreeDays
open Go.RowKit Go.Proofs.YtgeioccfjgpijaaDoorW.PrintWords Go.Proofs.YtgeioccfjgpijaaDoorW.PrintLast Go.Proofs.YtgeioccfjgpijaaDoorW.PrintMore
attribute [local go_sem] max2_int min2_int max_two min_two max_three min_three max_four min_four   -- for this text's walks alone
set_option linter.unusedVariables false
set_option linter.unusedSimpArgs false

/-! ### laws_FnExactFreeDays: function 11 -/
mutual
def laws_FnExactFreeDays.j0 : Nat → List (S23) → ByteArray → Int → Int → List (List Int) → Bool → List (S26) → List (List Int) → Bool → Bool → Option (Bool)
  | 0, _, _, _, _, _, _, _, _, _, _ => none
  | k + 1, x0, x1, x2, x3, x10, x11, x12, x13, x14, x55 => if x55 = true then (some false) else ((laws_toPermitS.f k x0).bind fun t262 => ((laws_eqPermitS.f k x12 t262).bind fun t265 => (if t265 = true then ((laws_markPermitS.f k x12 1).bind fun bt266 => (if bt266.1 < 0 then (laws_FnExactFreeDays.j1 k x0 x1 x2 x3 x10 x11 x13 true) else ((laws_eqIntSS.f k x13 x10).bind fun t268 => (if t268 = true then (laws_FnExactFreeDays.j1 k x0 x1 x2 x3 x10 x11 x13 (x14 != x11)) else (laws_FnExactFreeDays.j1 k x0 x1 x2 x3 x10 x11 x13 true))))) else (some false))))
def laws_FnExactFreeDays.j1 : Nat → List (S23) → ByteArray → Int → Int → List (List Int) → Bool → List (List Int) → Bool → Option (Bool)
  | 0, _, _, _, _, _, _, _, _ => none
  | k + 1, x0, x1, x2, x3, x10, x11, x13, x76 => if x76 = true then (some false) else ((laws_markIntSS.f k x13 1).bind fun bt269 => ((laws_heldIntSS.f k bt269.2 1).bind fun t270 => (if t270 < 0 then (some false) else (if t270 = bt269.1 then ((laws_toPermitS.f k x0).bind fun t271 => ((impl_FreeDays.f k t271 x1 x2 x3).bind fun bt274 => ((laws_eqIntSS.f k bt274.1 x10).bind fun t278 => (if t278 = true then (laws_FnExactFreeDays.j2 k bt269.2 bt269.1 (bt274.2 != x11)) else (laws_FnExactFreeDays.j2 k bt269.2 bt269.1 true))))) else (some false)))))
def laws_FnExactFreeDays.j2 : Nat → List (List Int) → Int → Bool → Option (Bool)
  | 0, _, _, _ => none
  | k + 1, x13, x16, x105 => if x105 = true then (some false) else ((laws_heldIntSS.f k x13 1).bind fun t279 => (if t279 < 0 then (some false) else (if t279 = x16 then (some true) else (some false))))
end
def laws_FnExactFreeDays.f (k : Nat) (l0 : List (S23)) (a1 : ByteArray) (a2 : Int) (a3 : Int) : Option (Bool) := if (a1.size : Int) > 1048576 then (some true) else ((laws_szPermitS.f k l0 1048576).bind fun t246 => (if t246 < 0 then (some true) else ((laws_toPermitS.f k l0).bind fun t247 => ((spec_FreeDays.f k t247 a1 a2 a3).bind fun bt250 => ((laws_toPermitS.f k l0).bind fun t254 => ((impl_FreeDays.f k t254 a1 a2 a3).bind fun bt257 => ((laws_eqIntSS.f k bt257.1 bt250.1).bind fun t261 => (if t261 = true then (laws_FnExactFreeDays.j0 k l0 a1 a2 a3 bt250.1 bt250.2 t254 bt257.1 bt257.2 (bt257.2 != bt250.2)) else (laws_FnExactFreeDays.j0 k l0 a1 a2 a3 bt250.1 bt250.2 t254 bt257.1 bt257.2 true)))))))))
theorem laws_FnExactFreeDays.mono_l : ∀ k, (∀ y0 y1 y2 y3 y4 y5 y6 y7 y8 y9, LeO (laws_FnExactFreeDays.j0 k y0 y1 y2 y3 y4 y5 y6 y7 y8 y9) (laws_FnExactFreeDays.j0 (k + 1) y0 y1 y2 y3 y4 y5 y6 y7 y8 y9)) ∧ (∀ y0 y1 y2 y3 y4 y5 y6 y7, LeO (laws_FnExactFreeDays.j1 k y0 y1 y2 y3 y4 y5 y6 y7) (laws_FnExactFreeDays.j1 (k + 1) y0 y1 y2 y3 y4 y5 y6 y7)) ∧ (∀ y0 y1 y2, LeO (laws_FnExactFreeDays.j2 k y0 y1 y2) (laws_FnExactFreeDays.j2 (k + 1) y0 y1 y2))
  | 0 => ⟨fun _ _ _ _ _ _ _ _ _ _ r h => by simp [laws_FnExactFreeDays.j0] at h, fun _ _ _ _ _ _ _ _ r h => by simp [laws_FnExactFreeDays.j1] at h, fun _ _ _ r h => by simp [laws_FnExactFreeDays.j2] at h⟩
  | k + 1 => by
    obtain ⟨ih0, ih1, ih2⟩ := laws_FnExactFreeDays.mono_l k
    refine ⟨?_, ?_, ?_⟩
    · intro y0 y1 y2 y3 y4 y5 y6 y7 y8 y9
      unfold laws_FnExactFreeDays.j0
      repeat' first
      | (with_reducible exact ih0 _ _ _ _ _ _ _ _ _ _)
      | (with_reducible exact ih1 _ _ _ _ _ _ _ _)
      | (with_reducible exact ih2 _ _ _)
      | (with_reducible exact impl_FreeDays.mono _ _ _ _ _)
      | (with_reducible exact laws_eqIntSS.mono _ _ _)
      | (with_reducible exact laws_eqPermitS.mono _ _ _)
      | (with_reducible exact laws_heldIntSS.mono _ _ _)
      | (with_reducible exact laws_markIntSS.mono _ _ _)
      | (with_reducible exact laws_markPermitS.mono _ _ _)
      | (with_reducible exact laws_szPermitS.mono _ _ _)
      | (with_reducible exact laws_toPermitS.mono _ _)
      | (with_reducible exact spec_FreeDays.mono _ _ _ _ _)
      | (with_reducible exact LeO.refl _)
      | (with_reducible exact LeO.none _)
      | (with_reducible refine LeO.ite ?_ ?_)
      | (with_reducible refine LeO.bind ?_ (fun _ => ?_))
      | exact ih0 _ _ _ _ _ _ _ _ _ _
      | exact ih1 _ _ _ _ _ _ _ _
      | exact ih2 _ _ _
      | exact impl_FreeDays.mono _ _ _ _ _
      | exact laws_eqIntSS.mono _ _ _
      | exact laws_eqPermitS.mono _ _ _
      | exact laws_heldIntSS.mono _ _ _
      | exact laws_markIntSS.mono _ _ _
      | exact laws_markPermitS.mono _ _ _
      | exact laws_szPermitS.mono _ _ _
      | exact laws_toPermitS.mono _ _
      | exact spec_FreeDays.mono _ _ _ _ _
      | exact LeO.none _
      | refine LeO.ite ?_ ?_
      | refine LeO.bind ?_ (fun _ => ?_)
    · intro y0 y1 y2 y3 y4 y5 y6 y7
      unfold laws_FnExactFreeDays.j1
      repeat' first
      | (with_reducible exact ih0 _ _ _ _ _ _ _ _ _ _)
      | (with_reducible exact ih1 _ _ _ _ _ _ _ _)
      | (with_reducible exact ih2 _ _ _)
      | (with_reducible exact impl_FreeDays.mono _ _ _ _ _)
      | (with_reducible exact laws_eqIntSS.mono _ _ _)
      | (with_reducible exact laws_eqPermitS.mono _ _ _)
      | (with_reducible exact laws_heldIntSS.mono _ _ _)
      | (with_reducible exact laws_markIntSS.mono _ _ _)
      | (with_reducible exact laws_markPermitS.mono _ _ _)
      | (with_reducible exact laws_szPermitS.mono _ _ _)
      | (with_reducible exact laws_toPermitS.mono _ _)
      | (with_reducible exact spec_FreeDays.mono _ _ _ _ _)
      | (with_reducible exact LeO.refl _)
      | (with_reducible exact LeO.none _)
      | (with_reducible refine LeO.ite ?_ ?_)
      | (with_reducible refine LeO.bind ?_ (fun _ => ?_))
      | exact ih0 _ _ _ _ _ _ _ _ _ _
      | exact ih1 _ _ _ _ _ _ _ _
      | exact ih2 _ _ _
      | exact impl_FreeDays.mono _ _ _ _ _
      | exact laws_eqIntSS.mono _ _ _
      | exact laws_eqPermitS.mono _ _ _
      | exact laws_heldIntSS.mono _ _ _
      | exact laws_markIntSS.mono _ _ _
      | exact laws_markPermitS.mono _ _ _
      | exact laws_szPermitS.mono _ _ _
      | exact laws_toPermitS.mono _ _
      | exact spec_FreeDays.mono _ _ _ _ _
      | exact LeO.none _
      | refine LeO.ite ?_ ?_
      | refine LeO.bind ?_ (fun _ => ?_)
    · intro y0 y1 y2
      unfold laws_FnExactFreeDays.j2
      repeat' first
      | (with_reducible exact ih0 _ _ _ _ _ _ _ _ _ _)
      | (with_reducible exact ih1 _ _ _ _ _ _ _ _)
      | (with_reducible exact ih2 _ _ _)
      | (with_reducible exact impl_FreeDays.mono _ _ _ _ _)
      | (with_reducible exact laws_eqIntSS.mono _ _ _)
      | (with_reducible exact laws_eqPermitS.mono _ _ _)
      | (with_reducible exact laws_heldIntSS.mono _ _ _)
      | (with_reducible exact laws_markIntSS.mono _ _ _)
      | (with_reducible exact laws_markPermitS.mono _ _ _)
      | (with_reducible exact laws_szPermitS.mono _ _ _)
      | (with_reducible exact laws_toPermitS.mono _ _)
      | (with_reducible exact spec_FreeDays.mono _ _ _ _ _)
      | (with_reducible exact LeO.refl _)
      | (with_reducible exact LeO.none _)
      | (with_reducible refine LeO.ite ?_ ?_)
      | (with_reducible refine LeO.bind ?_ (fun _ => ?_))
      | exact ih0 _ _ _ _ _ _ _ _ _ _
      | exact ih1 _ _ _ _ _ _ _ _
      | exact ih2 _ _ _
      | exact impl_FreeDays.mono _ _ _ _ _
      | exact laws_eqIntSS.mono _ _ _
      | exact laws_eqPermitS.mono _ _ _
      | exact laws_heldIntSS.mono _ _ _
      | exact laws_markIntSS.mono _ _ _
      | exact laws_markPermitS.mono _ _ _
      | exact laws_szPermitS.mono _ _ _
      | exact laws_toPermitS.mono _ _
      | exact spec_FreeDays.mono _ _ _ _ _
      | exact LeO.none _
      | refine LeO.ite ?_ ?_
      | refine LeO.bind ?_ (fun _ => ?_)
theorem laws_FnExactFreeDays.mono : ∀ a0 a1 a2 a3 k, LeO (laws_FnExactFreeDays.f k a0 a1 a2 a3) (laws_FnExactFreeDays.f (k + 1) a0 a1 a2 a3) := by
  intro a0 a1 a2 a3 k
  obtain ⟨ih0, ih1, ih2⟩ := laws_FnExactFreeDays.mono_l k
  unfold laws_FnExactFreeDays.f
  repeat' first
      | (with_reducible exact ih0 _ _ _ _ _ _ _ _ _ _)
      | (with_reducible exact ih1 _ _ _ _ _ _ _ _)
      | (with_reducible exact ih2 _ _ _)
      | (with_reducible exact impl_FreeDays.mono _ _ _ _ _)
      | (with_reducible exact laws_eqIntSS.mono _ _ _)
      | (with_reducible exact laws_eqPermitS.mono _ _ _)
      | (with_reducible exact laws_heldIntSS.mono _ _ _)
      | (with_reducible exact laws_markIntSS.mono _ _ _)
      | (with_reducible exact laws_markPermitS.mono _ _ _)
      | (with_reducible exact laws_szPermitS.mono _ _ _)
      | (with_reducible exact laws_toPermitS.mono _ _)
      | (with_reducible exact spec_FreeDays.mono _ _ _ _ _)
      | (with_reducible exact LeO.refl _)
      | (with_reducible exact LeO.none _)
      | (with_reducible refine LeO.ite ?_ ?_)
      | (with_reducible refine LeO.bind ?_ (fun _ => ?_))
      | exact ih0 _ _ _ _ _ _ _ _ _ _
      | exact ih1 _ _ _ _ _ _ _ _
      | exact ih2 _ _ _
      | exact impl_FreeDays.mono _ _ _ _ _
      | exact laws_eqIntSS.mono _ _ _
      | exact laws_eqPermitS.mono _ _ _
      | exact laws_heldIntSS.mono _ _ _
      | exact laws_markIntSS.mono _ _ _
      | exact laws_markPermitS.mono _ _ _
      | exact laws_szPermitS.mono _ _ _
      | exact laws_toPermitS.mono _ _
      | exact spec_FreeDays.mono _ _ _ _ _
      | exact LeO.none _
      | refine LeO.ite ?_ ?_
      | refine LeO.bind ?_ (fun _ => ?_)
theorem laws_heldIntSS.calls_n (k : Nat) (A0 : Option Addr) (c0 n : Nat) (l0 : List (List Int)) (a1 : Int) (r : Int) (w : World) (hn : n = l0.length) (hr0 : Kd.C (Kd.slice 3 (Kd.int .i64)) w A0 l0.length l0) (hc0 : n ≤ c0) (h : laws_heldIntSS.f k l0 a1 = some r) :
    Calls Tryd.prog 41 #[.slice A0 n c0, .int .i64 a1] w fun e w' => e = .returned (.int .i64 r) ∧ Drawn0 w w' := by
  subst hn
  exact laws_heldIntSS.calls k A0 c0 l0 a1 r w hr0 hc0 h
set_option maxHeartbeats 8000000 in
set_option maxRecDepth 100000 in
theorem laws_FnExactFreeDays.calls (k : Nat) (A0 : Option Addr) (c0 : Nat) (l0 : List (S23)) (a1 : ByteArray) (a2 : Int) (a3 : Int) (r : Bool) (w : World) (hr0 : Kd.C k23 w A0 l0.length l0) (hc0 : l0.length ≤ c0) (h : laws_FnExactFreeDays.f k l0 a1 a2 a3 = some r) (hT : r = true) :
    Calls Tryd.prog 11 #[.slice A0 l0.length c0, .string a1, .int .i64 a2, .int .i64 a3] w fun e w' => e = .returned (.bool r) ∧ Below w.heap.size w w' := by
  have HR0 := Aside0.mk hr0
  have HC0 := Aside0.mk hc0
  clear hr0 hc0
  have HB := Aside0.mk (Below.refl w.heap.size w)
  have H : (if (a1.size : Int) > 1048576 then (some true) else ((laws_szPermitS.f k l0 1048576).bind fun t246 => (if t246 < 0 then (some true) else ((laws_toPermitS.f k l0).bind fun t247 => ((spec_FreeDays.f k t247 a1 a2 a3).bind fun bt250 => ((laws_toPermitS.f k l0).bind fun t254 => ((impl_FreeDays.f k t254 a1 a2 a3).bind fun bt257 => ((laws_eqIntSS.f k bt257.1 bt250.1).bind fun t261 => (if t261 = true then (laws_FnExactFreeDays.j0 k l0 a1 a2 a3 bt250.1 bt250.2 t254 bt257.1 bt257.2 (bt257.2 != bt250.2)) else (laws_FnExactFreeDays.j0 k l0 a1 a2 a3 bt250.1 bt250.2 t254 bt257.1 bt257.2 true)))))))))) = some r := h
  clear h
  by_cases c5 : (a1.size : Int) > 1048576
  · rw [if_pos c5] at H
    have c5b0 : decide (1048576 < (a1.size : Int)) = true := decide_eq_true c5
    have c5b1 : decide (1048576 < a1.size) = true := decide_eq_true (by omega)
    clear c5
    obtain rfl := (Option.some.inj H)
    go_enter Tryd.func11, Tryd.ntmps11
    go_wp2
    go_ret
    exact ⟨by first | rfl | (simp [errW_none, errW_some] <;> rfl) | (simp [*, errW_none, errW_some] <;> rfl), (upB HB.out)⟩
  · rw [if_neg c5] at H
    have c5b0 : decide (1048576 < (a1.size : Int)) = false := decide_eq_false c5
    have c5b1 : decide (1048576 < a1.size) = false := decide_eq_false (by omega)
    clear c5
    replace H := Option.bind_eq_some_iff.mp H
    obtain ⟨t246, A60, H⟩ := H
    replace H : (if t246 < 0 then (some true) else ((laws_toPermitS.f k l0).bind fun t247 => ((spec_FreeDays.f k t247 a1 a2 a3).bind fun bt250 => ((laws_toPermitS.f k l0).bind fun t254 => ((impl_FreeDays.f k t254 a1 a2 a3).bind fun bt257 => ((laws_eqIntSS.f k bt257.1 bt250.1).bind fun t261 => (if t261 = true then (laws_FnExactFreeDays.j0 k l0 a1 a2 a3 bt250.1 bt250.2 t254 bt257.1 bt257.2 (bt257.2 != bt250.2)) else (laws_FnExactFreeDays.j0 k l0 a1 a2 a3 bt250.1 bt250.2 t254 bt257.1 bt257.2 true)))))))) = some r := H
    have A6 := Aside0.mk A60
    clear A60
    by_cases c7 : t246 < 0
    · rw [if_pos c7] at H
      have c7b0 : decide (t246 < 0) = true := decide_eq_true c7
      clear c7
      obtain rfl := (Option.some.inj H)
      go_enter Tryd.func11, Tryd.ntmps11
      go_wp2_with (first | ((with_reducible refine gate_callee (f := 18) rfl ?_); refine goesL_ (some 25) rfl rfl Tryd.func18 (by kernel_rfl) rfl #[.slice A0 l0.length c0, .int .i64 1048576] rfl argsB ?_; (with_reducible refine (laws_szPermitS.calls k _ _ l0 1048576 t246 _ ?side1 ?side2 A6.out).mono ?_); (case side1 => repeat (first | exact HR0.out | (with_reducible refine Kd.C_alloc ?_ _) | (with_reducible refine Kd.C_drewN ?_ _) | (with_reducible refine Kd.C_drew ?_))); (case side2 => exact HC0.out); rintro e w8 ⟨rfl, hb⟩; refine ⟨_, rfl, ?_⟩; have n0_ := Aside0.mk (below_step (upB HB.out) hb); clear HB; have HB := n0_; clear n0_; (try clear hb); (try clear hk)))
      go_ret
      exact ⟨by first | rfl | (simp [errW_none, errW_some] <;> rfl) | (simp [*, errW_none, errW_some] <;> rfl), (upB HB.out)⟩
    · rw [if_neg c7] at H
      have c7b0 : decide (t246 < 0) = false := decide_eq_false c7
      clear c7
      replace H := Option.bind_eq_some_iff.mp H
      obtain ⟨t247, A90, H⟩ := H
      replace H : ((spec_FreeDays.f k t247 a1 a2 a3).bind fun bt250 => ((laws_toPermitS.f k l0).bind fun t254 => ((impl_FreeDays.f k t254 a1 a2 a3).bind fun bt257 => ((laws_eqIntSS.f k bt257.1 bt250.1).bind fun t261 => (if t261 = true then (laws_FnExactFreeDays.j0 k l0 a1 a2 a3 bt250.1 bt250.2 t254 bt257.1 bt257.2 (bt257.2 != bt250.2)) else (laws_FnExactFreeDays.j0 k l0 a1 a2 a3 bt250.1 bt250.2 t254 bt257.1 bt257.2 true)))))) = some r := H
      have A9 := Aside0.mk A90
      clear A90
      replace H := Option.bind_eq_some_iff.mp H
      obtain ⟨⟨t250, t251⟩, A100, H⟩ := H
      replace H : ((laws_toPermitS.f k l0).bind fun t254 => ((impl_FreeDays.f k t254 a1 a2 a3).bind fun bt257 => ((laws_eqIntSS.f k bt257.1 t250).bind fun t261 => (if t261 = true then (laws_FnExactFreeDays.j0 k l0 a1 a2 a3 t250 t251 t254 bt257.1 bt257.2 (bt257.2 != t251)) else (laws_FnExactFreeDays.j0 k l0 a1 a2 a3 t250 t251 t254 bt257.1 bt257.2 true))))) = some r := H
      have A10 := Aside0.mk A100
      clear A100
      replace H := Option.bind_eq_some_iff.mp H
      obtain ⟨t254, A110, H⟩ := H
      replace H : ((impl_FreeDays.f k t254 a1 a2 a3).bind fun bt257 => ((laws_eqIntSS.f k bt257.1 t250).bind fun t261 => (if t261 = true then (laws_FnExactFreeDays.j0 k l0 a1 a2 a3 t250 t251 t254 bt257.1 bt257.2 (bt257.2 != t251)) else (laws_FnExactFreeDays.j0 k l0 a1 a2 a3 t250 t251 t254 bt257.1 bt257.2 true)))) = some r := H
      have A11 := Aside0.mk A110
      clear A110
      replace H := Option.bind_eq_some_iff.mp H
      obtain ⟨⟨t257, t258⟩, A120, H⟩ := H
      replace H : ((laws_eqIntSS.f k t257 t250).bind fun t261 => (if t261 = true then (laws_FnExactFreeDays.j0 k l0 a1 a2 a3 t250 t251 t254 t257 t258 (t258 != t251)) else (laws_FnExactFreeDays.j0 k l0 a1 a2 a3 t250 t251 t254 t257 t258 true))) = some r := H
      have A12 := Aside0.mk A120
      clear A120
      have HC13 := Aside0.mk H
      clear H
      go_enter Tryd.func11, Tryd.ntmps11
      go_upto_region 10 with (first | ((with_reducible refine gate_callee (f := 18) rfl ?_); refine goesL_ (some 25) rfl rfl Tryd.func18 (by kernel_rfl) rfl #[.slice A0 l0.length c0, .int .i64 1048576] rfl argsB ?_; (with_reducible refine (laws_szPermitS.calls k _ _ l0 1048576 t246 _ ?side1 ?side2 A6.out).mono ?_); (case side1 => repeat (first | exact HR0.out | (with_reducible refine Kd.C_alloc ?_ _) | (with_reducible refine Kd.C_drewN ?_ _) | (with_reducible refine Kd.C_drew ?_))); (case side2 => exact HC0.out); rintro e w14 ⟨rfl, hb⟩; refine ⟨_, rfl, ?_⟩; have n0_ := Aside0.mk (below_step (upB HB.out) hb); clear HB; have HB := n0_; clear n0_; (try clear hb); (try clear hk)) | ((with_reducible refine gate_callee (f := 20) rfl ?_); refine goesL_ (some 30) rfl rfl Tryd.func20 (by kernel_rfl) rfl #[.slice A0 l0.length c0] rfl argsB ?_; (with_reducible refine (laws_toPermitS.calls k _ _ l0 t247 _ ?side1 ?side2 A9.out).mono ?_); (case side1 => repeat (first | exact (Kd.C_below HR0.out HB.out) | (with_reducible refine Kd.C_alloc ?_ _) | (with_reducible refine Kd.C_drewN ?_ _) | (with_reducible refine Kd.C_drew ?_))); (case side2 => exact HC0.out); rintro e w15 ⟨v248, rfl, ho0, hb⟩; refine ⟨_, rfl, ?_⟩; have n0_ := Aside0.mk (Kd.R_lower ho0 (below_size (upB HB.out))); have n1_ := Aside0.mk (below_step (upB HB.out) hb); clear HB; have HO249 := n0_; have HB := n1_; clear n0_ n1_; (try clear hb); (try clear hk); (try clear ho0); obtain ⟨Ao16, co16, eo16⟩ := Kd.R_slice HO249.out; subst eo16) | ((with_reducible refine gate_callee (f := 37) rfl ?_); refine goesL_ (some 34) rfl rfl Tryd.func37 (by kernel_rfl) rfl #[.slice Ao16 t247.length co16, .string a1, .int .i64 a2, .int .i64 a3] rfl argsB ?_; (with_reducible refine (spec_FreeDays.calls k _ _ t247 a1 a2 a3 t250 t251 _ ?side1 ?side2 A10.out).mono ?_); (case side1 => repeat (first | exact (Kd.R_reads' HO249.out).2.2 | (with_reducible refine Kd.C_alloc ?_ _) | (with_reducible refine Kd.C_drewN ?_ _) | (with_reducible refine Kd.C_drew ?_))); (case side2 => exact (Kd.R_reads' HO249.out).2.1); rintro e w17 ⟨v252, rfl, ho0, hb⟩; refine ⟨_, rfl, ?_⟩; have n0_ := Aside0.mk (Kd.R_below (upR HO249.out) hb); have n1_ := Aside0.mk (Kd.S_lower ho0 (below_size (upB HB.out))); have n2_ := Aside0.mk (below_step (upB HB.out) hb); clear HO249; clear HB; have HO249 := n0_; have HO253 := n1_; have HB := n2_; clear n0_ n1_ n2_; (try clear hb); (try clear hk); (try clear ho0)) | ((with_reducible refine gate_callee (f := 20) rfl ?_); refine goesL_ (some 38) rfl rfl Tryd.func20 (by kernel_rfl) rfl #[.slice A0 l0.length c0] rfl argsB ?_; (with_reducible refine (laws_toPermitS.calls k _ _ l0 t254 _ ?side1 ?side2 A11.out).mono ?_); (case side1 => repeat (first | exact (Kd.C_below HR0.out HB.out) | (with_reducible refine Kd.C_alloc ?_ _) | (with_reducible refine Kd.C_drewN ?_ _) | (with_reducible refine Kd.C_drew ?_))); (case side2 => exact HC0.out); rintro e w18 ⟨v255, rfl, ho0, hb⟩; refine ⟨_, rfl, ?_⟩; have n0_ := Aside0.mk (Kd.R_elder' (upR HO249.out) (Kd.R_base ho0) hb); have n1_ := Aside0.mk (Kd.S_below (by (with_reducible repeat (first | apply Kd.S_alloc | apply Kd.S_drewN | apply Kd.S_drew)); exact HO253.out) hb); have n2_ := Aside0.mk (Kd.R_lower (Kd.R_new' ho0 (Kd.R_lt (upR HO249.out))) (below_size (upB HB.out))); have n3_ := Aside0.mk (below_step (upB HB.out) hb); clear HO249; clear HO253; clear HB; have HO249 := n0_; have HO253 := n1_; have HO256 := n2_; have HB := n3_; clear n0_ n1_ n2_ n3_; (try clear hb); (try clear hk); (try clear ho0); obtain ⟨Ao19, co19, eo19⟩ := Kd.R_slice HO256.out; subst eo19) | ((with_reducible refine gate_callee (f := 38) rfl ?_); refine goesL_ (some 44) rfl rfl Tryd.func38 (by kernel_rfl) rfl #[.slice Ao19 t254.length co19, .string a1, .int .i64 a2, .int .i64 a3] rfl argsB ?_; (with_reducible refine (impl_FreeDays.calls k _ _ t254 a1 a2 a3 t257 t258 _ ?side1 ?side2 A12.out).mono ?_); (case side1 => repeat (first | exact (Kd.R_reads' HO256.out).2.2 | (with_reducible refine Kd.C_alloc ?_ _) | (with_reducible refine Kd.C_drewN ?_ _) | (with_reducible refine Kd.C_drew ?_))); (case side2 => exact (Kd.R_reads' HO256.out).2.1); rintro e w20 ⟨v259, rfl, ho0, hb⟩; refine ⟨_, rfl, ?_⟩; obtain ⟨N_, hS1_, hS2_⟩ := oldnew (by (with_reducible repeat (first | apply Kd.S_alloc | apply Kd.S_drewN | apply Kd.S_drew)); exact HO253.out) hb ho0 (below_size (upB HB.out)); have n0_ := Aside0.mk (Kd.R_below (upR HO249.out) hb); have n1_ := Aside0.mk hS1_; have n2_ := Aside0.mk (Kd.R_below (upR HO256.out) hb); have n3_ := Aside0.mk hS2_; have n4_ := Aside0.mk (below_step (upB HB.out) hb); clear HO249; clear HO253; clear HO256; clear HB; have HO249 := n0_; have HO253 := n1_; have HO256 := n2_; have HO260 := n3_; have HB := n4_; clear n0_ n1_ n2_ n3_ n4_; (try clear hb); (try clear hk); (try clear ho0)))
      (try simp only [Act.put, List.setIfInBounds_toArray, List.set_cons_zero, List.set_cons_succ])
      go_cut [55] (fun v55 wc => ∃ (kq : Nat) (x55_12 : Bool), v55 = .bool x55_12 ∧ Aside0 (laws_FnExactFreeDays.j0 kq l0 a1 a2 a3 t250 t251 t254 t257 t258 x55_12 = some r) ∧ Aside0 (kq ≤ k) ∧ Aside0 (Kd.S (Kd.slice 3 (Kd.int .i64)) 68 wc w.heap.size (fun k_ => k_ < N_) v252 t250) ∧ Aside0 (Kd.R k26 26 wc w.heap.size (fun _ => True) (.slice Ao19 t254.length co19) t254) ∧ Aside0 (Kd.S (Kd.slice 3 (Kd.int .i64)) 68 wc w.heap.size (fun k_ => N_ ≤ k_) v259 t257) ∧ Aside0 (Below w.heap.size w wc))
      case first =>
        have H := HC13.out
        clear HC13
        replace H := Option.bind_eq_some_iff.mp H
        obtain ⟨t261, A210, H⟩ := H
        replace H : (if t261 = true then (laws_FnExactFreeDays.j0 k l0 a1 a2 a3 t250 t251 t254 t257 t258 (t258 != t251)) else (laws_FnExactFreeDays.j0 k l0 a1 a2 a3 t250 t251 t254 t257 t258 true)) = some r := H
        have A21 := Aside0.mk A210
        clear A210
        by_cases c22 : t261 = true
        · subst c22
          have H1 : (laws_FnExactFreeDays.j0 k l0 a1 a2 a3 t250 t251 t254 t257 t258 (t258 != t251)) = some r := by rw [if_pos rfl] at H; exact H
          clear H
          have H := H1
          clear H1
          have H' := Aside0.mk H
          clear H
          obtain ⟨Ao23, co23, eo23⟩ := Kd.S_slice HO260.out
          subst eo23
          obtain ⟨Ao24, co24, eo24⟩ := Kd.S_slice HO253.out
          subst eo24
          go_wp2_with (first | ((with_reducible refine gate_callee (f := 39) rfl ?_); refine goesL_ (some 49) rfl rfl Tryd.func39 (by kernel_rfl) rfl #[.slice Ao23 t257.length co23, .slice Ao24 t250.length co24] rfl argsB ?_; (with_reducible refine (laws_eqIntSS.calls k _ _ t257 _ _ t250 true _ ?side1 ?side2 ?side3 ?side4 A21.out).mono ?_); (case side1 => repeat (first | exact (Kd.S_reads' HO260.out).2.2 | (with_reducible refine Kd.C_alloc ?_ _) | (with_reducible refine Kd.C_drewN ?_ _) | (with_reducible refine Kd.C_drew ?_))); (case side2 => exact (Kd.S_reads' HO260.out).2.1); (case side3 => repeat (first | exact (Kd.S_reads' HO253.out).2.2 | (with_reducible refine Kd.C_alloc ?_ _) | (with_reducible refine Kd.C_drewN ?_ _) | (with_reducible refine Kd.C_drew ?_))); (case side4 => exact (Kd.S_reads' HO253.out).2.1); rintro e w' ⟨rfl, ⟨nd, rfl⟩⟩; refine ⟨_, rfl, ?_⟩))
          go_meet
          case rel => exact ⟨_, ((t258 != t251)), (by first | rfl | (simp; done) | (simp [*]; done)), H', ⟨by first | omega | exact Nat.le_refl _⟩, ⟨by (with_reducible repeat (first | apply Kd.S_alloc | apply Kd.S_drewN | apply Kd.S_drew)); exact HO253.out⟩, ⟨by (with_reducible repeat (first | apply Kd.R_alloc | apply Kd.R_drewN | apply Kd.R_drew)); exact Kd.R_mono HO256.out (fun _ hk => trivial)⟩, ⟨by (with_reducible repeat (first | apply Kd.S_alloc | apply Kd.S_drewN | apply Kd.S_drew)); exact HO260.out⟩, ⟨(upB HB.out)⟩⟩
        · replace c22 := Bool.eq_false_iff.mpr c22
          subst c22
          have H1 : (laws_FnExactFreeDays.j0 k l0 a1 a2 a3 t250 t251 t254 t257 t258 true) = some r := by rw [if_neg (show ¬ (false = true) by decide)] at H; exact H
          clear H
          have H := H1
          clear H1
          have H' := Aside0.mk H
          clear H
          obtain ⟨Ao25, co25, eo25⟩ := Kd.S_slice HO260.out
          subst eo25
          obtain ⟨Ao26, co26, eo26⟩ := Kd.S_slice HO253.out
          subst eo26
          go_wp2_with (first | ((with_reducible refine gate_callee (f := 39) rfl ?_); refine goesL_ (some 49) rfl rfl Tryd.func39 (by kernel_rfl) rfl #[.slice Ao25 t257.length co25, .slice Ao26 t250.length co26] rfl argsB ?_; (with_reducible refine (laws_eqIntSS.calls k _ _ t257 _ _ t250 false _ ?side1 ?side2 ?side3 ?side4 A21.out).mono ?_); (case side1 => repeat (first | exact (Kd.S_reads' HO260.out).2.2 | (with_reducible refine Kd.C_alloc ?_ _) | (with_reducible refine Kd.C_drewN ?_ _) | (with_reducible refine Kd.C_drew ?_))); (case side2 => exact (Kd.S_reads' HO260.out).2.1); (case side3 => repeat (first | exact (Kd.S_reads' HO253.out).2.2 | (with_reducible refine Kd.C_alloc ?_ _) | (with_reducible refine Kd.C_drewN ?_ _) | (with_reducible refine Kd.C_drew ?_))); (case side4 => exact (Kd.S_reads' HO253.out).2.1); rintro e w' ⟨rfl, ⟨nd, rfl⟩⟩; refine ⟨_, rfl, ?_⟩))
          go_meet
          case rel => exact ⟨_, (true), (by first | rfl | (simp; done) | (simp [*]; done)), H', ⟨by first | omega | exact Nat.le_refl _⟩, ⟨by (with_reducible repeat (first | apply Kd.S_alloc | apply Kd.S_drewN | apply Kd.S_drew)); exact HO253.out⟩, ⟨by (with_reducible repeat (first | apply Kd.R_alloc | apply Kd.R_drewN | apply Kd.R_drew)); exact Kd.R_mono HO256.out (fun _ hk => trivial)⟩, ⟨by (with_reducible repeat (first | apply Kd.S_alloc | apply Kd.S_drewN | apply Kd.S_drew)); exact HO260.out⟩, ⟨(upB HB.out)⟩⟩
      case rest =>
        clear HC13
        try clear c5
        try clear c5b0
        try clear c5b1
        try clear c7
        try clear c7b0
        try clear c22
        obtain ⟨kq, x55_12, rfl, HA, HJ12, HO_10, HO_12, HO_13, HB⟩ := hcut
        cases kq with
        | zero => exact absurd HA.out (by simp [laws_FnExactFreeDays.j0])
        | succ kj12 =>
          have H := HA.out
          clear HA
          simp only [laws_FnExactFreeDays.j0] at H
          by_cases c27 : x55_12 = true
          · subst c27
            have H1 : (some false) = some r := by rw [if_pos rfl] at H; exact H
            clear H
            have H := H1
            clear H1
            exact absurd (Option.some.inj H) (by rw [hT]; decide)
          · replace c27 := Bool.eq_false_iff.mpr c27
            subst c27
            have H1 : ((laws_toPermitS.f kj12 l0).bind fun t262 => ((laws_eqPermitS.f kj12 t254 t262).bind fun t265 => (if t265 = true then ((laws_markPermitS.f kj12 t254 1).bind fun bt266 => (if bt266.1 < 0 then (laws_FnExactFreeDays.j1 kj12 l0 a1 a2 a3 t250 t251 t257 true) else ((laws_eqIntSS.f kj12 t257 t250).bind fun t268 => (if t268 = true then (laws_FnExactFreeDays.j1 kj12 l0 a1 a2 a3 t250 t251 t257 (t258 != t251)) else (laws_FnExactFreeDays.j1 kj12 l0 a1 a2 a3 t250 t251 t257 true))))) else (some false)))) = some r := by rw [if_neg (show ¬ (false = true) by decide)] at H; exact H
            clear H
            have H := H1
            clear H1
            replace H := Option.bind_eq_some_iff.mp H
            obtain ⟨t262, A280, H⟩ := H
            replace H : ((laws_eqPermitS.f kj12 t254 t262).bind fun t265 => (if t265 = true then ((laws_markPermitS.f kj12 t254 1).bind fun bt266 => (if bt266.1 < 0 then (laws_FnExactFreeDays.j1 kj12 l0 a1 a2 a3 t250 t251 t257 true) else ((laws_eqIntSS.f kj12 t257 t250).bind fun t268 => (if t268 = true then (laws_FnExactFreeDays.j1 kj12 l0 a1 a2 a3 t250 t251 t257 (t258 != t251)) else (laws_FnExactFreeDays.j1 kj12 l0 a1 a2 a3 t250 t251 t257 true))))) else (some false))) = some r := H
            have A28 := Aside0.mk A280
            clear A280
            replace H := Option.bind_eq_some_iff.mp H
            obtain ⟨t265, A290, H⟩ := H
            replace H : (if t265 = true then ((laws_markPermitS.f kj12 t254 1).bind fun bt266 => (if bt266.1 < 0 then (laws_FnExactFreeDays.j1 kj12 l0 a1 a2 a3 t250 t251 t257 true) else ((laws_eqIntSS.f kj12 t257 t250).bind fun t268 => (if t268 = true then (laws_FnExactFreeDays.j1 kj12 l0 a1 a2 a3 t250 t251 t257 (t258 != t251)) else (laws_FnExactFreeDays.j1 kj12 l0 a1 a2 a3 t250 t251 t257 true))))) else (some false)) = some r := H
            have A29 := Aside0.mk A290
            clear A290
            by_cases c30 : t265 = true
            · subst c30
              have H1 : ((laws_markPermitS.f kj12 t254 1).bind fun bt266 => (if bt266.1 < 0 then (laws_FnExactFreeDays.j1 kj12 l0 a1 a2 a3 t250 t251 t257 true) else ((laws_eqIntSS.f kj12 t257 t250).bind fun t268 => (if t268 = true then (laws_FnExactFreeDays.j1 kj12 l0 a1 a2 a3 t250 t251 t257 (t258 != t251)) else (laws_FnExactFreeDays.j1 kj12 l0 a1 a2 a3 t250 t251 t257 true))))) = some r := by rw [if_pos rfl] at H; exact H
              clear H
              have H := H1
              clear H1
              replace H := Option.bind_eq_some_iff.mp H
              obtain ⟨⟨t266, t267⟩, A310, H⟩ := H
              replace H : (if t266 < 0 then (laws_FnExactFreeDays.j1 kj12 l0 a1 a2 a3 t250 t251 t257 true) else ((laws_eqIntSS.f kj12 t257 t250).bind fun t268 => (if t268 = true then (laws_FnExactFreeDays.j1 kj12 l0 a1 a2 a3 t250 t251 t257 (t258 != t251)) else (laws_FnExactFreeDays.j1 kj12 l0 a1 a2 a3 t250 t251 t257 true)))) = some r := H
              have A31 := Aside0.mk A310
              clear A310
              have HC32 := Aside0.mk H
              clear H
              go_upto_region 16 with (first | ((with_reducible refine gate_callee (f := 20) rfl ?_); refine goesL_ (some 58) rfl rfl Tryd.func20 (by kernel_rfl) rfl #[.slice A0 l0.length c0] rfl argsB ?_; (with_reducible refine (laws_toPermitS.calls kj12 _ _ l0 t262 _ ?side1 ?side2 A28.out).mono ?_); (case side1 => repeat (first | exact (Kd.C_below HR0.out HB.out) | (with_reducible refine Kd.C_alloc ?_ _) | (with_reducible refine Kd.C_drewN ?_ _) | (with_reducible refine Kd.C_drew ?_))); (case side2 => exact HC0.out); rintro e w33 ⟨v263, rfl, ho0, hb⟩; refine ⟨_, rfl, ?_⟩; have n0_ := Aside0.mk (Kd.S_below (by (with_reducible repeat (first | apply Kd.S_alloc | apply Kd.S_drewN | apply Kd.S_drew)); exact HO_10.out) hb); have n1_ := Aside0.mk (Kd.R_elder' (upR HO_12.out) (Kd.R_base ho0) hb); have n2_ := Aside0.mk (Kd.S_below (by (with_reducible repeat (first | apply Kd.S_alloc | apply Kd.S_drewN | apply Kd.S_drew)); exact HO_13.out) hb); have n3_ := Aside0.mk (Kd.R_lower (Kd.R_new' ho0 (Kd.R_lt (upR HO_12.out))) (below_size (upB HB.out))); have n4_ := Aside0.mk (below_step (upB HB.out) hb); clear HO_10; clear HO_12; clear HO_13; clear HB; have HO_10 := n0_; have HO_12 := n1_; have HO_13 := n2_; have HO264 := n3_; have HB := n4_; clear n0_ n1_ n2_ n3_ n4_; (try clear hb); (try clear hk); (try clear ho0); obtain ⟨Ao34, co34, eo34⟩ := Kd.R_slice HO264.out; subst eo34) | ((with_reducible refine gate_callee (f := 22) rfl ?_); refine goesL_ (some 59) rfl rfl Tryd.func22 (by kernel_rfl) rfl #[.slice Ao19 t254.length co19, .slice Ao34 t262.length co34] rfl argsB ?_; (with_reducible refine (laws_eqPermitS.calls kj12 _ _ t254 _ _ t262 true _ ?side1 ?side2 ?side3 ?side4 A29.out).mono ?_); (case side1 => repeat (first | exact (Kd.R_reads' HO_12.out).2.2 | (with_reducible refine Kd.C_alloc ?_ _) | (with_reducible refine Kd.C_drewN ?_ _) | (with_reducible refine Kd.C_drew ?_))); (case side2 => exact (Kd.R_reads' HO_12.out).2.1); (case side3 => repeat (first | exact (Kd.R_reads' HO264.out).2.2 | (with_reducible refine Kd.C_alloc ?_ _) | (with_reducible refine Kd.C_drewN ?_ _) | (with_reducible refine Kd.C_drew ?_))); (case side4 => exact (Kd.R_reads' HO264.out).2.1); rintro e w35 ⟨rfl, hb⟩; refine ⟨_, rfl, ?_⟩; have n0_ := Aside0.mk (Kd.S_below (by (with_reducible repeat (first | apply Kd.S_alloc | apply Kd.S_drewN | apply Kd.S_drew)); exact HO_10.out) hb); have n1_ := Aside0.mk (Kd.R_below (upR HO_12.out) hb); have n2_ := Aside0.mk (Kd.S_below (by (with_reducible repeat (first | apply Kd.S_alloc | apply Kd.S_drewN | apply Kd.S_drew)); exact HO_13.out) hb); have n3_ := Aside0.mk (Kd.R_below (upR HO264.out) hb); have n4_ := Aside0.mk (below_step (upB HB.out) hb); clear HO_10; clear HO_12; clear HO_13; clear HO264; clear HB; have HO_10 := n0_; have HO_12 := n1_; have HO_13 := n2_; have HO264 := n3_; have HB := n4_; clear n0_ n1_ n2_ n3_ n4_; (try clear hb); (try clear hk)) | ((with_reducible refine gate_callee (f := 29) rfl ?_); refine goesL_ (some 63) rfl rfl Tryd.func29 (by kernel_rfl) rfl #[.slice Ao19 t254.length co19, .int .i64 1] rfl argsB ?_; (with_reducible refine (laws_markPermitS.calls kj12 (fun k_ => some k_ = (.slice Ao19 t254.length co19 : Value).ownBlock) (.slice Ao19 t254.length co19) t254 1 t266 t267 w _ ?side1 ?side2 A31.out).mono ?_); (case side1 => repeat (first | (with_reducible first | exact HB.out | apply below_alloc | apply pw_below_drewN | apply below_drew1) | exact HB.out)); (case side2 => exact Kd.R_tight rfl HO_12.out); rintro e w36 ⟨rfl, hy0, hb, hkp⟩; refine ⟨_, rfl, ?_⟩; have n0_ := Aside0.mk (Kd.S_mono (ok' := fun k_ => k_ < N_) (Kd.S_keptB ((Kd.S_apart' HO_10.out (Kd.R_typed HO_12.out) (by decide))) hkp (fun k_ hk_ hs_ => (hk_.2) hs_)) (fun k_ hk_ => hk_.1.1)); have n1_ := Aside0.mk (Kd.R_reok rfl hy0 (fun k_ e_ => HO_12.out.1 k_ e_)); have n2_ := Aside0.mk (Kd.S_mono (ok' := fun k_ => N_ ≤ k_) (Kd.S_keptB ((Kd.S_apart' HO_13.out (Kd.R_typed HO_12.out) (by decide))) hkp (fun k_ hk_ hs_ => (hk_.2) hs_)) (fun k_ hk_ => hk_.1.1)); have n3_ := Aside0.mk (Kd.R_mono (ok' := fun k_ => some k_ ≠ (.slice Ao19 t254.length co19 : Value).ownBlock) (Kd.R_keptB (HO264.out) hkp (fun k_ hk_ hs_ => (hk_.2) hs_)) (fun k_ hk_ => hk_.1.2)); have n4_ := Aside0.mk (hb); clear HO_10; clear HO_12; clear HO_13; clear HO264; clear HB; have HO_10 := n0_; have HO_12 := n1_; have HO_13 := n2_; have HO264 := n3_; have HB := n4_; clear n0_ n1_ n2_ n3_ n4_; (try clear hb); (try clear hkp); (try clear hy0)))
              (try simp only [Act.put, List.setIfInBounds_toArray, List.set_cons_zero, List.set_cons_succ])
              go_cut [76] (fun v76 wc => ∃ (kq : Nat) (x76_31 : Bool), v76 = .bool x76_31 ∧ Aside0 (laws_FnExactFreeDays.j1 kq l0 a1 a2 a3 t250 t251 t257 x76_31 = some r) ∧ Aside0 (kq ≤ kj12) ∧ Aside0 (Kd.S (Kd.slice 3 (Kd.int .i64)) 68 wc w.heap.size (fun k_ => k_ < N_) v252 t250) ∧ Aside0 (Kd.S (Kd.slice 3 (Kd.int .i64)) 68 wc w.heap.size (fun k_ => N_ ≤ k_) v259 t257) ∧ Aside0 (Below w.heap.size w wc))
              case first =>
                have H := HC32.out
                clear HC32
                by_cases c37 : t266 < 0
                · rw [if_pos c37] at H
                  have c37b0 : decide (t266 < 0) = true := decide_eq_true c37
                  clear c37
                  (first | rw [c37b0] | (simp only [i64_w, i32_w]; rw [c37b0]) | skip)
                  have H' := Aside0.mk H
                  clear H
                  go_wp2
                  go_meet
                  case rel => exact ⟨_, (true), (by first | rfl | (simp; done) | (simp [*]; done)), H', ⟨by have := HJ12.out; first | omega | exact Nat.le_refl _⟩, ⟨by (with_reducible repeat (first | apply Kd.S_alloc | apply Kd.S_drewN | apply Kd.S_drew)); exact HO_10.out⟩, ⟨by (with_reducible repeat (first | apply Kd.S_alloc | apply Kd.S_drewN | apply Kd.S_drew)); exact HO_13.out⟩, ⟨(upB HB.out)⟩⟩
                · rw [if_neg c37] at H
                  have c37b0 : decide (t266 < 0) = false := decide_eq_false c37
                  clear c37
                  (first | rw [c37b0] | (simp only [i64_w, i32_w]; rw [c37b0]) | skip)
                  replace H := Option.bind_eq_some_iff.mp H
                  obtain ⟨t268, A380, H⟩ := H
                  replace H : (if t268 = true then (laws_FnExactFreeDays.j1 kj12 l0 a1 a2 a3 t250 t251 t257 (t258 != t251)) else (laws_FnExactFreeDays.j1 kj12 l0 a1 a2 a3 t250 t251 t257 true)) = some r := H
                  have A38 := Aside0.mk A380
                  clear A380
                  by_cases c39 : t268 = true
                  · subst c39
                    have H1 : (laws_FnExactFreeDays.j1 kj12 l0 a1 a2 a3 t250 t251 t257 (t258 != t251)) = some r := by rw [if_pos rfl] at H; exact H
                    clear H
                    have H := H1
                    clear H1
                    have H' := Aside0.mk H
                    clear H
                    obtain ⟨Ao40, co40, eo40⟩ := Kd.S_slice HO_13.out
                    subst eo40
                    obtain ⟨Ao41, co41, eo41⟩ := Kd.S_slice HO_10.out
                    subst eo41
                    go_wp2_with (first | (go_at_call 39; (with_reducible refine (laws_eqIntSS.calls kj12 _ _ t257 _ _ t250 true _ ?side1 ?side2 ?side3 ?side4 A38.out).mono ?_); (case side1 => repeat (first | exact (Kd.S_reads' HO_13.out).2.2 | (with_reducible refine Kd.C_alloc ?_ _) | (with_reducible refine Kd.C_drewN ?_ _) | (with_reducible refine Kd.C_drew ?_))); (case side2 => exact (Kd.S_reads' HO_13.out).2.1); (case side3 => repeat (first | exact (Kd.S_reads' HO_10.out).2.2 | (with_reducible refine Kd.C_alloc ?_ _) | (with_reducible refine Kd.C_drewN ?_ _) | (with_reducible refine Kd.C_drew ?_))); (case side4 => exact (Kd.S_reads' HO_10.out).2.1); rintro e w' ⟨rfl, ⟨nd, rfl⟩⟩))
                    go_meet
                    case rel => exact ⟨_, ((t258 != t251)), (by first | rfl | (simp; done) | (simp [*]; done)), H', ⟨by have := HJ12.out; first | omega | exact Nat.le_refl _⟩, ⟨by (with_reducible repeat (first | apply Kd.S_alloc | apply Kd.S_drewN | apply Kd.S_drew)); exact HO_10.out⟩, ⟨by (with_reducible repeat (first | apply Kd.S_alloc | apply Kd.S_drewN | apply Kd.S_drew)); exact HO_13.out⟩, ⟨(upB HB.out)⟩⟩
                  · replace c39 := Bool.eq_false_iff.mpr c39
                    subst c39
                    have H1 : (laws_FnExactFreeDays.j1 kj12 l0 a1 a2 a3 t250 t251 t257 true) = some r := by rw [if_neg (show ¬ (false = true) by decide)] at H; exact H
                    clear H
                    have H := H1
                    clear H1
                    have H' := Aside0.mk H
                    clear H
                    obtain ⟨Ao42, co42, eo42⟩ := Kd.S_slice HO_13.out
                    subst eo42
                    obtain ⟨Ao43, co43, eo43⟩ := Kd.S_slice HO_10.out
                    subst eo43
                    go_wp2_with (first | (go_at_call 39; (with_reducible refine (laws_eqIntSS.calls kj12 _ _ t257 _ _ t250 false _ ?side1 ?side2 ?side3 ?side4 A38.out).mono ?_); (case side1 => repeat (first | exact (Kd.S_reads' HO_13.out).2.2 | (with_reducible refine Kd.C_alloc ?_ _) | (with_reducible refine Kd.C_drewN ?_ _) | (with_reducible refine Kd.C_drew ?_))); (case side2 => exact (Kd.S_reads' HO_13.out).2.1); (case side3 => repeat (first | exact (Kd.S_reads' HO_10.out).2.2 | (with_reducible refine Kd.C_alloc ?_ _) | (with_reducible refine Kd.C_drewN ?_ _) | (with_reducible refine Kd.C_drew ?_))); (case side4 => exact (Kd.S_reads' HO_10.out).2.1); rintro e w' ⟨rfl, ⟨nd, rfl⟩⟩))
                    go_meet
                    case rel => exact ⟨_, (true), (by first | rfl | (simp; done) | (simp [*]; done)), H', ⟨by have := HJ12.out; first | omega | exact Nat.le_refl _⟩, ⟨by (with_reducible repeat (first | apply Kd.S_alloc | apply Kd.S_drewN | apply Kd.S_drew)); exact HO_10.out⟩, ⟨by (with_reducible repeat (first | apply Kd.S_alloc | apply Kd.S_drewN | apply Kd.S_drew)); exact HO_13.out⟩, ⟨(upB HB.out)⟩⟩
              case rest =>
                clear HC32
                try clear c5
                try clear c5b0
                try clear c5b1
                try clear c7
                try clear c7b0
                try clear c22
                try clear c27
                try clear c30
                try clear c37
                try clear c37b0
                try clear c39
                obtain ⟨kq, x76_31, rfl, HA, HJ31, HO_10, HO_13, HB⟩ := hcut
                cases kq with
                | zero => exact absurd HA.out (by simp [laws_FnExactFreeDays.j1])
                | succ kj31 =>
                  have H := HA.out
                  clear HA
                  simp only [laws_FnExactFreeDays.j1] at H
                  by_cases c44 : x76_31 = true
                  · subst c44
                    have H1 : (some false) = some r := by rw [if_pos rfl] at H; exact H
                    clear H
                    have H := H1
                    clear H1
                    exact absurd (Option.some.inj H) (by rw [hT]; decide)
                  · replace c44 := Bool.eq_false_iff.mpr c44
                    subst c44
                    have H1 : ((laws_markIntSS.f kj31 t257 1).bind fun bt269 => ((laws_heldIntSS.f kj31 bt269.2 1).bind fun t270 => (if t270 < 0 then (some false) else (if t270 = bt269.1 then ((laws_toPermitS.f kj31 l0).bind fun t271 => ((impl_FreeDays.f kj31 t271 a1 a2 a3).bind fun bt274 => ((laws_eqIntSS.f kj31 bt274.1 t250).bind fun t278 => (if t278 = true then (laws_FnExactFreeDays.j2 kj31 bt269.2 bt269.1 (bt274.2 != t251)) else (laws_FnExactFreeDays.j2 kj31 bt269.2 bt269.1 true))))) else (some false))))) = some r := by rw [if_neg (show ¬ (false = true) by decide)] at H; exact H
                    clear H
                    have H := H1
                    clear H1
                    replace H := Option.bind_eq_some_iff.mp H
                    obtain ⟨⟨t269, tM_⟩, A450, H⟩ := H
                    replace H : ((laws_heldIntSS.f kj31 tM_ 1).bind fun t270 => (if t270 < 0 then (some false) else (if t270 = t269 then ((laws_toPermitS.f kj31 l0).bind fun t271 => ((impl_FreeDays.f kj31 t271 a1 a2 a3).bind fun bt274 => ((laws_eqIntSS.f kj31 bt274.1 t250).bind fun t278 => (if t278 = true then (laws_FnExactFreeDays.j2 kj31 tM_ t269 (bt274.2 != t251)) else (laws_FnExactFreeDays.j2 kj31 tM_ t269 true))))) else (some false)))) = some r := H
                    have A45 := Aside0.mk A450
                    clear A450
                    replace H := Option.bind_eq_some_iff.mp H
                    obtain ⟨t270, A460, H⟩ := H
                    replace H : (if t270 < 0 then (some false) else (if t270 = t269 then ((laws_toPermitS.f kj31 l0).bind fun t271 => ((impl_FreeDays.f kj31 t271 a1 a2 a3).bind fun bt274 => ((laws_eqIntSS.f kj31 bt274.1 t250).bind fun t278 => (if t278 = true then (laws_FnExactFreeDays.j2 kj31 tM_ t269 (bt274.2 != t251)) else (laws_FnExactFreeDays.j2 kj31 tM_ t269 true))))) else (some false))) = some r := H
                    have A46 := Aside0.mk A460
                    clear A460
                    by_cases c47 : t270 < 0
                    · rw [if_pos c47] at H
                      have c47b0 : decide (t270 < 0) = true := decide_eq_true c47
                      clear c47
                      exact absurd (Option.some.inj H) (by rw [hT]; decide)
                    · rw [if_neg c47] at H
                      have c47b0 : decide (t270 < 0) = false := decide_eq_false c47
                      clear c47
                      by_cases c50 : t270 = t269
                      · rw [if_pos c50] at H
                        have c50b0 : (t270 == t269) = true := beq_iff_eq.mpr c50
                        have c50b1 : (t270 != t269) = false := bne_eq_false_iff_eq.mpr c50
                        clear c50
                        replace H := Option.bind_eq_some_iff.mp H
                        obtain ⟨t271, A510, H⟩ := H
                        replace H : ((impl_FreeDays.f kj31 t271 a1 a2 a3).bind fun bt274 => ((laws_eqIntSS.f kj31 bt274.1 t250).bind fun t278 => (if t278 = true then (laws_FnExactFreeDays.j2 kj31 tM_ t269 (bt274.2 != t251)) else (laws_FnExactFreeDays.j2 kj31 tM_ t269 true)))) = some r := H
                        have A51 := Aside0.mk A510
                        clear A510
                        replace H := Option.bind_eq_some_iff.mp H
                        obtain ⟨⟨t274, t275⟩, A520, H⟩ := H
                        replace H : ((laws_eqIntSS.f kj31 t274 t250).bind fun t278 => (if t278 = true then (laws_FnExactFreeDays.j2 kj31 tM_ t269 (t275 != t251)) else (laws_FnExactFreeDays.j2 kj31 tM_ t269 true))) = some r := H
                        have A52 := Aside0.mk A520
                        clear A520
                        have HC53 := Aside0.mk H
                        clear H
                        obtain ⟨Ao54, co54, eo54⟩ := Kd.S_slice HO_13.out
                        subst eo54
                        go_upto_region 27 with (first | ((with_reducible refine gate_callee (f := 40) rfl ?_); refine goesL_ (some 79) rfl rfl Tryd.func40 (by kernel_rfl) rfl #[.slice Ao54 t257.length co54, .int .i64 1] rfl argsB ?_; (with_reducible refine (laws_markIntSS.calls kj31 (fun k_ => N_ ≤ k_) (.slice Ao54 t257.length co54) t257 1 t269 tM_ w _ ?side1 ?side2 A45.out).mono ?_); (case side1 => repeat (first | (with_reducible first | exact HB.out | apply below_alloc | apply pw_below_drewN | apply below_drew1) | exact HB.out)); (case side2 => exact (by (with_reducible repeat (first | apply Kd.S_alloc | apply Kd.S_drewN | apply Kd.S_drew)); exact HO_13.out)); rintro e w55 ⟨rfl, hy0, hb, hkp, hl_⟩; refine ⟨_, rfl, ?_⟩; have n0_ : Aside0 (Kd.S (Kd.slice 3 (Kd.int .i64)) 68 w55 w.heap.size (fun k_ => k_ < N_) v252 t250) := ⟨Kd.S_step (by (with_reducible repeat (first | apply Kd.S_alloc | apply Kd.S_drewN | apply Kd.S_drew)); exact HO_10.out) (fun k_ hk_ hlt_ => hkp.2 k_ hlt_ (fun h_ => by have h2_ : k_ < N_ := hk_; have h3_ : N_ ≤ k_ := h_; omega))⟩; have n1_ := Aside0.mk hy0; have n2_ := Aside0.mk hb; have HlM_ := Aside0.mk hl_.symm; clear HO_10; clear HO_13; clear HB; have HO_10 := n0_; have HO_13 := n1_; have HB := n2_; clear n0_ n1_ n2_ hl_ hkp hy0 hb) | ((with_reducible refine gate_callee (f := 41) rfl ?_); refine goesL_ (some 82) rfl rfl Tryd.func41 (by kernel_rfl) rfl #[.slice Ao54 t257.length co54, .int .i64 1] rfl argsB ?_; (with_reducible refine (laws_heldIntSS.calls_n kj31 _ _ t257.length tM_ 1 t270 _ HlM_.out ?side1 ?side2 A46.out).mono ?_); (case side1 => repeat (first | exact (Kd.S_reads' HO_13.out).2.2 | (with_reducible refine Kd.C_alloc ?_ _) | (with_reducible refine Kd.C_drewN ?_ _) | (with_reducible refine Kd.C_drew ?_))); (case side2 => exact (Kd.S_reads' HO_13.out).2.1); rintro e w' ⟨rfl, ⟨nd, rfl⟩⟩; refine ⟨_, rfl, ?_⟩) | ((with_reducible refine gate_callee (f := 20) rfl ?_); refine goesL_ (some 90) rfl rfl Tryd.func20 (by kernel_rfl) rfl #[.slice A0 l0.length c0] rfl argsB ?_; (with_reducible refine (laws_toPermitS.calls kj31 _ _ l0 t271 _ ?side1 ?side2 A51.out).mono ?_); (case side1 => repeat (first | exact (Kd.C_below HR0.out (upB HB.out)) | (with_reducible refine Kd.C_alloc ?_ _) | (with_reducible refine Kd.C_drewN ?_ _) | (with_reducible refine Kd.C_drew ?_))); (case side2 => exact HC0.out); rintro e w56 ⟨v272, rfl, ho0, hb⟩; refine ⟨_, rfl, ?_⟩; have n0_ := Aside0.mk (Kd.S_below (by (with_reducible repeat (first | apply Kd.S_alloc | apply Kd.S_drewN | apply Kd.S_drew)); exact HO_10.out) hb); have n1_ := Aside0.mk (Kd.S_below (by (with_reducible repeat (first | apply Kd.S_alloc | apply Kd.S_drewN | apply Kd.S_drew)); exact HO_13.out) hb); have n2_ := Aside0.mk (Kd.R_lower ho0 (below_size (upB HB.out))); have n3_ := Aside0.mk (below_step (upB HB.out) hb); clear HO_10; clear HO_13; clear HB; have HO_10 := n0_; have HO_13 := n1_; have HO273 := n2_; have HB := n3_; clear n0_ n1_ n2_ n3_; (try clear hb); (try clear hk); (try clear ho0); obtain ⟨Ao57, co57, eo57⟩ := Kd.R_slice HO273.out; subst eo57) | ((with_reducible refine gate_callee (f := 38) rfl ?_); refine goesL_ (some 94) rfl rfl Tryd.func38 (by kernel_rfl) rfl #[.slice Ao57 t271.length co57, .string a1, .int .i64 a2, .int .i64 a3] rfl argsB ?_; (with_reducible refine (impl_FreeDays.calls kj31 _ _ t271 a1 a2 a3 t274 t275 _ ?side1 ?side2 A52.out).mono ?_); (case side1 => repeat (first | exact (Kd.R_reads' HO273.out).2.2 | (with_reducible refine Kd.C_alloc ?_ _) | (with_reducible refine Kd.C_drewN ?_ _) | (with_reducible refine Kd.C_drew ?_))); (case side2 => exact (Kd.R_reads' HO273.out).2.1); rintro e w58 ⟨v276, rfl, ho0, hb⟩; refine ⟨_, rfl, ?_⟩; have n0_ := Aside0.mk (Kd.S_elder' (by (with_reducible repeat (first | apply Kd.S_alloc | apply Kd.S_drewN | apply Kd.S_drew)); exact HO_10.out) (Kd.S_base ho0) hb); have n1_ := Aside0.mk (Kd.S_elder' (by (with_reducible repeat (first | apply Kd.S_alloc | apply Kd.S_drewN | apply Kd.S_drew)); exact HO_13.out) (Kd.S_base ho0) hb); have n2_ := Aside0.mk (Kd.R_below (upR HO273.out) hb); have n3_ := Aside0.mk (Kd.S_lower (Kd.S_new' (Kd.S_new' ho0 (Kd.S_lt (by (with_reducible repeat (first | apply Kd.S_alloc | apply Kd.S_drewN | apply Kd.S_drew)); exact HO_10.out))) (Kd.S_lt (by (with_reducible repeat (first | apply Kd.S_alloc | apply Kd.S_drewN | apply Kd.S_drew)); exact HO_13.out))) (below_size (upB HB.out))); have n4_ := Aside0.mk (below_step (upB HB.out) hb); clear HO_10; clear HO_13; clear HO273; clear HB; have HO_10 := n0_; have HO_13 := n1_; have HO273 := n2_; have HO277 := n3_; have HB := n4_; clear n0_ n1_ n2_ n3_ n4_; (try clear hb); (try clear hk); (try clear ho0)))
                        (try simp only [Act.put, List.setIfInBounds_toArray, List.set_cons_zero, List.set_cons_succ])
                        go_cut [105] (fun v105 wc => ∃ (kq : Nat) (x105_52 : Bool), v105 = .bool x105_52 ∧ Aside0 (laws_FnExactFreeDays.j2 kq tM_ t269 x105_52 = some r) ∧ Aside0 (kq ≤ kj31) ∧ Aside0 (Kd.S (Kd.slice 3 (Kd.int .i64)) 68 wc w.heap.size (fun _ => True) (.slice Ao54 t257.length co54) tM_) ∧ Aside0 (Below w.heap.size w wc))
                        case first =>
                          have H := HC53.out
                          clear HC53
                          replace H := Option.bind_eq_some_iff.mp H
                          obtain ⟨t278, A590, H⟩ := H
                          replace H : (if t278 = true then (laws_FnExactFreeDays.j2 kj31 tM_ t269 (t275 != t251)) else (laws_FnExactFreeDays.j2 kj31 tM_ t269 true)) = some r := H
                          have A59 := Aside0.mk A590
                          clear A590
                          by_cases c60 : t278 = true
                          · subst c60
                            have H1 : (laws_FnExactFreeDays.j2 kj31 tM_ t269 (t275 != t251)) = some r := by rw [if_pos rfl] at H; exact H
                            clear H
                            have H := H1
                            clear H1
                            have H' := Aside0.mk H
                            clear H
                            obtain ⟨Ao61, co61, eo61⟩ := Kd.S_slice HO277.out
                            subst eo61
                            obtain ⟨Ao62, co62, eo62⟩ := Kd.S_slice HO_10.out
                            subst eo62
                            go_wp2_with (first | ((with_reducible refine gate_callee (f := 39) rfl ?_); refine goesL_ (some 99) rfl rfl Tryd.func39 (by kernel_rfl) rfl #[.slice Ao61 t274.length co61, .slice Ao62 t250.length co62] rfl argsB ?_; (with_reducible refine (laws_eqIntSS.calls kj31 _ _ t274 _ _ t250 true _ ?side1 ?side2 ?side3 ?side4 A59.out).mono ?_); (case side1 => repeat (first | exact (Kd.S_reads' HO277.out).2.2 | (with_reducible refine Kd.C_alloc ?_ _) | (with_reducible refine Kd.C_drewN ?_ _) | (with_reducible refine Kd.C_drew ?_))); (case side2 => exact (Kd.S_reads' HO277.out).2.1); (case side3 => repeat (first | exact (Kd.S_reads' HO_10.out).2.2 | (with_reducible refine Kd.C_alloc ?_ _) | (with_reducible refine Kd.C_drewN ?_ _) | (with_reducible refine Kd.C_drew ?_))); (case side4 => exact (Kd.S_reads' HO_10.out).2.1); rintro e w' ⟨rfl, ⟨nd, rfl⟩⟩; refine ⟨_, rfl, ?_⟩))
                            go_meet
                            case rel => exact ⟨_, ((t275 != t251)), (by first | rfl | (simp; done) | (simp [*]; done)), H', ⟨by have := HJ12.out; have := HJ31.out; first | omega | exact Nat.le_refl _⟩, ⟨by (with_reducible repeat (first | apply Kd.S_alloc | apply Kd.S_drewN | apply Kd.S_drew)); exact Kd.S_mono HO_13.out (fun _ hk => trivial)⟩, ⟨(upB HB.out)⟩⟩
                          · replace c60 := Bool.eq_false_iff.mpr c60
                            subst c60
                            have H1 : (laws_FnExactFreeDays.j2 kj31 tM_ t269 true) = some r := by rw [if_neg (show ¬ (false = true) by decide)] at H; exact H
                            clear H
                            have H := H1
                            clear H1
                            have H' := Aside0.mk H
                            clear H
                            obtain ⟨Ao63, co63, eo63⟩ := Kd.S_slice HO277.out
                            subst eo63
                            obtain ⟨Ao64, co64, eo64⟩ := Kd.S_slice HO_10.out
                            subst eo64
                            go_wp2_with (first | ((with_reducible refine gate_callee (f := 39) rfl ?_); refine goesL_ (some 99) rfl rfl Tryd.func39 (by kernel_rfl) rfl #[.slice Ao63 t274.length co63, .slice Ao64 t250.length co64] rfl argsB ?_; (with_reducible refine (laws_eqIntSS.calls kj31 _ _ t274 _ _ t250 false _ ?side1 ?side2 ?side3 ?side4 A59.out).mono ?_); (case side1 => repeat (first | exact (Kd.S_reads' HO277.out).2.2 | (with_reducible refine Kd.C_alloc ?_ _) | (with_reducible refine Kd.C_drewN ?_ _) | (with_reducible refine Kd.C_drew ?_))); (case side2 => exact (Kd.S_reads' HO277.out).2.1); (case side3 => repeat (first | exact (Kd.S_reads' HO_10.out).2.2 | (with_reducible refine Kd.C_alloc ?_ _) | (with_reducible refine Kd.C_drewN ?_ _) | (with_reducible refine Kd.C_drew ?_))); (case side4 => exact (Kd.S_reads' HO_10.out).2.1); rintro e w' ⟨rfl, ⟨nd, rfl⟩⟩; refine ⟨_, rfl, ?_⟩))
                            go_meet
                            case rel => exact ⟨_, (true), (by first | rfl | (simp; done) | (simp [*]; done)), H', ⟨by have := HJ12.out; have := HJ31.out; first | omega | exact Nat.le_refl _⟩, ⟨by (with_reducible repeat (first | apply Kd.S_alloc | apply Kd.S_drewN | apply Kd.S_drew)); exact Kd.S_mono HO_13.out (fun _ hk => trivial)⟩, ⟨(upB HB.out)⟩⟩
                        case rest =>
                          clear HC53
                          try clear c5
                          try clear c5b0
                          try clear c5b1
                          try clear c7
                          try clear c7b0
                          try clear c22
                          try clear c27
                          try clear c30
                          try clear c37
                          try clear c37b0
                          try clear c39
                          try clear c44
                          try clear c47
                          try clear c47b0
                          try clear c50
                          try clear c50b0
                          try clear c50b1
                          try clear c60
                          obtain ⟨kq, x105_52, rfl, HA, HJ52, HO_13, HB⟩ := hcut
                          cases kq with
                          | zero => exact absurd HA.out (by simp [laws_FnExactFreeDays.j2])
                          | succ kj52 =>
                            have H := HA.out
                            clear HA
                            simp only [laws_FnExactFreeDays.j2] at H
                            by_cases c65 : x105_52 = true
                            · subst c65
                              have H1 : (some false) = some r := by rw [if_pos rfl] at H; exact H
                              clear H
                              have H := H1
                              clear H1
                              exact absurd (Option.some.inj H) (by rw [hT]; decide)
                            · replace c65 := Bool.eq_false_iff.mpr c65
                              subst c65
                              have H1 : ((laws_heldIntSS.f kj52 tM_ 1).bind fun t279 => (if t279 < 0 then (some false) else (if t279 = t269 then (some true) else (some false)))) = some r := by rw [if_neg (show ¬ (false = true) by decide)] at H; exact H
                              clear H
                              have H := H1
                              clear H1
                              replace H := Option.bind_eq_some_iff.mp H
                              obtain ⟨t279, A660, H⟩ := H
                              replace H : (if t279 < 0 then (some false) else (if t279 = t269 then (some true) else (some false))) = some r := H
                              have A66 := Aside0.mk A660
                              clear A660
                              by_cases c67 : t279 < 0
                              · rw [if_pos c67] at H
                                have c67b0 : decide (t279 < 0) = true := decide_eq_true c67
                                clear c67
                                exact absurd (Option.some.inj H) (by rw [hT]; decide)
                              · rw [if_neg c67] at H
                                have c67b0 : decide (t279 < 0) = false := decide_eq_false c67
                                clear c67
                                by_cases c68 : t279 = t269
                                · rw [if_pos c68] at H
                                  have c68b0 : (t279 == t269) = true := beq_iff_eq.mpr c68
                                  have c68b1 : (t279 != t269) = false := bne_eq_false_iff_eq.mpr c68
                                  clear c68
                                  obtain rfl := (Option.some.inj H)
                                  go_wp2_with (first | ((with_reducible refine gate_callee (f := 41) rfl ?_); refine goesL_ (some 108) rfl rfl Tryd.func41 (by kernel_rfl) rfl #[.slice Ao54 t257.length co54, .int .i64 1] rfl argsB ?_; (with_reducible refine (laws_heldIntSS.calls_n kj52 _ _ t257.length tM_ 1 t279 _ HlM_.out ?side1 ?side2 A66.out).mono ?_); (case side1 => repeat (first | exact (Kd.S_reads' HO_13.out).2.2 | (with_reducible refine Kd.C_alloc ?_ _) | (with_reducible refine Kd.C_drewN ?_ _) | (with_reducible refine Kd.C_drew ?_))); (case side2 => exact (Kd.S_reads' HO_13.out).2.1); rintro e w' ⟨rfl, ⟨nd, rfl⟩⟩; refine ⟨_, rfl, ?_⟩))
                                  go_ret
                                  exact ⟨by first | rfl | (simp [errW_none, errW_some] <;> rfl) | (simp [*, errW_none, errW_some] <;> rfl), (upB HB.out)⟩
                                · rw [if_neg c68] at H
                                  have c68b0 : (t279 == t269) = false := beq_eq_false_iff_ne.mpr c68
                                  have c68b1 : (t279 != t269) = true := bne_iff_ne.mpr c68
                                  exact absurd (Option.some.inj H) (by rw [hT]; decide)
                      · rw [if_neg c50] at H
                        have c50b0 : (t270 == t269) = false := beq_eq_false_iff_ne.mpr c50
                        have c50b1 : (t270 != t269) = true := bne_iff_ne.mpr c50
                        exact absurd (Option.some.inj H) (by rw [hT]; decide)
            · replace c30 := Bool.eq_false_iff.mpr c30
              subst c30
              have H1 : (some false) = some r := by rw [if_neg (show ¬ (false = true) by decide)] at H; exact H
              clear H
              have H := H1
              clear H1
              exact absurd (Option.some.inj H) (by rw [hT]; decide)

end Go.Proofs.YtgeioccfjgpijaaDoor.QFnExactFreeDays
