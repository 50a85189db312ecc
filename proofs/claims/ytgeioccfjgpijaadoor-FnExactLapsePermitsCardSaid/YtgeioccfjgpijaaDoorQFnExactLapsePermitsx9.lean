/- Contracts of Go functions that FnExactLapsePermits reaches: the call computes what the plain function says. No condition. -/
import Derived.Test.YtgeioccfjgpijaaDoorQFnExactLapsePermitsx0
import Derived.Test.YtgeioccfjgpijaaDoorQFnExactLapsePermitsx1
import Derived.Test.YtgeioccfjgpijaaDoorQFnExactLapsePermitsx2
import Derived.Test.YtgeioccfjgpijaaDoorQFnExactLapsePermitsx3
import Derived.Test.YtgeioccfjgpijaaDoorQFnExactLapsePermitsx6
import Derived.Test.YtgeioccfjgpijaaDoorQFnExactLapsePermitsx8
namespace Go.Proofs.YtgeioccfjgpijaaDoor.QFnExactLapsePermits
open Go.RowKit Go.Proofs.YtgeioccfjgpijaaDoorW.PrintWords Go.Proofs.YtgeioccfjgpijaaDoorW.PrintLast Go.Proofs.YtgeioccfjgpijaaDoorW.PrintMore
attribute [local go_sem] max2_int min2_int max_two min_two max_three min_three max_four min_four   -- for this text's walks alone
set_option linter.unusedVariables false
set_option linter.unusedSimpArgs false

/-! ### laws_FnExactLapsePermits: function 8 -/
mutual
def laws_FnExactLapsePermits.j0 : Nat → List (S23) → Int → List (S26) → Int → Bool → List (S26) → List (S26) → Int → Bool → Bool → Option (Bool)
  | 0, _, _, _, _, _, _, _, _, _, _ => none
  | k + 1, x0, x1, x6, x7, x8, x9, x10, x11, x12, x54 => if x54 = true then (some false) else ((laws_toPermitS.f k x0).bind fun t242 => ((laws_eqPermitS.f k x9 t242).bind fun t245 => (if t245 = true then ((laws_markPermitS.f k x9 1).bind fun bt246 => (if bt246.1 < 0 then (laws_FnExactLapsePermits.j1 k x0 x1 x6 x7 x8 x10 true) else ((laws_eqPermitS.f k x10 x6).bind fun t248 => (if t248 = true then (if x11 = x7 then (laws_FnExactLapsePermits.j1 k x0 x1 x6 x7 x8 x10 (x12 != x8)) else (laws_FnExactLapsePermits.j1 k x0 x1 x6 x7 x8 x10 true)) else (laws_FnExactLapsePermits.j1 k x0 x1 x6 x7 x8 x10 true))))) else (some false))))
def laws_FnExactLapsePermits.j1 : Nat → List (S23) → Int → List (S26) → Int → Bool → List (S26) → Bool → Option (Bool)
  | 0, _, _, _, _, _, _, _ => none
  | k + 1, x0, x1, x6, x7, x8, x10, x80 => if x80 = true then (some false) else ((laws_markPermitS.f k x10 1).bind fun bt249 => ((laws_heldPermitS.f k bt249.2 1).bind fun t251 => (if t251 < 0 then (some false) else (if t251 = bt249.1 then ((laws_toPermitS.f k x0).bind fun t252 => ((impl_LapsePermits.f k t252 x1).bind fun bt255 => ((laws_eqPermitS.f k bt255.1 x6).bind fun t260 => (if t260 = true then (if bt255.2.1 = x7 then (laws_FnExactLapsePermits.j2 k bt249.2 bt249.1 (bt255.2.2 != x8)) else (laws_FnExactLapsePermits.j2 k bt249.2 bt249.1 true)) else (laws_FnExactLapsePermits.j2 k bt249.2 bt249.1 true))))) else (some false)))))
def laws_FnExactLapsePermits.j2 : Nat → List (S26) → Int → Bool → Option (Bool)
  | 0, _, _, _ => none
  | k + 1, x10, x14, x113 => if x113 = true then (some false) else ((laws_heldPermitS.f k x10 1).bind fun t261 => (if t261 < 0 then (some false) else (if t261 = x14 then (some true) else (some false))))
end
def laws_FnExactLapsePermits.f (k : Nat) (l0 : List (S23)) (a1 : Int) : Option (Bool) := (laws_szPermitS.f k l0 1048576).bind fun t224 => (if t224 < 0 then (some true) else ((laws_toPermitS.f k l0).bind fun t225 => ((spec_LapsePermits.f k t225 a1).bind fun bt228 => ((laws_toPermitS.f k l0).bind fun t233 => ((impl_LapsePermits.f k t233 a1).bind fun bt236 => ((laws_eqPermitS.f k bt236.1 bt228.1).bind fun t241 => (if t241 = true then (if bt236.2.1 = bt228.2.1 then (laws_FnExactLapsePermits.j0 k l0 a1 bt228.1 bt228.2.1 bt228.2.2 t233 bt236.1 bt236.2.1 bt236.2.2 (bt236.2.2 != bt228.2.2)) else (laws_FnExactLapsePermits.j0 k l0 a1 bt228.1 bt228.2.1 bt228.2.2 t233 bt236.1 bt236.2.1 bt236.2.2 true)) else (laws_FnExactLapsePermits.j0 k l0 a1 bt228.1 bt228.2.1 bt228.2.2 t233 bt236.1 bt236.2.1 bt236.2.2 true))))))))
theorem laws_FnExactLapsePermits.mono_l : ∀ k, (∀ y0 y1 y2 y3 y4 y5 y6 y7 y8 y9, LeO (laws_FnExactLapsePermits.j0 k y0 y1 y2 y3 y4 y5 y6 y7 y8 y9) (laws_FnExactLapsePermits.j0 (k + 1) y0 y1 y2 y3 y4 y5 y6 y7 y8 y9)) ∧ (∀ y0 y1 y2 y3 y4 y5 y6, LeO (laws_FnExactLapsePermits.j1 k y0 y1 y2 y3 y4 y5 y6) (laws_FnExactLapsePermits.j1 (k + 1) y0 y1 y2 y3 y4 y5 y6)) ∧ (∀ y0 y1 y2, LeO (laws_FnExactLapsePermits.j2 k y0 y1 y2) (laws_FnExactLapsePermits.j2 (k + 1) y0 y1 y2))
  | 0 => ⟨fun _ _ _ _ _ _ _ _ _ _ r h => by simp [laws_FnExactLapsePermits.j0] at h, fun _ _ _ _ _ _ _ r h => by simp [laws_FnExactLapsePermits.j1] at h, fun _ _ _ r h => by simp [laws_FnExactLapsePermits.j2] at h⟩
  | k + 1 => by
    obtain ⟨ih0, ih1, ih2⟩ := laws_FnExactLapsePermits.mono_l k
    refine ⟨?_, ?_, ?_⟩
    · intro y0 y1 y2 y3 y4 y5 y6 y7 y8 y9
      unfold laws_FnExactLapsePermits.j0
      repeat' first
      | (with_reducible exact ih0 _ _ _ _ _ _ _ _ _ _)
      | (with_reducible exact ih1 _ _ _ _ _ _ _)
      | (with_reducible exact ih2 _ _ _)
      | (with_reducible exact impl_LapsePermits.mono _ _ _)
      | (with_reducible exact laws_eqPermitS.mono _ _ _)
      | (with_reducible exact laws_heldPermitS.mono _ _ _)
      | (with_reducible exact laws_markPermitS.mono _ _ _)
      | (with_reducible exact laws_szPermitS.mono _ _ _)
      | (with_reducible exact laws_toPermitS.mono _ _)
      | (with_reducible exact spec_LapsePermits.mono _ _ _)
      | (with_reducible exact LeO.refl _)
      | (with_reducible exact LeO.none _)
      | (with_reducible refine LeO.ite ?_ ?_)
      | (with_reducible refine LeO.bind ?_ (fun _ => ?_))
      | exact ih0 _ _ _ _ _ _ _ _ _ _
      | exact ih1 _ _ _ _ _ _ _
      | exact ih2 _ _ _
      | exact impl_LapsePermits.mono _ _ _
      | exact laws_eqPermitS.mono _ _ _
      | exact laws_heldPermitS.mono _ _ _
      | exact laws_markPermitS.mono _ _ _
      | exact laws_szPermitS.mono _ _ _
      | exact laws_toPermitS.mono _ _
      | exact spec_LapsePermits.mono _ _ _
      | exact LeO.none _
      | refine LeO.ite ?_ ?_
      | refine LeO.bind ?_ (fun _ => ?_)
    · intro y0 y1 y2 y3 y4 y5 y6
      unfold laws_FnExactLapsePermits.j1
      repeat' first
      | (with_reducible exact ih0 _ _ _ _ _ _ _ _ _ _)
      | (with_reducible exact ih1 _ _ _ _ _ _ _)
      | (with_reducible exact ih2 _ _ _)
      | (with_reducible exact impl_LapsePermits.mono _ _ _)
      | (with_reducible exact laws_eqPermitS.mono _ _ _)
      | (with_reducible exact laws_heldPermitS.mono _ _ _)
      | (with_reducible exact laws_markPermitS.mono _ _ _)
      | (with_reducible exact laws_szPermitS.mono _ _ _)
      | (with_reducible exact laws_toPermitS.mono _ _)
      | (with_reducible exact spec_LapsePermits.mono _ _ _)
      | (with_reducible exact LeO.refl _)
      | (with_reducible exact LeO.none _)
      | (with_reducible refine LeO.ite ?_ ?_)
      | (with_reducible refine LeO.bind ?_ (fun _ => ?_))
      | exact ih0 _ _ _ _ _ _ _ _ _ _
      | exact ih1 _ _ _ _ _ _ _
      | exact ih2 _ _ _
      | exact impl_LapsePermits.mono _ _ _
      | exact laws_eqPermitS.mono _ _ _
      | exact laws_heldPermitS.mono _ _ _
      | exact laws_markPermitS.mono _ _ _
      | exact laws_szPermitS.mono _ _ _
      | exact laws_toPermitS.mono _ _
      | exact spec_LapsePermits.mono _ _ _
      | exact LeO.none _
      | refine LeO.ite ?_ ?_
      | refine LeO.bind ?_ (fun _ => ?_)
    · intro y0 y1 y2
      unfold laws_FnExactLapsePermits.j2
      repeat' first
      | (with_reducible exact ih0 _ _ _ _ _ _ _ _ _ _)
      | (with_reducible exact ih1 _ _ _ _ _ _ _)
      | (with_reducible exact ih2 _ _ _)
      | (with_reducible exact impl_LapsePermits.mono _ _ _)
      | (with_reducible exact laws_eqPermitS.mono _ _ _)
      | (with_reducible exact laws_heldPermitS.mono _ _ _)
      | (with_reducible exact laws_markPermitS.mono _ _ _)
      | (with_reducible exact laws_szPermitS.mono _ _ _)
      | (with_reducible exact laws_toPermitS.mono _ _)
      | (with_reducible exact spec_LapsePermits.mono _ _ _)
      | (with_reducible exact LeO.refl _)
      | (with_reducible exact LeO.none _)
      | (with_reducible refine LeO.ite ?_ ?_)
      | (with_reducible refine LeO.bind ?_ (fun _ => ?_))
      | exact ih0 _ _ _ _ _ _ _ _ _ _
      | exact ih1 _ _ _ _ _ _ _
      | exact ih2 _ _ _
      | exact impl_LapsePermits.mono _ _ _
      | exact laws_eqPermitS.mono _ _ _
      | exact laws_heldPermitS.mono _ _ _
      | exact laws_markPermitS.mono _ _ _
      | exact laws_szPermitS.mono _ _ _
      | exact laws_toPermitS.mono _ _
      | exact spec_LapsePermits.mono _ _ _
      | exact LeO.none _
      | refine LeO.ite ?_ ?_
      | refine LeO.bind ?_ (fun _ => ?_)
theorem laws_FnExactLapsePermits.mono : ∀ a0 a1 k, LeO (laws_FnExactLapsePermits.f k a0 a1) (laws_FnExactLapsePermits.f (k + 1) a0 a1) := by
  intro a0 a1 k
  obtain ⟨ih0, ih1, ih2⟩ := laws_FnExactLapsePermits.mono_l k
  unfold laws_FnExactLapsePermits.f
  repeat' first
      | (with_reducible exact ih0 _ _ _ _ _ _ _ _ _ _)
      | (with_reducible exact ih1 _ _ _ _ _ _ _)
      | (with_reducible exact ih2 _ _ _)
      | (with_reducible exact impl_LapsePermits.mono _ _ _)
      | (with_reducible exact laws_eqPermitS.mono _ _ _)
      | (with_reducible exact laws_heldPermitS.mono _ _ _)
      | (with_reducible exact laws_markPermitS.mono _ _ _)
      | (with_reducible exact laws_szPermitS.mono _ _ _)
      | (with_reducible exact laws_toPermitS.mono _ _)
      | (with_reducible exact spec_LapsePermits.mono _ _ _)
      | (with_reducible exact LeO.refl _)
      | (with_reducible exact LeO.none _)
      | (with_reducible refine LeO.ite ?_ ?_)
      | (with_reducible refine LeO.bind ?_ (fun _ => ?_))
      | exact ih0 _ _ _ _ _ _ _ _ _ _
      | exact ih1 _ _ _ _ _ _ _
      | exact ih2 _ _ _
      | exact impl_LapsePermits.mono _ _ _
      | exact laws_eqPermitS.mono _ _ _
      | exact laws_heldPermitS.mono _ _ _
      | exact laws_markPermitS.mono _ _ _
      | exact laws_szPermitS.mono _ _ _
      | exact laws_toPermitS.mono _ _
      | exact spec_LapsePermits.mono _ _ _
      | exact LeO.none _
      | refine LeO.ite ?_ ?_
      | refine LeO.bind ?_ (fun _ => ?_)
set_option maxHeartbeats 8000000 in
set_option maxRecDepth 100000 in
theorem laws_FnExactLapsePermits.calls (k : Nat) (A0 : Option Addr) (c0 : Nat) (l0 : List (S23)) (a1 : Int) (r : Bool) (w : World) (hr0 : Kd.C k23 w A0 l0.length l0) (hc0 : l0.length ≤ c0) (h : laws_FnExactLapsePermits.f k l0 a1 = some r) (hT : r = true) :
    Calls Tryd.prog 8 #[.slice A0 l0.length c0, .int .i64 a1] w fun e w' => e = .returned (.bool r) ∧ Below w.heap.size w w' := by
  have HR0 := Aside0.mk hr0
  have HC0 := Aside0.mk hc0
  clear hr0 hc0
  have HB := Aside0.mk (Below.refl w.heap.size w)
  have H : ((laws_szPermitS.f k l0 1048576).bind fun t224 => (if t224 < 0 then (some true) else ((laws_toPermitS.f k l0).bind fun t225 => ((spec_LapsePermits.f k t225 a1).bind fun bt228 => ((laws_toPermitS.f k l0).bind fun t233 => ((impl_LapsePermits.f k t233 a1).bind fun bt236 => ((laws_eqPermitS.f k bt236.1 bt228.1).bind fun t241 => (if t241 = true then (if bt236.2.1 = bt228.2.1 then (laws_FnExactLapsePermits.j0 k l0 a1 bt228.1 bt228.2.1 bt228.2.2 t233 bt236.1 bt236.2.1 bt236.2.2 (bt236.2.2 != bt228.2.2)) else (laws_FnExactLapsePermits.j0 k l0 a1 bt228.1 bt228.2.1 bt228.2.2 t233 bt236.1 bt236.2.1 bt236.2.2 true)) else (laws_FnExactLapsePermits.j0 k l0 a1 bt228.1 bt228.2.1 bt228.2.2 t233 bt236.1 bt236.2.1 bt236.2.2 true))))))))) = some r := h
  clear h
  replace H := Option.bind_eq_some_iff.mp H
  obtain ⟨t224, A30, H⟩ := H
  replace H : (if t224 < 0 then (some true) else ((laws_toPermitS.f k l0).bind fun t225 => ((spec_LapsePermits.f k t225 a1).bind fun bt228 => ((laws_toPermitS.f k l0).bind fun t233 => ((impl_LapsePermits.f k t233 a1).bind fun bt236 => ((laws_eqPermitS.f k bt236.1 bt228.1).bind fun t241 => (if t241 = true then (if bt236.2.1 = bt228.2.1 then (laws_FnExactLapsePermits.j0 k l0 a1 bt228.1 bt228.2.1 bt228.2.2 t233 bt236.1 bt236.2.1 bt236.2.2 (bt236.2.2 != bt228.2.2)) else (laws_FnExactLapsePermits.j0 k l0 a1 bt228.1 bt228.2.1 bt228.2.2 t233 bt236.1 bt236.2.1 bt236.2.2 true)) else (laws_FnExactLapsePermits.j0 k l0 a1 bt228.1 bt228.2.1 bt228.2.2 t233 bt236.1 bt236.2.1 bt236.2.2 true)))))))) = some r := H
  have A3 := Aside0.mk A30
  clear A30
  by_cases c4 : t224 < 0
  · rw [if_pos c4] at H
    have c4b0 : decide (t224 < 0) = true := decide_eq_true c4
    clear c4
    obtain rfl := (Option.some.inj H)
    go_enter Tryd.func8, Tryd.ntmps8
    go_wp2_with (first | ((with_reducible refine gate_callee (f := 18) rfl ?_); refine goesL_ (some 21) rfl rfl Tryd.func18 (by kernel_rfl) rfl #[.slice A0 l0.length c0, .int .i64 1048576] rfl argsB ?_; (with_reducible refine (laws_szPermitS.calls k _ _ l0 1048576 t224 _ ?side1 ?side2 A3.out).mono ?_); (case side1 => repeat (first | exact HR0.out | (with_reducible refine Kd.C_alloc ?_ _) | (with_reducible refine Kd.C_drewN ?_ _) | (with_reducible refine Kd.C_drew ?_))); (case side2 => exact HC0.out); rintro e w5 ⟨rfl, hb⟩; refine ⟨_, rfl, ?_⟩; have n0_ := Aside0.mk (below_step (upB HB.out) hb); clear HB; have HB := n0_; clear n0_; (try clear hb); (try clear hk)))
    go_ret
    exact ⟨by first | rfl | (simp [errW_none, errW_some] <;> rfl) | (simp [*, errW_none, errW_some] <;> rfl), (upB HB.out)⟩
  · rw [if_neg c4] at H
    have c4b0 : decide (t224 < 0) = false := decide_eq_false c4
    clear c4
    replace H := Option.bind_eq_some_iff.mp H
    obtain ⟨t225, A60, H⟩ := H
    replace H : ((spec_LapsePermits.f k t225 a1).bind fun bt228 => ((laws_toPermitS.f k l0).bind fun t233 => ((impl_LapsePermits.f k t233 a1).bind fun bt236 => ((laws_eqPermitS.f k bt236.1 bt228.1).bind fun t241 => (if t241 = true then (if bt236.2.1 = bt228.2.1 then (laws_FnExactLapsePermits.j0 k l0 a1 bt228.1 bt228.2.1 bt228.2.2 t233 bt236.1 bt236.2.1 bt236.2.2 (bt236.2.2 != bt228.2.2)) else (laws_FnExactLapsePermits.j0 k l0 a1 bt228.1 bt228.2.1 bt228.2.2 t233 bt236.1 bt236.2.1 bt236.2.2 true)) else (laws_FnExactLapsePermits.j0 k l0 a1 bt228.1 bt228.2.1 bt228.2.2 t233 bt236.1 bt236.2.1 bt236.2.2 true)))))) = some r := H
    have A6 := Aside0.mk A60
    clear A60
    replace H := Option.bind_eq_some_iff.mp H
    obtain ⟨⟨t228, t229, t230⟩, A70, H⟩ := H
    replace H : ((laws_toPermitS.f k l0).bind fun t233 => ((impl_LapsePermits.f k t233 a1).bind fun bt236 => ((laws_eqPermitS.f k bt236.1 t228).bind fun t241 => (if t241 = true then (if bt236.2.1 = t229 then (laws_FnExactLapsePermits.j0 k l0 a1 t228 t229 t230 t233 bt236.1 bt236.2.1 bt236.2.2 (bt236.2.2 != t230)) else (laws_FnExactLapsePermits.j0 k l0 a1 t228 t229 t230 t233 bt236.1 bt236.2.1 bt236.2.2 true)) else (laws_FnExactLapsePermits.j0 k l0 a1 t228 t229 t230 t233 bt236.1 bt236.2.1 bt236.2.2 true))))) = some r := H
    have A7 := Aside0.mk A70
    clear A70
    replace H := Option.bind_eq_some_iff.mp H
    obtain ⟨t233, A80, H⟩ := H
    replace H : ((impl_LapsePermits.f k t233 a1).bind fun bt236 => ((laws_eqPermitS.f k bt236.1 t228).bind fun t241 => (if t241 = true then (if bt236.2.1 = t229 then (laws_FnExactLapsePermits.j0 k l0 a1 t228 t229 t230 t233 bt236.1 bt236.2.1 bt236.2.2 (bt236.2.2 != t230)) else (laws_FnExactLapsePermits.j0 k l0 a1 t228 t229 t230 t233 bt236.1 bt236.2.1 bt236.2.2 true)) else (laws_FnExactLapsePermits.j0 k l0 a1 t228 t229 t230 t233 bt236.1 bt236.2.1 bt236.2.2 true)))) = some r := H
    have A8 := Aside0.mk A80
    clear A80
    replace H := Option.bind_eq_some_iff.mp H
    obtain ⟨⟨t236, t237, t238⟩, A90, H⟩ := H
    replace H : ((laws_eqPermitS.f k t236 t228).bind fun t241 => (if t241 = true then (if t237 = t229 then (laws_FnExactLapsePermits.j0 k l0 a1 t228 t229 t230 t233 t236 t237 t238 (t238 != t230)) else (laws_FnExactLapsePermits.j0 k l0 a1 t228 t229 t230 t233 t236 t237 t238 true)) else (laws_FnExactLapsePermits.j0 k l0 a1 t228 t229 t230 t233 t236 t237 t238 true))) = some r := H
    have A9 := Aside0.mk A90
    clear A90
    have HC10 := Aside0.mk H
    clear H
    go_enter Tryd.func8, Tryd.ntmps8
    go_upto_region 8 with (first | ((with_reducible refine gate_callee (f := 18) rfl ?_); refine goesL_ (some 21) rfl rfl Tryd.func18 (by kernel_rfl) rfl #[.slice A0 l0.length c0, .int .i64 1048576] rfl argsB ?_; (with_reducible refine (laws_szPermitS.calls k _ _ l0 1048576 t224 _ ?side1 ?side2 A3.out).mono ?_); (case side1 => repeat (first | exact HR0.out | (with_reducible refine Kd.C_alloc ?_ _) | (with_reducible refine Kd.C_drewN ?_ _) | (with_reducible refine Kd.C_drew ?_))); (case side2 => exact HC0.out); rintro e w11 ⟨rfl, hb⟩; refine ⟨_, rfl, ?_⟩; have n0_ := Aside0.mk (below_step (upB HB.out) hb); clear HB; have HB := n0_; clear n0_; (try clear hb); (try clear hk)) | ((with_reducible refine gate_callee (f := 20) rfl ?_); refine goesL_ (some 26) rfl rfl Tryd.func20 (by kernel_rfl) rfl #[.slice A0 l0.length c0] rfl argsB ?_; (with_reducible refine (laws_toPermitS.calls k _ _ l0 t225 _ ?side1 ?side2 A6.out).mono ?_); (case side1 => repeat (first | exact (Kd.C_below HR0.out HB.out) | (with_reducible refine Kd.C_alloc ?_ _) | (with_reducible refine Kd.C_drewN ?_ _) | (with_reducible refine Kd.C_drew ?_))); (case side2 => exact HC0.out); rintro e w12 ⟨v226, rfl, ho0, hb⟩; refine ⟨_, rfl, ?_⟩; have n0_ := Aside0.mk (Kd.R_lower ho0 (below_size (upB HB.out))); have n1_ := Aside0.mk (below_step (upB HB.out) hb); clear HB; have HO227 := n0_; have HB := n1_; clear n0_ n1_; (try clear hb); (try clear hk); (try clear ho0); obtain ⟨Ao13, co13, eo13⟩ := Kd.R_slice HO227.out; subst eo13) | ((with_reducible refine gate_callee (f := 31) rfl ?_); refine goesL_ (some 28) rfl rfl Tryd.func31 (by kernel_rfl) rfl #[.slice Ao13 t225.length co13, .int .i64 a1] rfl argsB ?_; (with_reducible refine (spec_LapsePermits.calls k _ _ t225 a1 t228 t229 t230 _ ?side1 ?side2 A7.out).mono ?_); (case side1 => repeat (first | exact (Kd.R_reads' HO227.out).2.2 | (with_reducible refine Kd.C_alloc ?_ _) | (with_reducible refine Kd.C_drewN ?_ _) | (with_reducible refine Kd.C_drew ?_))); (case side2 => exact (Kd.R_reads' HO227.out).2.1); rintro e w14 ⟨v231, rfl, ho0, hb⟩; refine ⟨_, rfl, ?_⟩; have n0_ := Aside0.mk (Kd.R_elder' (upR HO227.out) (Kd.R_base ho0) hb); have n1_ := Aside0.mk (Kd.R_lower (Kd.R_new' ho0 (Kd.R_lt (upR HO227.out))) (below_size (upB HB.out))); have n2_ := Aside0.mk (below_step (upB HB.out) hb); clear HO227; clear HB; have HO227 := n0_; have HO232 := n1_; have HB := n2_; clear n0_ n1_ n2_; (try clear hb); (try clear hk); (try clear ho0)) | ((with_reducible refine gate_callee (f := 20) rfl ?_); refine goesL_ (some 33) rfl rfl Tryd.func20 (by kernel_rfl) rfl #[.slice A0 l0.length c0] rfl argsB ?_; (with_reducible refine (laws_toPermitS.calls k _ _ l0 t233 _ ?side1 ?side2 A8.out).mono ?_); (case side1 => repeat (first | exact (Kd.C_below HR0.out HB.out) | (with_reducible refine Kd.C_alloc ?_ _) | (with_reducible refine Kd.C_drewN ?_ _) | (with_reducible refine Kd.C_drew ?_))); (case side2 => exact HC0.out); rintro e w15 ⟨v234, rfl, ho0, hb⟩; refine ⟨_, rfl, ?_⟩; have n0_ := Aside0.mk (Kd.R_elder' (upR HO227.out) (Kd.R_base ho0) hb); have n1_ := Aside0.mk (Kd.R_elder' (upR HO232.out) (Kd.R_base ho0) hb); have n2_ := Aside0.mk (Kd.R_lower (Kd.R_new' (Kd.R_new' ho0 (Kd.R_lt (upR HO227.out))) (Kd.R_lt (upR HO232.out))) (below_size (upB HB.out))); have n3_ := Aside0.mk (below_step (upB HB.out) hb); clear HO227; clear HO232; clear HB; have HO227 := n0_; have HO232 := n1_; have HO235 := n2_; have HB := n3_; clear n0_ n1_ n2_ n3_; (try clear hb); (try clear hk); (try clear ho0); obtain ⟨Ao16, co16, eo16⟩ := Kd.R_slice HO235.out; subst eo16) | ((with_reducible refine gate_callee (f := 32) rfl ?_); refine goesL_ (some 37) rfl rfl Tryd.func32 (by kernel_rfl) rfl #[.slice Ao16 t233.length co16, .int .i64 a1] rfl argsB ?_; (with_reducible refine (impl_LapsePermits.calls k _ _ t233 a1 t236 t237 t238 _ ?side1 ?side2 A9.out).mono ?_); (case side1 => repeat (first | exact (Kd.R_reads' HO235.out).2.2 | (with_reducible refine Kd.C_alloc ?_ _) | (with_reducible refine Kd.C_drewN ?_ _) | (with_reducible refine Kd.C_drew ?_))); (case side2 => exact (Kd.R_reads' HO235.out).2.1); rintro e w17 ⟨v239, rfl, ho0, hb⟩; refine ⟨_, rfl, ?_⟩; have n0_ := Aside0.mk (Kd.R_elder' (upR HO227.out) (Kd.R_base ho0) hb); have n1_ := Aside0.mk (Kd.R_elder' (upR HO232.out) (Kd.R_base ho0) hb); have n2_ := Aside0.mk (Kd.R_elder' (upR HO235.out) (Kd.R_base ho0) hb); have n3_ := Aside0.mk (Kd.R_lower (Kd.R_new' (Kd.R_new' (Kd.R_new' ho0 (Kd.R_lt (upR HO227.out))) (Kd.R_lt (upR HO232.out))) (Kd.R_lt (upR HO235.out))) (below_size (upB HB.out))); have n4_ := Aside0.mk (below_step (upB HB.out) hb); clear HO227; clear HO232; clear HO235; clear HB; have HO227 := n0_; have HO232 := n1_; have HO235 := n2_; have HO240 := n3_; have HB := n4_; clear n0_ n1_ n2_ n3_ n4_; (try clear hb); (try clear hk); (try clear ho0)))
    (try simp only [Act.put, List.setIfInBounds_toArray, List.set_cons_zero, List.set_cons_succ])
    go_cut [54] (fun v54 wc => ∃ (kq : Nat) (x54_9 : Bool), v54 = .bool x54_9 ∧ Aside0 (laws_FnExactLapsePermits.j0 kq l0 a1 t228 t229 t230 t233 t236 t237 t238 x54_9 = some r) ∧ Aside0 (kq ≤ k) ∧ Aside0 (Kd.R k26 26 wc w.heap.size (fun k_ => some k_ ≠ ((.slice Ao16 t233.length co16) : Value).ownBlock ∧ some k_ ≠ (v239 : Value).ownBlock) v231 t228) ∧ Aside0 (Kd.R k26 26 wc w.heap.size (fun k_ => some k_ ≠ (v231 : Value).ownBlock ∧ some k_ ≠ (v239 : Value).ownBlock) (.slice Ao16 t233.length co16) t233) ∧ Aside0 (Kd.R k26 26 wc w.heap.size (fun k_ => some k_ ≠ (v231 : Value).ownBlock ∧ some k_ ≠ ((.slice Ao16 t233.length co16) : Value).ownBlock) v239 t236) ∧ Aside0 (Below w.heap.size w wc))
    case first =>
      have H := HC10.out
      clear HC10
      replace H := Option.bind_eq_some_iff.mp H
      obtain ⟨t241, A180, H⟩ := H
      replace H : (if t241 = true then (if t237 = t229 then (laws_FnExactLapsePermits.j0 k l0 a1 t228 t229 t230 t233 t236 t237 t238 (t238 != t230)) else (laws_FnExactLapsePermits.j0 k l0 a1 t228 t229 t230 t233 t236 t237 t238 true)) else (laws_FnExactLapsePermits.j0 k l0 a1 t228 t229 t230 t233 t236 t237 t238 true)) = some r := H
      have A18 := Aside0.mk A180
      clear A180
      by_cases c19 : t241 = true
      · subst c19
        have H1 : (if t237 = t229 then (laws_FnExactLapsePermits.j0 k l0 a1 t228 t229 t230 t233 t236 t237 t238 (t238 != t230)) else (laws_FnExactLapsePermits.j0 k l0 a1 t228 t229 t230 t233 t236 t237 t238 true)) = some r := by rw [if_pos rfl] at H; exact H
        clear H
        have H := H1
        clear H1
        by_cases c20 : t237 = t229
        · rw [if_pos c20] at H
          have c20b0 : (t237 == t229) = true := beq_iff_eq.mpr c20
          have c20b1 : (t237 != t229) = false := bne_eq_false_iff_eq.mpr c20
          clear c20
          (first | rw [c20b0] | (simp only [i64_w, i32_w]; rw [c20b0]) | skip)
          have H' := Aside0.mk H
          clear H
          obtain ⟨Ao21, co21, eo21⟩ := Kd.R_slice HO240.out
          subst eo21
          obtain ⟨Ao22, co22, eo22⟩ := Kd.R_slice HO232.out
          subst eo22
          go_wp2_with (first | ((with_reducible refine gate_callee (f := 22) rfl ?_); refine goesL_ (some 43) rfl rfl Tryd.func22 (by kernel_rfl) rfl #[.slice Ao21 t236.length co21, .slice Ao22 t228.length co22] rfl argsB ?_; (with_reducible refine (laws_eqPermitS.calls k _ _ t236 _ _ t228 true _ ?side1 ?side2 ?side3 ?side4 A18.out).mono ?_); (case side1 => repeat (first | exact (Kd.R_reads' HO240.out).2.2 | (with_reducible refine Kd.C_alloc ?_ _) | (with_reducible refine Kd.C_drewN ?_ _) | (with_reducible refine Kd.C_drew ?_))); (case side2 => exact (Kd.R_reads' HO240.out).2.1); (case side3 => repeat (first | exact (Kd.R_reads' HO232.out).2.2 | (with_reducible refine Kd.C_alloc ?_ _) | (with_reducible refine Kd.C_drewN ?_ _) | (with_reducible refine Kd.C_drew ?_))); (case side4 => exact (Kd.R_reads' HO232.out).2.1); rintro e w23 ⟨rfl, hb⟩; refine ⟨_, rfl, ?_⟩; have n0_ := Aside0.mk (Kd.R_below (upR HO227.out) hb); have n1_ := Aside0.mk (Kd.R_below (upR HO232.out) hb); have n2_ := Aside0.mk (Kd.R_below (upR HO235.out) hb); have n3_ := Aside0.mk (Kd.R_below (upR HO240.out) hb); have n4_ := Aside0.mk (below_step (upB HB.out) hb); clear HO227; clear HO232; clear HO235; clear HO240; clear HB; have HO227 := n0_; have HO232 := n1_; have HO235 := n2_; have HO240 := n3_; have HB := n4_; clear n0_ n1_ n2_ n3_ n4_; (try clear hb); (try clear hk)))
          go_meet
          case rel => exact ⟨_, ((t238 != t230)), (by first | rfl | (simp; done) | (simp [*]; done)), H', ⟨by first | omega | exact Nat.le_refl _⟩, ⟨by (with_reducible repeat (first | apply Kd.R_alloc | apply Kd.R_drewN | apply Kd.R_drew)); exact Kd.R_mono HO232.out (fun _ hk => ⟨hk.1.2, hk.2⟩)⟩, ⟨by (with_reducible repeat (first | apply Kd.R_alloc | apply Kd.R_drewN | apply Kd.R_drew)); exact Kd.R_mono HO235.out (fun _ hk => ⟨hk.1.2, hk.2⟩)⟩, ⟨by (with_reducible repeat (first | apply Kd.R_alloc | apply Kd.R_drewN | apply Kd.R_drew)); exact Kd.R_mono HO240.out (fun _ hk => ⟨hk.1.2, hk.2⟩)⟩, ⟨(upB HB.out)⟩⟩
        · rw [if_neg c20] at H
          have c20b0 : (t237 == t229) = false := beq_eq_false_iff_ne.mpr c20
          have c20b1 : (t237 != t229) = true := bne_iff_ne.mpr c20
          (first | rw [c20b0] | (simp only [i64_w, i32_w]; rw [c20b0]) | skip)
          have H' := Aside0.mk H
          clear H
          obtain ⟨Ao24, co24, eo24⟩ := Kd.R_slice HO240.out
          subst eo24
          obtain ⟨Ao25, co25, eo25⟩ := Kd.R_slice HO232.out
          subst eo25
          go_wp2_with (first | ((with_reducible refine gate_callee (f := 22) rfl ?_); refine goesL_ (some 43) rfl rfl Tryd.func22 (by kernel_rfl) rfl #[.slice Ao24 t236.length co24, .slice Ao25 t228.length co25] rfl argsB ?_; (with_reducible refine (laws_eqPermitS.calls k _ _ t236 _ _ t228 true _ ?side1 ?side2 ?side3 ?side4 A18.out).mono ?_); (case side1 => repeat (first | exact (Kd.R_reads' HO240.out).2.2 | (with_reducible refine Kd.C_alloc ?_ _) | (with_reducible refine Kd.C_drewN ?_ _) | (with_reducible refine Kd.C_drew ?_))); (case side2 => exact (Kd.R_reads' HO240.out).2.1); (case side3 => repeat (first | exact (Kd.R_reads' HO232.out).2.2 | (with_reducible refine Kd.C_alloc ?_ _) | (with_reducible refine Kd.C_drewN ?_ _) | (with_reducible refine Kd.C_drew ?_))); (case side4 => exact (Kd.R_reads' HO232.out).2.1); rintro e w26 ⟨rfl, hb⟩; refine ⟨_, rfl, ?_⟩; have n0_ := Aside0.mk (Kd.R_below (upR HO227.out) hb); have n1_ := Aside0.mk (Kd.R_below (upR HO232.out) hb); have n2_ := Aside0.mk (Kd.R_below (upR HO235.out) hb); have n3_ := Aside0.mk (Kd.R_below (upR HO240.out) hb); have n4_ := Aside0.mk (below_step (upB HB.out) hb); clear HO227; clear HO232; clear HO235; clear HO240; clear HB; have HO227 := n0_; have HO232 := n1_; have HO235 := n2_; have HO240 := n3_; have HB := n4_; clear n0_ n1_ n2_ n3_ n4_; (try clear hb); (try clear hk)))
          go_meet
          case rel => exact ⟨_, (true), (by first | rfl | (simp; done) | (simp [*]; done)), H', ⟨by first | omega | exact Nat.le_refl _⟩, ⟨by (with_reducible repeat (first | apply Kd.R_alloc | apply Kd.R_drewN | apply Kd.R_drew)); exact Kd.R_mono HO232.out (fun _ hk => ⟨hk.1.2, hk.2⟩)⟩, ⟨by (with_reducible repeat (first | apply Kd.R_alloc | apply Kd.R_drewN | apply Kd.R_drew)); exact Kd.R_mono HO235.out (fun _ hk => ⟨hk.1.2, hk.2⟩)⟩, ⟨by (with_reducible repeat (first | apply Kd.R_alloc | apply Kd.R_drewN | apply Kd.R_drew)); exact Kd.R_mono HO240.out (fun _ hk => ⟨hk.1.2, hk.2⟩)⟩, ⟨(upB HB.out)⟩⟩
      · replace c19 := Bool.eq_false_iff.mpr c19
        subst c19
        have H1 : (laws_FnExactLapsePermits.j0 k l0 a1 t228 t229 t230 t233 t236 t237 t238 true) = some r := by rw [if_neg (show ¬ (false = true) by decide)] at H; exact H
        clear H
        have H := H1
        clear H1
        have H' := Aside0.mk H
        clear H
        obtain ⟨Ao27, co27, eo27⟩ := Kd.R_slice HO240.out
        subst eo27
        obtain ⟨Ao28, co28, eo28⟩ := Kd.R_slice HO232.out
        subst eo28
        go_wp2_with (first | ((with_reducible refine gate_callee (f := 22) rfl ?_); refine goesL_ (some 43) rfl rfl Tryd.func22 (by kernel_rfl) rfl #[.slice Ao27 t236.length co27, .slice Ao28 t228.length co28] rfl argsB ?_; (with_reducible refine (laws_eqPermitS.calls k _ _ t236 _ _ t228 false _ ?side1 ?side2 ?side3 ?side4 A18.out).mono ?_); (case side1 => repeat (first | exact (Kd.R_reads' HO240.out).2.2 | (with_reducible refine Kd.C_alloc ?_ _) | (with_reducible refine Kd.C_drewN ?_ _) | (with_reducible refine Kd.C_drew ?_))); (case side2 => exact (Kd.R_reads' HO240.out).2.1); (case side3 => repeat (first | exact (Kd.R_reads' HO232.out).2.2 | (with_reducible refine Kd.C_alloc ?_ _) | (with_reducible refine Kd.C_drewN ?_ _) | (with_reducible refine Kd.C_drew ?_))); (case side4 => exact (Kd.R_reads' HO232.out).2.1); rintro e w29 ⟨rfl, hb⟩; refine ⟨_, rfl, ?_⟩; have n0_ := Aside0.mk (Kd.R_below (upR HO227.out) hb); have n1_ := Aside0.mk (Kd.R_below (upR HO232.out) hb); have n2_ := Aside0.mk (Kd.R_below (upR HO235.out) hb); have n3_ := Aside0.mk (Kd.R_below (upR HO240.out) hb); have n4_ := Aside0.mk (below_step (upB HB.out) hb); clear HO227; clear HO232; clear HO235; clear HO240; clear HB; have HO227 := n0_; have HO232 := n1_; have HO235 := n2_; have HO240 := n3_; have HB := n4_; clear n0_ n1_ n2_ n3_ n4_; (try clear hb); (try clear hk)))
        go_meet
        case rel => exact ⟨_, (true), (by first | rfl | (simp; done) | (simp [*]; done)), H', ⟨by first | omega | exact Nat.le_refl _⟩, ⟨by (with_reducible repeat (first | apply Kd.R_alloc | apply Kd.R_drewN | apply Kd.R_drew)); exact Kd.R_mono HO232.out (fun _ hk => ⟨hk.1.2, hk.2⟩)⟩, ⟨by (with_reducible repeat (first | apply Kd.R_alloc | apply Kd.R_drewN | apply Kd.R_drew)); exact Kd.R_mono HO235.out (fun _ hk => ⟨hk.1.2, hk.2⟩)⟩, ⟨by (with_reducible repeat (first | apply Kd.R_alloc | apply Kd.R_drewN | apply Kd.R_drew)); exact Kd.R_mono HO240.out (fun _ hk => ⟨hk.1.2, hk.2⟩)⟩, ⟨(upB HB.out)⟩⟩
    case rest =>
      clear HC10
      try clear c4
      try clear c4b0
      try clear c19
      try clear c20
      try clear c20b0
      try clear c20b1
      obtain ⟨kq, x54_9, rfl, HA, HJ9, HO_6, HO_9, HO_10, HB⟩ := hcut
      cases kq with
      | zero => exact absurd HA.out (by simp [laws_FnExactLapsePermits.j0])
      | succ kj9 =>
        have H := HA.out
        clear HA
        simp only [laws_FnExactLapsePermits.j0] at H
        by_cases c30 : x54_9 = true
        · subst c30
          have H1 : (some false) = some r := by rw [if_pos rfl] at H; exact H
          clear H
          have H := H1
          clear H1
          exact absurd (Option.some.inj H) (by rw [hT]; decide)
        · replace c30 := Bool.eq_false_iff.mpr c30
          subst c30
          have H1 : ((laws_toPermitS.f kj9 l0).bind fun t242 => ((laws_eqPermitS.f kj9 t233 t242).bind fun t245 => (if t245 = true then ((laws_markPermitS.f kj9 t233 1).bind fun bt246 => (if bt246.1 < 0 then (laws_FnExactLapsePermits.j1 kj9 l0 a1 t228 t229 t230 t236 true) else ((laws_eqPermitS.f kj9 t236 t228).bind fun t248 => (if t248 = true then (if t237 = t229 then (laws_FnExactLapsePermits.j1 kj9 l0 a1 t228 t229 t230 t236 (t238 != t230)) else (laws_FnExactLapsePermits.j1 kj9 l0 a1 t228 t229 t230 t236 true)) else (laws_FnExactLapsePermits.j1 kj9 l0 a1 t228 t229 t230 t236 true))))) else (some false)))) = some r := by rw [if_neg (show ¬ (false = true) by decide)] at H; exact H
          clear H
          have H := H1
          clear H1
          replace H := Option.bind_eq_some_iff.mp H
          obtain ⟨t242, A310, H⟩ := H
          replace H : ((laws_eqPermitS.f kj9 t233 t242).bind fun t245 => (if t245 = true then ((laws_markPermitS.f kj9 t233 1).bind fun bt246 => (if bt246.1 < 0 then (laws_FnExactLapsePermits.j1 kj9 l0 a1 t228 t229 t230 t236 true) else ((laws_eqPermitS.f kj9 t236 t228).bind fun t248 => (if t248 = true then (if t237 = t229 then (laws_FnExactLapsePermits.j1 kj9 l0 a1 t228 t229 t230 t236 (t238 != t230)) else (laws_FnExactLapsePermits.j1 kj9 l0 a1 t228 t229 t230 t236 true)) else (laws_FnExactLapsePermits.j1 kj9 l0 a1 t228 t229 t230 t236 true))))) else (some false))) = some r := H
          have A31 := Aside0.mk A310
          clear A310
          replace H := Option.bind_eq_some_iff.mp H
          obtain ⟨t245, A320, H⟩ := H
          replace H : (if t245 = true then ((laws_markPermitS.f kj9 t233 1).bind fun bt246 => (if bt246.1 < 0 then (laws_FnExactLapsePermits.j1 kj9 l0 a1 t228 t229 t230 t236 true) else ((laws_eqPermitS.f kj9 t236 t228).bind fun t248 => (if t248 = true then (if t237 = t229 then (laws_FnExactLapsePermits.j1 kj9 l0 a1 t228 t229 t230 t236 (t238 != t230)) else (laws_FnExactLapsePermits.j1 kj9 l0 a1 t228 t229 t230 t236 true)) else (laws_FnExactLapsePermits.j1 kj9 l0 a1 t228 t229 t230 t236 true))))) else (some false)) = some r := H
          have A32 := Aside0.mk A320
          clear A320
          by_cases c33 : t245 = true
          · subst c33
            have H1 : ((laws_markPermitS.f kj9 t233 1).bind fun bt246 => (if bt246.1 < 0 then (laws_FnExactLapsePermits.j1 kj9 l0 a1 t228 t229 t230 t236 true) else ((laws_eqPermitS.f kj9 t236 t228).bind fun t248 => (if t248 = true then (if t237 = t229 then (laws_FnExactLapsePermits.j1 kj9 l0 a1 t228 t229 t230 t236 (t238 != t230)) else (laws_FnExactLapsePermits.j1 kj9 l0 a1 t228 t229 t230 t236 true)) else (laws_FnExactLapsePermits.j1 kj9 l0 a1 t228 t229 t230 t236 true))))) = some r := by rw [if_pos rfl] at H; exact H
            clear H
            have H := H1
            clear H1
            replace H := Option.bind_eq_some_iff.mp H
            obtain ⟨⟨t246, t247⟩, A340, H⟩ := H
            replace H : (if t246 < 0 then (laws_FnExactLapsePermits.j1 kj9 l0 a1 t228 t229 t230 t236 true) else ((laws_eqPermitS.f kj9 t236 t228).bind fun t248 => (if t248 = true then (if t237 = t229 then (laws_FnExactLapsePermits.j1 kj9 l0 a1 t228 t229 t230 t236 (t238 != t230)) else (laws_FnExactLapsePermits.j1 kj9 l0 a1 t228 t229 t230 t236 true)) else (laws_FnExactLapsePermits.j1 kj9 l0 a1 t228 t229 t230 t236 true)))) = some r := H
            have A34 := Aside0.mk A340
            clear A340
            have HC35 := Aside0.mk H
            clear H
            go_upto_region 14 with (first | ((with_reducible refine gate_callee (f := 20) rfl ?_); refine goesL_ (some 57) rfl rfl Tryd.func20 (by kernel_rfl) rfl #[.slice A0 l0.length c0] rfl argsB ?_; (with_reducible refine (laws_toPermitS.calls kj9 _ _ l0 t242 _ ?side1 ?side2 A31.out).mono ?_); (case side1 => repeat (first | exact (Kd.C_below HR0.out HB.out) | (with_reducible refine Kd.C_alloc ?_ _) | (with_reducible refine Kd.C_drewN ?_ _) | (with_reducible refine Kd.C_drew ?_))); (case side2 => exact HC0.out); rintro e w36 ⟨v243, rfl, ho0, hb⟩; refine ⟨_, rfl, ?_⟩; have n0_ := Aside0.mk (Kd.R_elder' (upR HO_6.out) (Kd.R_base ho0) hb); have n1_ := Aside0.mk (Kd.R_elder' (upR HO_9.out) (Kd.R_base ho0) hb); have n2_ := Aside0.mk (Kd.R_elder' (upR HO_10.out) (Kd.R_base ho0) hb); have n3_ := Aside0.mk (Kd.R_lower (Kd.R_new' (Kd.R_new' (Kd.R_new' ho0 (Kd.R_lt (upR HO_6.out))) (Kd.R_lt (upR HO_9.out))) (Kd.R_lt (upR HO_10.out))) (below_size (upB HB.out))); have n4_ := Aside0.mk (below_step (upB HB.out) hb); clear HO_6; clear HO_9; clear HO_10; clear HB; have HO_6 := n0_; have HO_9 := n1_; have HO_10 := n2_; have HO244 := n3_; have HB := n4_; clear n0_ n1_ n2_ n3_ n4_; (try clear hb); (try clear hk); (try clear ho0); obtain ⟨Ao37, co37, eo37⟩ := Kd.R_slice HO244.out; subst eo37) | ((with_reducible refine gate_callee (f := 22) rfl ?_); refine goesL_ (some 58) rfl rfl Tryd.func22 (by kernel_rfl) rfl #[.slice Ao16 t233.length co16, .slice Ao37 t242.length co37] rfl argsB ?_; (with_reducible refine (laws_eqPermitS.calls kj9 _ _ t233 _ _ t242 true _ ?side1 ?side2 ?side3 ?side4 A32.out).mono ?_); (case side1 => repeat (first | exact (Kd.R_reads' HO_9.out).2.2 | (with_reducible refine Kd.C_alloc ?_ _) | (with_reducible refine Kd.C_drewN ?_ _) | (with_reducible refine Kd.C_drew ?_))); (case side2 => exact (Kd.R_reads' HO_9.out).2.1); (case side3 => repeat (first | exact (Kd.R_reads' HO244.out).2.2 | (with_reducible refine Kd.C_alloc ?_ _) | (with_reducible refine Kd.C_drewN ?_ _) | (with_reducible refine Kd.C_drew ?_))); (case side4 => exact (Kd.R_reads' HO244.out).2.1); rintro e w38 ⟨rfl, hb⟩; refine ⟨_, rfl, ?_⟩; have n0_ := Aside0.mk (Kd.R_below (upR HO_6.out) hb); have n1_ := Aside0.mk (Kd.R_below (upR HO_9.out) hb); have n2_ := Aside0.mk (Kd.R_below (upR HO_10.out) hb); have n3_ := Aside0.mk (Kd.R_below (upR HO244.out) hb); have n4_ := Aside0.mk (below_step (upB HB.out) hb); clear HO_6; clear HO_9; clear HO_10; clear HO244; clear HB; have HO_6 := n0_; have HO_9 := n1_; have HO_10 := n2_; have HO244 := n3_; have HB := n4_; clear n0_ n1_ n2_ n3_ n4_; (try clear hb); (try clear hk)) | ((with_reducible refine gate_callee (f := 29) rfl ?_); refine goesL_ (some 62) rfl rfl Tryd.func29 (by kernel_rfl) rfl #[.slice Ao16 t233.length co16, .int .i64 1] rfl argsB ?_; (with_reducible refine (laws_markPermitS.calls kj9 (fun k_ => some k_ = (.slice Ao16 t233.length co16 : Value).ownBlock) (.slice Ao16 t233.length co16) t233 1 t246 t247 w _ ?side1 ?side2 A34.out).mono ?_); (case side1 => repeat (first | (with_reducible first | exact HB.out | apply below_alloc | apply pw_below_drewN | apply below_drew1) | exact HB.out)); (case side2 => exact Kd.R_tight rfl HO_9.out); rintro e w39 ⟨rfl, hy0, hb, hkp⟩; refine ⟨_, rfl, ?_⟩; have n0_ := Aside0.mk (Kd.R_mono (ok' := fun k_ => some k_ ≠ (.slice Ao16 t233.length co16 : Value).ownBlock ∧ some k_ ≠ (v239 : Value).ownBlock ∧ some k_ ≠ (.slice Ao37 t242.length co37 : Value).ownBlock) (Kd.R_keptB (HO_6.out) hkp (fun k_ hk_ hs_ => (hk_.1.1) hs_)) (fun k_ hk_ => ⟨hk_.1.1.1, hk_.1.1.2, hk_.1.2⟩)); have n1_ := Aside0.mk (Kd.R_reok rfl hy0 (fun k_ e_ => HO_9.out.1 k_ e_)); have n2_ := Aside0.mk (Kd.R_mono (ok' := fun k_ => some k_ ≠ (v231 : Value).ownBlock ∧ some k_ ≠ (.slice Ao16 t233.length co16 : Value).ownBlock ∧ some k_ ≠ (.slice Ao37 t242.length co37 : Value).ownBlock) (Kd.R_keptB (HO_10.out) hkp (fun k_ hk_ hs_ => (hk_.1.2) hs_)) (fun k_ hk_ => ⟨hk_.1.1.1, hk_.1.1.2, hk_.1.2⟩)); have n3_ := Aside0.mk (Kd.R_mono (ok' := fun k_ => some k_ ≠ (v231 : Value).ownBlock ∧ some k_ ≠ (.slice Ao16 t233.length co16 : Value).ownBlock ∧ some k_ ≠ (v239 : Value).ownBlock) (Kd.R_keptB (HO244.out) hkp (fun k_ hk_ hs_ => (hk_.1.2) hs_)) (fun k_ hk_ => ⟨hk_.1.1.1.2, hk_.1.1.2, hk_.1.2⟩)); have n4_ := Aside0.mk (hb); clear HO_6; clear HO_9; clear HO_10; clear HO244; clear HB; have HO_6 := n0_; have HO_9 := n1_; have HO_10 := n2_; have HO244 := n3_; have HB := n4_; clear n0_ n1_ n2_ n3_ n4_; (try clear hb); (try clear hkp); (try clear hy0)))
            (try simp only [Act.put, List.setIfInBounds_toArray, List.set_cons_zero, List.set_cons_succ])
            go_cut [80] (fun v80 wc => ∃ (kq : Nat) (x80_34 : Bool), v80 = .bool x80_34 ∧ Aside0 (laws_FnExactLapsePermits.j1 kq l0 a1 t228 t229 t230 t236 x80_34 = some r) ∧ Aside0 (kq ≤ kj9) ∧ Aside0 (Kd.R k26 26 wc w.heap.size (fun k_ => some k_ ≠ (v239 : Value).ownBlock) v231 t228) ∧ Aside0 (Kd.R k26 26 wc w.heap.size (fun k_ => some k_ ≠ (v231 : Value).ownBlock) v239 t236) ∧ Aside0 (Below w.heap.size w wc))
            case first =>
              have H := HC35.out
              clear HC35
              by_cases c40 : t246 < 0
              · rw [if_pos c40] at H
                have c40b0 : decide (t246 < 0) = true := decide_eq_true c40
                clear c40
                (first | rw [c40b0] | (simp only [i64_w, i32_w]; rw [c40b0]) | skip)
                have H' := Aside0.mk H
                clear H
                go_wp2
                go_meet
                case rel => exact ⟨_, (true), (by first | rfl | (simp; done) | (simp [*]; done)), H', ⟨by have := HJ9.out; first | omega | exact Nat.le_refl _⟩, ⟨by (with_reducible repeat (first | apply Kd.R_alloc | apply Kd.R_drewN | apply Kd.R_drew)); exact Kd.R_mono HO_6.out (fun _ hk => hk.2.1)⟩, ⟨by (with_reducible repeat (first | apply Kd.R_alloc | apply Kd.R_drewN | apply Kd.R_drew)); exact Kd.R_mono HO_10.out (fun _ hk => hk.1)⟩, ⟨(upB HB.out)⟩⟩
              · rw [if_neg c40] at H
                have c40b0 : decide (t246 < 0) = false := decide_eq_false c40
                clear c40
                (first | rw [c40b0] | (simp only [i64_w, i32_w]; rw [c40b0]) | skip)
                replace H := Option.bind_eq_some_iff.mp H
                obtain ⟨t248, A410, H⟩ := H
                replace H : (if t248 = true then (if t237 = t229 then (laws_FnExactLapsePermits.j1 kj9 l0 a1 t228 t229 t230 t236 (t238 != t230)) else (laws_FnExactLapsePermits.j1 kj9 l0 a1 t228 t229 t230 t236 true)) else (laws_FnExactLapsePermits.j1 kj9 l0 a1 t228 t229 t230 t236 true)) = some r := H
                have A41 := Aside0.mk A410
                clear A410
                by_cases c42 : t248 = true
                · subst c42
                  have H1 : (if t237 = t229 then (laws_FnExactLapsePermits.j1 kj9 l0 a1 t228 t229 t230 t236 (t238 != t230)) else (laws_FnExactLapsePermits.j1 kj9 l0 a1 t228 t229 t230 t236 true)) = some r := by rw [if_pos rfl] at H; exact H
                  clear H
                  have H := H1
                  clear H1
                  by_cases c43 : t237 = t229
                  · rw [if_pos c43] at H
                    have c43b0 : (t237 == t229) = true := beq_iff_eq.mpr c43
                    have c43b1 : (t237 != t229) = false := bne_eq_false_iff_eq.mpr c43
                    clear c43
                    have H' := Aside0.mk H
                    clear H
                    obtain ⟨Ao44, co44, eo44⟩ := Kd.R_slice HO_10.out
                    subst eo44
                    obtain ⟨Ao45, co45, eo45⟩ := Kd.R_slice HO_6.out
                    subst eo45
                    go_wp2_with (first | (go_at_call 22; (with_reducible refine (laws_eqPermitS.calls kj9 _ _ t236 _ _ t228 true _ ?side1 ?side2 ?side3 ?side4 A41.out).mono ?_); (case side1 => repeat (first | exact (Kd.R_reads' HO_10.out).2.2 | (with_reducible refine Kd.C_alloc ?_ _) | (with_reducible refine Kd.C_drewN ?_ _) | (with_reducible refine Kd.C_drew ?_))); (case side2 => exact (Kd.R_reads' HO_10.out).2.1); (case side3 => repeat (first | exact (Kd.R_reads' HO_6.out).2.2 | (with_reducible refine Kd.C_alloc ?_ _) | (with_reducible refine Kd.C_drewN ?_ _) | (with_reducible refine Kd.C_drew ?_))); (case side4 => exact (Kd.R_reads' HO_6.out).2.1); rintro e w46 ⟨rfl, hb⟩; have n0_ := Aside0.mk (Kd.R_below (upR HO_6.out) hb); have n1_ := Aside0.mk (Kd.R_below (upR HO_9.out) hb); have n2_ := Aside0.mk (Kd.R_below (upR HO_10.out) hb); have n3_ := Aside0.mk (Kd.R_below (upR HO244.out) hb); have n4_ := Aside0.mk (below_step (upB HB.out) hb); clear HO_6; clear HO_9; clear HO_10; clear HO244; clear HB; have HO_6 := n0_; have HO_9 := n1_; have HO_10 := n2_; have HO244 := n3_; have HB := n4_; clear n0_ n1_ n2_ n3_ n4_; (try clear hb); (try clear hk)))
                    go_meet
                    case rel => exact ⟨_, ((t238 != t230)), (by first | rfl | (simp; done) | (simp [*]; done)), H', ⟨by have := HJ9.out; first | omega | exact Nat.le_refl _⟩, ⟨by (with_reducible repeat (first | apply Kd.R_alloc | apply Kd.R_drewN | apply Kd.R_drew)); exact Kd.R_mono HO_6.out (fun _ hk => hk.2.1)⟩, ⟨by (with_reducible repeat (first | apply Kd.R_alloc | apply Kd.R_drewN | apply Kd.R_drew)); exact Kd.R_mono HO_10.out (fun _ hk => hk.1)⟩, ⟨(upB HB.out)⟩⟩
                  · rw [if_neg c43] at H
                    have c43b0 : (t237 == t229) = false := beq_eq_false_iff_ne.mpr c43
                    have c43b1 : (t237 != t229) = true := bne_iff_ne.mpr c43
                    have H' := Aside0.mk H
                    clear H
                    obtain ⟨Ao47, co47, eo47⟩ := Kd.R_slice HO_10.out
                    subst eo47
                    obtain ⟨Ao48, co48, eo48⟩ := Kd.R_slice HO_6.out
                    subst eo48
                    go_wp2_with (first | (go_at_call 22; (with_reducible refine (laws_eqPermitS.calls kj9 _ _ t236 _ _ t228 true _ ?side1 ?side2 ?side3 ?side4 A41.out).mono ?_); (case side1 => repeat (first | exact (Kd.R_reads' HO_10.out).2.2 | (with_reducible refine Kd.C_alloc ?_ _) | (with_reducible refine Kd.C_drewN ?_ _) | (with_reducible refine Kd.C_drew ?_))); (case side2 => exact (Kd.R_reads' HO_10.out).2.1); (case side3 => repeat (first | exact (Kd.R_reads' HO_6.out).2.2 | (with_reducible refine Kd.C_alloc ?_ _) | (with_reducible refine Kd.C_drewN ?_ _) | (with_reducible refine Kd.C_drew ?_))); (case side4 => exact (Kd.R_reads' HO_6.out).2.1); rintro e w49 ⟨rfl, hb⟩; have n0_ := Aside0.mk (Kd.R_below (upR HO_6.out) hb); have n1_ := Aside0.mk (Kd.R_below (upR HO_9.out) hb); have n2_ := Aside0.mk (Kd.R_below (upR HO_10.out) hb); have n3_ := Aside0.mk (Kd.R_below (upR HO244.out) hb); have n4_ := Aside0.mk (below_step (upB HB.out) hb); clear HO_6; clear HO_9; clear HO_10; clear HO244; clear HB; have HO_6 := n0_; have HO_9 := n1_; have HO_10 := n2_; have HO244 := n3_; have HB := n4_; clear n0_ n1_ n2_ n3_ n4_; (try clear hb); (try clear hk)))
                    go_meet
                    case rel => exact ⟨_, (true), (by first | rfl | (simp; done) | (simp [*]; done)), H', ⟨by have := HJ9.out; first | omega | exact Nat.le_refl _⟩, ⟨by (with_reducible repeat (first | apply Kd.R_alloc | apply Kd.R_drewN | apply Kd.R_drew)); exact Kd.R_mono HO_6.out (fun _ hk => hk.2.1)⟩, ⟨by (with_reducible repeat (first | apply Kd.R_alloc | apply Kd.R_drewN | apply Kd.R_drew)); exact Kd.R_mono HO_10.out (fun _ hk => hk.1)⟩, ⟨(upB HB.out)⟩⟩
                · replace c42 := Bool.eq_false_iff.mpr c42
                  subst c42
                  have H1 : (laws_FnExactLapsePermits.j1 kj9 l0 a1 t228 t229 t230 t236 true) = some r := by rw [if_neg (show ¬ (false = true) by decide)] at H; exact H
                  clear H
                  have H := H1
                  clear H1
                  have H' := Aside0.mk H
                  clear H
                  obtain ⟨Ao50, co50, eo50⟩ := Kd.R_slice HO_10.out
                  subst eo50
                  obtain ⟨Ao51, co51, eo51⟩ := Kd.R_slice HO_6.out
                  subst eo51
                  go_wp2_with (first | (go_at_call 22; (with_reducible refine (laws_eqPermitS.calls kj9 _ _ t236 _ _ t228 false _ ?side1 ?side2 ?side3 ?side4 A41.out).mono ?_); (case side1 => repeat (first | exact (Kd.R_reads' HO_10.out).2.2 | (with_reducible refine Kd.C_alloc ?_ _) | (with_reducible refine Kd.C_drewN ?_ _) | (with_reducible refine Kd.C_drew ?_))); (case side2 => exact (Kd.R_reads' HO_10.out).2.1); (case side3 => repeat (first | exact (Kd.R_reads' HO_6.out).2.2 | (with_reducible refine Kd.C_alloc ?_ _) | (with_reducible refine Kd.C_drewN ?_ _) | (with_reducible refine Kd.C_drew ?_))); (case side4 => exact (Kd.R_reads' HO_6.out).2.1); rintro e w52 ⟨rfl, hb⟩; have n0_ := Aside0.mk (Kd.R_below (upR HO_6.out) hb); have n1_ := Aside0.mk (Kd.R_below (upR HO_9.out) hb); have n2_ := Aside0.mk (Kd.R_below (upR HO_10.out) hb); have n3_ := Aside0.mk (Kd.R_below (upR HO244.out) hb); have n4_ := Aside0.mk (below_step (upB HB.out) hb); clear HO_6; clear HO_9; clear HO_10; clear HO244; clear HB; have HO_6 := n0_; have HO_9 := n1_; have HO_10 := n2_; have HO244 := n3_; have HB := n4_; clear n0_ n1_ n2_ n3_ n4_; (try clear hb); (try clear hk)))
                  go_meet
                  case rel => exact ⟨_, (true), (by first | rfl | (simp; done) | (simp [*]; done)), H', ⟨by have := HJ9.out; first | omega | exact Nat.le_refl _⟩, ⟨by (with_reducible repeat (first | apply Kd.R_alloc | apply Kd.R_drewN | apply Kd.R_drew)); exact Kd.R_mono HO_6.out (fun _ hk => hk.2.1)⟩, ⟨by (with_reducible repeat (first | apply Kd.R_alloc | apply Kd.R_drewN | apply Kd.R_drew)); exact Kd.R_mono HO_10.out (fun _ hk => hk.1)⟩, ⟨(upB HB.out)⟩⟩
            case rest =>
              clear HC35
              try clear c4
              try clear c4b0
              try clear c19
              try clear c20
              try clear c20b0
              try clear c20b1
              try clear c30
              try clear c33
              try clear c40
              try clear c40b0
              try clear c42
              try clear c43
              try clear c43b0
              try clear c43b1
              obtain ⟨kq, x80_34, rfl, HA, HJ34, HO_6, HO_10, HB⟩ := hcut
              cases kq with
              | zero => exact absurd HA.out (by simp [laws_FnExactLapsePermits.j1])
              | succ kj34 =>
                have H := HA.out
                clear HA
                simp only [laws_FnExactLapsePermits.j1] at H
                by_cases c53 : x80_34 = true
                · subst c53
                  have H1 : (some false) = some r := by rw [if_pos rfl] at H; exact H
                  clear H
                  have H := H1
                  clear H1
                  exact absurd (Option.some.inj H) (by rw [hT]; decide)
                · replace c53 := Bool.eq_false_iff.mpr c53
                  subst c53
                  have H1 : ((laws_markPermitS.f kj34 t236 1).bind fun bt249 => ((laws_heldPermitS.f kj34 bt249.2 1).bind fun t251 => (if t251 < 0 then (some false) else (if t251 = bt249.1 then ((laws_toPermitS.f kj34 l0).bind fun t252 => ((impl_LapsePermits.f kj34 t252 a1).bind fun bt255 => ((laws_eqPermitS.f kj34 bt255.1 t228).bind fun t260 => (if t260 = true then (if bt255.2.1 = t229 then (laws_FnExactLapsePermits.j2 kj34 bt249.2 bt249.1 (bt255.2.2 != t230)) else (laws_FnExactLapsePermits.j2 kj34 bt249.2 bt249.1 true)) else (laws_FnExactLapsePermits.j2 kj34 bt249.2 bt249.1 true))))) else (some false))))) = some r := by rw [if_neg (show ¬ (false = true) by decide)] at H; exact H
                  clear H
                  have H := H1
                  clear H1
                  replace H := Option.bind_eq_some_iff.mp H
                  obtain ⟨⟨t249, t250⟩, A540, H⟩ := H
                  replace H : ((laws_heldPermitS.f kj34 t250 1).bind fun t251 => (if t251 < 0 then (some false) else (if t251 = t249 then ((laws_toPermitS.f kj34 l0).bind fun t252 => ((impl_LapsePermits.f kj34 t252 a1).bind fun bt255 => ((laws_eqPermitS.f kj34 bt255.1 t228).bind fun t260 => (if t260 = true then (if bt255.2.1 = t229 then (laws_FnExactLapsePermits.j2 kj34 t250 t249 (bt255.2.2 != t230)) else (laws_FnExactLapsePermits.j2 kj34 t250 t249 true)) else (laws_FnExactLapsePermits.j2 kj34 t250 t249 true))))) else (some false)))) = some r := H
                  have A54 := Aside0.mk A540
                  clear A540
                  replace H := Option.bind_eq_some_iff.mp H
                  obtain ⟨t251, A550, H⟩ := H
                  replace H : (if t251 < 0 then (some false) else (if t251 = t249 then ((laws_toPermitS.f kj34 l0).bind fun t252 => ((impl_LapsePermits.f kj34 t252 a1).bind fun bt255 => ((laws_eqPermitS.f kj34 bt255.1 t228).bind fun t260 => (if t260 = true then (if bt255.2.1 = t229 then (laws_FnExactLapsePermits.j2 kj34 t250 t249 (bt255.2.2 != t230)) else (laws_FnExactLapsePermits.j2 kj34 t250 t249 true)) else (laws_FnExactLapsePermits.j2 kj34 t250 t249 true))))) else (some false))) = some r := H
                  have A55 := Aside0.mk A550
                  clear A550
                  by_cases c56 : t251 < 0
                  · rw [if_pos c56] at H
                    have c56b0 : decide (t251 < 0) = true := decide_eq_true c56
                    clear c56
                    exact absurd (Option.some.inj H) (by rw [hT]; decide)
                  · rw [if_neg c56] at H
                    have c56b0 : decide (t251 < 0) = false := decide_eq_false c56
                    clear c56
                    by_cases c60 : t251 = t249
                    · rw [if_pos c60] at H
                      have c60b0 : (t251 == t249) = true := beq_iff_eq.mpr c60
                      have c60b1 : (t251 != t249) = false := bne_eq_false_iff_eq.mpr c60
                      clear c60
                      replace H := Option.bind_eq_some_iff.mp H
                      obtain ⟨t252, A610, H⟩ := H
                      replace H : ((impl_LapsePermits.f kj34 t252 a1).bind fun bt255 => ((laws_eqPermitS.f kj34 bt255.1 t228).bind fun t260 => (if t260 = true then (if bt255.2.1 = t229 then (laws_FnExactLapsePermits.j2 kj34 t250 t249 (bt255.2.2 != t230)) else (laws_FnExactLapsePermits.j2 kj34 t250 t249 true)) else (laws_FnExactLapsePermits.j2 kj34 t250 t249 true)))) = some r := H
                      have A61 := Aside0.mk A610
                      clear A610
                      replace H := Option.bind_eq_some_iff.mp H
                      obtain ⟨⟨t255, t256, t257⟩, A620, H⟩ := H
                      replace H : ((laws_eqPermitS.f kj34 t255 t228).bind fun t260 => (if t260 = true then (if t256 = t229 then (laws_FnExactLapsePermits.j2 kj34 t250 t249 (t257 != t230)) else (laws_FnExactLapsePermits.j2 kj34 t250 t249 true)) else (laws_FnExactLapsePermits.j2 kj34 t250 t249 true))) = some r := H
                      have A62 := Aside0.mk A620
                      clear A620
                      have HC63 := Aside0.mk H
                      clear H
                      obtain ⟨Ao64, co64, eo64⟩ := Kd.R_slice HO_10.out
                      subst eo64
                      go_upto_region 25 with (first | ((with_reducible refine gate_callee (f := 29) rfl ?_); refine goesL_ (some 83) rfl rfl Tryd.func29 (by kernel_rfl) rfl #[.slice Ao64 t236.length co64, .int .i64 1] rfl argsB ?_; (with_reducible refine (laws_markPermitS.calls kj34 (fun k_ => some k_ = (.slice Ao64 t236.length co64 : Value).ownBlock) (.slice Ao64 t236.length co64) t236 1 t249 t250 w _ ?side1 ?side2 A54.out).mono ?_); (case side1 => repeat (first | (with_reducible first | exact HB.out | apply below_alloc | apply pw_below_drewN | apply below_drew1) | exact HB.out)); (case side2 => exact Kd.R_tight rfl HO_10.out); rintro e w65 ⟨rfl, hy0, hb, hkp⟩; refine ⟨_, rfl, ?_⟩; have n0_ := Aside0.mk (Kd.R_mono (ok' := fun k_ => some k_ ≠ (.slice Ao64 t236.length co64 : Value).ownBlock) (Kd.R_keptB (HO_6.out) hkp (fun k_ hk_ hs_ => (hk_) hs_)) (fun k_ hk_ => hk_.1)); have n1_ := Aside0.mk (Kd.R_reok rfl hy0 (fun k_ e_ => HO_10.out.1 k_ e_)); have n2_ := Aside0.mk (hb); clear HO_6; clear HO_10; clear HB; have HO_6 := n0_; have HO_10 := n1_; have HB := n2_; clear n0_ n1_ n2_; (try clear hb); (try clear hkp); (try clear hy0)) | ((with_reducible refine gate_callee (f := 30) rfl ?_); refine goesL_ (some 86) rfl rfl Tryd.func30 (by kernel_rfl) rfl #[.slice Ao64 t250.length co64, .int .i64 1] rfl (by (try simp only [List.map_toArray, List.map_cons, List.map_nil]); first | done | (rw [show t250.length = t236.length from (Kd.R_reads' HO_10.out).1.symm] <;> rfl) | rfl | (simp only [List.length_drop, List.length_take]; rfl)) ?_; (with_reducible refine (laws_heldPermitS.calls kj34 _ _ t250 1 t251 _ ?side1 ?side2 A55.out).mono ?_); (case side1 => repeat (first | exact (Kd.R_reads' HO_10.out).2.2 | (with_reducible refine Kd.C_alloc ?_ _) | (with_reducible refine Kd.C_drewN ?_ _) | (with_reducible refine Kd.C_drew ?_))); (case side2 => rw [show t250.length = t236.length from (Kd.R_reads' HO_10.out).1.symm]; exact (Kd.R_reads' HO_10.out).2.1); rintro e w66 ⟨rfl, hb⟩; refine ⟨_, rfl, ?_⟩; have n0_ := Aside0.mk (Kd.R_below (upR HO_6.out) hb); have n1_ := Aside0.mk (Kd.R_below (upR HO_10.out) hb); have n2_ := Aside0.mk (below_step (upB HB.out) hb); clear HO_6; clear HO_10; clear HB; have HO_6 := n0_; have HO_10 := n1_; have HB := n2_; clear n0_ n1_ n2_; (try clear hb); (try clear hk)) | ((with_reducible refine gate_callee (f := 20) rfl ?_); refine goesL_ (some 94) rfl rfl Tryd.func20 (by kernel_rfl) rfl #[.slice A0 l0.length c0] rfl argsB ?_; (with_reducible refine (laws_toPermitS.calls kj34 _ _ l0 t252 _ ?side1 ?side2 A61.out).mono ?_); (case side1 => repeat (first | exact (Kd.C_below HR0.out HB.out) | (with_reducible refine Kd.C_alloc ?_ _) | (with_reducible refine Kd.C_drewN ?_ _) | (with_reducible refine Kd.C_drew ?_))); (case side2 => exact HC0.out); rintro e w67 ⟨v253, rfl, ho0, hb⟩; refine ⟨_, rfl, ?_⟩; have n0_ := Aside0.mk (Kd.R_elder' (upR HO_6.out) (Kd.R_base ho0) hb); have n1_ := Aside0.mk (Kd.R_elder' (upR HO_10.out) (Kd.R_base ho0) hb); have n2_ := Aside0.mk (Kd.R_lower (Kd.R_new' (Kd.R_new' ho0 (Kd.R_lt (upR HO_6.out))) (Kd.R_lt (upR HO_10.out))) (below_size (upB HB.out))); have n3_ := Aside0.mk (below_step (upB HB.out) hb); clear HO_6; clear HO_10; clear HB; have HO_6 := n0_; have HO_10 := n1_; have HO254 := n2_; have HB := n3_; clear n0_ n1_ n2_ n3_; (try clear hb); (try clear hk); (try clear ho0); obtain ⟨Ao68, co68, eo68⟩ := Kd.R_slice HO254.out; subst eo68) | ((with_reducible refine gate_callee (f := 32) rfl ?_); refine goesL_ (some 96) rfl rfl Tryd.func32 (by kernel_rfl) rfl #[.slice Ao68 t252.length co68, .int .i64 a1] rfl argsB ?_; (with_reducible refine (impl_LapsePermits.calls kj34 _ _ t252 a1 t255 t256 t257 _ ?side1 ?side2 A62.out).mono ?_); (case side1 => repeat (first | exact (Kd.R_reads' HO254.out).2.2 | (with_reducible refine Kd.C_alloc ?_ _) | (with_reducible refine Kd.C_drewN ?_ _) | (with_reducible refine Kd.C_drew ?_))); (case side2 => exact (Kd.R_reads' HO254.out).2.1); rintro e w69 ⟨v258, rfl, ho0, hb⟩; refine ⟨_, rfl, ?_⟩; have n0_ := Aside0.mk (Kd.R_elder' (upR HO_6.out) (Kd.R_base ho0) hb); have n1_ := Aside0.mk (Kd.R_elder' (upR HO_10.out) (Kd.R_base ho0) hb); have n2_ := Aside0.mk (Kd.R_elder' (upR HO254.out) (Kd.R_base ho0) hb); have n3_ := Aside0.mk (Kd.R_lower (Kd.R_new' (Kd.R_new' (Kd.R_new' ho0 (Kd.R_lt (upR HO_6.out))) (Kd.R_lt (upR HO_10.out))) (Kd.R_lt (upR HO254.out))) (below_size (upB HB.out))); have n4_ := Aside0.mk (below_step (upB HB.out) hb); clear HO_6; clear HO_10; clear HO254; clear HB; have HO_6 := n0_; have HO_10 := n1_; have HO254 := n2_; have HO259 := n3_; have HB := n4_; clear n0_ n1_ n2_ n3_ n4_; (try clear hb); (try clear hk); (try clear ho0)))
                      (try simp only [Act.put, List.setIfInBounds_toArray, List.set_cons_zero, List.set_cons_succ])
                      go_cut [113] (fun v113 wc => ∃ (kq : Nat) (x113_62 : Bool), v113 = .bool x113_62 ∧ Aside0 (laws_FnExactLapsePermits.j2 kq t250 t249 x113_62 = some r) ∧ Aside0 (kq ≤ kj34) ∧ Aside0 (Kd.R k26 26 wc w.heap.size (fun _ => True) (.slice Ao64 t236.length co64) t250) ∧ Aside0 (Below w.heap.size w wc))
                      case first =>
                        have H := HC63.out
                        clear HC63
                        replace H := Option.bind_eq_some_iff.mp H
                        obtain ⟨t260, A700, H⟩ := H
                        replace H : (if t260 = true then (if t256 = t229 then (laws_FnExactLapsePermits.j2 kj34 t250 t249 (t257 != t230)) else (laws_FnExactLapsePermits.j2 kj34 t250 t249 true)) else (laws_FnExactLapsePermits.j2 kj34 t250 t249 true)) = some r := H
                        have A70 := Aside0.mk A700
                        clear A700
                        by_cases c71 : t260 = true
                        · subst c71
                          have H1 : (if t256 = t229 then (laws_FnExactLapsePermits.j2 kj34 t250 t249 (t257 != t230)) else (laws_FnExactLapsePermits.j2 kj34 t250 t249 true)) = some r := by rw [if_pos rfl] at H; exact H
                          clear H
                          have H := H1
                          clear H1
                          by_cases c72 : t256 = t229
                          · rw [if_pos c72] at H
                            have c72b0 : (t256 == t229) = true := beq_iff_eq.mpr c72
                            have c72b1 : (t256 != t229) = false := bne_eq_false_iff_eq.mpr c72
                            clear c72
                            (first | rw [c72b0] | (simp only [i64_w, i32_w]; rw [c72b0]) | skip)
                            have H' := Aside0.mk H
                            clear H
                            obtain ⟨Ao73, co73, eo73⟩ := Kd.R_slice HO259.out
                            subst eo73
                            obtain ⟨Ao74, co74, eo74⟩ := Kd.R_slice HO_6.out
                            subst eo74
                            go_wp2_with (first | ((with_reducible refine gate_callee (f := 22) rfl ?_); refine goesL_ (some 102) rfl rfl Tryd.func22 (by kernel_rfl) rfl #[.slice Ao73 t255.length co73, .slice Ao74 t228.length co74] rfl argsB ?_; (with_reducible refine (laws_eqPermitS.calls kj34 _ _ t255 _ _ t228 true _ ?side1 ?side2 ?side3 ?side4 A70.out).mono ?_); (case side1 => repeat (first | exact (Kd.R_reads' HO259.out).2.2 | (with_reducible refine Kd.C_alloc ?_ _) | (with_reducible refine Kd.C_drewN ?_ _) | (with_reducible refine Kd.C_drew ?_))); (case side2 => exact (Kd.R_reads' HO259.out).2.1); (case side3 => repeat (first | exact (Kd.R_reads' HO_6.out).2.2 | (with_reducible refine Kd.C_alloc ?_ _) | (with_reducible refine Kd.C_drewN ?_ _) | (with_reducible refine Kd.C_drew ?_))); (case side4 => exact (Kd.R_reads' HO_6.out).2.1); rintro e w75 ⟨rfl, hb⟩; refine ⟨_, rfl, ?_⟩; have n0_ := Aside0.mk (Kd.R_below (upR HO_6.out) hb); have n1_ := Aside0.mk (Kd.R_below (upR HO_10.out) hb); have n2_ := Aside0.mk (Kd.R_below (upR HO254.out) hb); have n3_ := Aside0.mk (Kd.R_below (upR HO259.out) hb); have n4_ := Aside0.mk (below_step (upB HB.out) hb); clear HO_6; clear HO_10; clear HO254; clear HO259; clear HB; have HO_6 := n0_; have HO_10 := n1_; have HO254 := n2_; have HO259 := n3_; have HB := n4_; clear n0_ n1_ n2_ n3_ n4_; (try clear hb); (try clear hk)))
                            go_meet
                            case rel => exact ⟨_, ((t257 != t230)), (by first | rfl | (simp; done) | (simp [*]; done)), H', ⟨by have := HJ9.out; have := HJ34.out; first | omega | exact Nat.le_refl _⟩, ⟨by (with_reducible repeat (first | apply Kd.R_alloc | apply Kd.R_drewN | apply Kd.R_drew)); exact Kd.R_mono HO_10.out (fun _ hk => trivial)⟩, ⟨(upB HB.out)⟩⟩
                          · rw [if_neg c72] at H
                            have c72b0 : (t256 == t229) = false := beq_eq_false_iff_ne.mpr c72
                            have c72b1 : (t256 != t229) = true := bne_iff_ne.mpr c72
                            (first | rw [c72b0] | (simp only [i64_w, i32_w]; rw [c72b0]) | skip)
                            have H' := Aside0.mk H
                            clear H
                            obtain ⟨Ao76, co76, eo76⟩ := Kd.R_slice HO259.out
                            subst eo76
                            obtain ⟨Ao77, co77, eo77⟩ := Kd.R_slice HO_6.out
                            subst eo77
                            go_wp2_with (first | ((with_reducible refine gate_callee (f := 22) rfl ?_); refine goesL_ (some 102) rfl rfl Tryd.func22 (by kernel_rfl) rfl #[.slice Ao76 t255.length co76, .slice Ao77 t228.length co77] rfl argsB ?_; (with_reducible refine (laws_eqPermitS.calls kj34 _ _ t255 _ _ t228 true _ ?side1 ?side2 ?side3 ?side4 A70.out).mono ?_); (case side1 => repeat (first | exact (Kd.R_reads' HO259.out).2.2 | (with_reducible refine Kd.C_alloc ?_ _) | (with_reducible refine Kd.C_drewN ?_ _) | (with_reducible refine Kd.C_drew ?_))); (case side2 => exact (Kd.R_reads' HO259.out).2.1); (case side3 => repeat (first | exact (Kd.R_reads' HO_6.out).2.2 | (with_reducible refine Kd.C_alloc ?_ _) | (with_reducible refine Kd.C_drewN ?_ _) | (with_reducible refine Kd.C_drew ?_))); (case side4 => exact (Kd.R_reads' HO_6.out).2.1); rintro e w78 ⟨rfl, hb⟩; refine ⟨_, rfl, ?_⟩; have n0_ := Aside0.mk (Kd.R_below (upR HO_6.out) hb); have n1_ := Aside0.mk (Kd.R_below (upR HO_10.out) hb); have n2_ := Aside0.mk (Kd.R_below (upR HO254.out) hb); have n3_ := Aside0.mk (Kd.R_below (upR HO259.out) hb); have n4_ := Aside0.mk (below_step (upB HB.out) hb); clear HO_6; clear HO_10; clear HO254; clear HO259; clear HB; have HO_6 := n0_; have HO_10 := n1_; have HO254 := n2_; have HO259 := n3_; have HB := n4_; clear n0_ n1_ n2_ n3_ n4_; (try clear hb); (try clear hk)))
                            go_meet
                            case rel => exact ⟨_, (true), (by first | rfl | (simp; done) | (simp [*]; done)), H', ⟨by have := HJ9.out; have := HJ34.out; first | omega | exact Nat.le_refl _⟩, ⟨by (with_reducible repeat (first | apply Kd.R_alloc | apply Kd.R_drewN | apply Kd.R_drew)); exact Kd.R_mono HO_10.out (fun _ hk => trivial)⟩, ⟨(upB HB.out)⟩⟩
                        · replace c71 := Bool.eq_false_iff.mpr c71
                          subst c71
                          have H1 : (laws_FnExactLapsePermits.j2 kj34 t250 t249 true) = some r := by rw [if_neg (show ¬ (false = true) by decide)] at H; exact H
                          clear H
                          have H := H1
                          clear H1
                          have H' := Aside0.mk H
                          clear H
                          obtain ⟨Ao79, co79, eo79⟩ := Kd.R_slice HO259.out
                          subst eo79
                          obtain ⟨Ao80, co80, eo80⟩ := Kd.R_slice HO_6.out
                          subst eo80
                          go_wp2_with (first | ((with_reducible refine gate_callee (f := 22) rfl ?_); refine goesL_ (some 102) rfl rfl Tryd.func22 (by kernel_rfl) rfl #[.slice Ao79 t255.length co79, .slice Ao80 t228.length co80] rfl argsB ?_; (with_reducible refine (laws_eqPermitS.calls kj34 _ _ t255 _ _ t228 false _ ?side1 ?side2 ?side3 ?side4 A70.out).mono ?_); (case side1 => repeat (first | exact (Kd.R_reads' HO259.out).2.2 | (with_reducible refine Kd.C_alloc ?_ _) | (with_reducible refine Kd.C_drewN ?_ _) | (with_reducible refine Kd.C_drew ?_))); (case side2 => exact (Kd.R_reads' HO259.out).2.1); (case side3 => repeat (first | exact (Kd.R_reads' HO_6.out).2.2 | (with_reducible refine Kd.C_alloc ?_ _) | (with_reducible refine Kd.C_drewN ?_ _) | (with_reducible refine Kd.C_drew ?_))); (case side4 => exact (Kd.R_reads' HO_6.out).2.1); rintro e w81 ⟨rfl, hb⟩; refine ⟨_, rfl, ?_⟩; have n0_ := Aside0.mk (Kd.R_below (upR HO_6.out) hb); have n1_ := Aside0.mk (Kd.R_below (upR HO_10.out) hb); have n2_ := Aside0.mk (Kd.R_below (upR HO254.out) hb); have n3_ := Aside0.mk (Kd.R_below (upR HO259.out) hb); have n4_ := Aside0.mk (below_step (upB HB.out) hb); clear HO_6; clear HO_10; clear HO254; clear HO259; clear HB; have HO_6 := n0_; have HO_10 := n1_; have HO254 := n2_; have HO259 := n3_; have HB := n4_; clear n0_ n1_ n2_ n3_ n4_; (try clear hb); (try clear hk)))
                          go_meet
                          case rel => exact ⟨_, (true), (by first | rfl | (simp; done) | (simp [*]; done)), H', ⟨by have := HJ9.out; have := HJ34.out; first | omega | exact Nat.le_refl _⟩, ⟨by (with_reducible repeat (first | apply Kd.R_alloc | apply Kd.R_drewN | apply Kd.R_drew)); exact Kd.R_mono HO_10.out (fun _ hk => trivial)⟩, ⟨(upB HB.out)⟩⟩
                      case rest =>
                        clear HC63
                        try clear c4
                        try clear c4b0
                        try clear c19
                        try clear c20
                        try clear c20b0
                        try clear c20b1
                        try clear c30
                        try clear c33
                        try clear c40
                        try clear c40b0
                        try clear c42
                        try clear c43
                        try clear c43b0
                        try clear c43b1
                        try clear c53
                        try clear c56
                        try clear c56b0
                        try clear c60
                        try clear c60b0
                        try clear c60b1
                        try clear c71
                        try clear c72
                        try clear c72b0
                        try clear c72b1
                        obtain ⟨kq, x113_62, rfl, HA, HJ62, HO_10, HB⟩ := hcut
                        have hl10_62 := (Kd.R_reads' HO_10.out).1
                        rw [hl10_62] at HO_10
                        (try simp only [hl10_62])
                        cases kq with
                        | zero => exact absurd HA.out (by simp [laws_FnExactLapsePermits.j2])
                        | succ kj62 =>
                          have H := HA.out
                          clear HA
                          simp only [laws_FnExactLapsePermits.j2] at H
                          by_cases c82 : x113_62 = true
                          · subst c82
                            have H1 : (some false) = some r := by rw [if_pos rfl] at H; exact H
                            clear H
                            have H := H1
                            clear H1
                            exact absurd (Option.some.inj H) (by rw [hT]; decide)
                          · replace c82 := Bool.eq_false_iff.mpr c82
                            subst c82
                            have H1 : ((laws_heldPermitS.f kj62 t250 1).bind fun t261 => (if t261 < 0 then (some false) else (if t261 = t249 then (some true) else (some false)))) = some r := by rw [if_neg (show ¬ (false = true) by decide)] at H; exact H
                            clear H
                            have H := H1
                            clear H1
                            replace H := Option.bind_eq_some_iff.mp H
                            obtain ⟨t261, A830, H⟩ := H
                            replace H : (if t261 < 0 then (some false) else (if t261 = t249 then (some true) else (some false))) = some r := H
                            have A83 := Aside0.mk A830
                            clear A830
                            by_cases c84 : t261 < 0
                            · rw [if_pos c84] at H
                              have c84b0 : decide (t261 < 0) = true := decide_eq_true c84
                              clear c84
                              exact absurd (Option.some.inj H) (by rw [hT]; decide)
                            · rw [if_neg c84] at H
                              have c84b0 : decide (t261 < 0) = false := decide_eq_false c84
                              clear c84
                              by_cases c86 : t261 = t249
                              · rw [if_pos c86] at H
                                have c86b0 : (t261 == t249) = true := beq_iff_eq.mpr c86
                                have c86b1 : (t261 != t249) = false := bne_eq_false_iff_eq.mpr c86
                                clear c86
                                obtain rfl := (Option.some.inj H)
                                go_wp2_with (first | ((with_reducible refine gate_callee (f := 30) rfl ?_); refine goesL_ (some 116) rfl rfl Tryd.func30 (by kernel_rfl) rfl #[.slice Ao64 t250.length co64, .int .i64 1] rfl argsB ?_; (with_reducible refine (laws_heldPermitS.calls kj62 _ _ t250 1 t261 _ ?side1 ?side2 A83.out).mono ?_); (case side1 => repeat (first | exact (Kd.R_reads' HO_10.out).2.2 | (with_reducible refine Kd.C_alloc ?_ _) | (with_reducible refine Kd.C_drewN ?_ _) | (with_reducible refine Kd.C_drew ?_))); (case side2 => exact (Kd.R_reads' HO_10.out).2.1); rintro e w87 ⟨rfl, hb⟩; refine ⟨_, rfl, ?_⟩; have n0_ := Aside0.mk (Kd.R_below (upR HO_10.out) hb); have n1_ := Aside0.mk (below_step (upB HB.out) hb); clear HO_10; clear HB; have HO_10 := n0_; have HB := n1_; clear n0_ n1_; (try clear hb); (try clear hk)))
                                go_ret
                                exact ⟨by first | rfl | (simp [errW_none, errW_some] <;> rfl) | (simp [*, errW_none, errW_some] <;> rfl), (upB HB.out)⟩
                              · rw [if_neg c86] at H
                                have c86b0 : (t261 == t249) = false := beq_eq_false_iff_ne.mpr c86
                                have c86b1 : (t261 != t249) = true := bne_iff_ne.mpr c86
                                obtain rfl := (Option.some.inj H)
                                go_wp2_with (first | ((with_reducible refine gate_callee (f := 30) rfl ?_); refine goesL_ (some 116) rfl rfl Tryd.func30 (by kernel_rfl) rfl #[.slice Ao64 t250.length co64, .int .i64 1] rfl argsB ?_; (with_reducible refine (laws_heldPermitS.calls kj62 _ _ t250 1 t261 _ ?side1 ?side2 A83.out).mono ?_); (case side1 => repeat (first | exact (Kd.R_reads' HO_10.out).2.2 | (with_reducible refine Kd.C_alloc ?_ _) | (with_reducible refine Kd.C_drewN ?_ _) | (with_reducible refine Kd.C_drew ?_))); (case side2 => exact (Kd.R_reads' HO_10.out).2.1); rintro e w88 ⟨rfl, hb⟩; refine ⟨_, rfl, ?_⟩; have n0_ := Aside0.mk (Kd.R_below (upR HO_10.out) hb); have n1_ := Aside0.mk (below_step (upB HB.out) hb); clear HO_10; clear HB; have HO_10 := n0_; have HB := n1_; clear n0_ n1_; (try clear hb); (try clear hk)))
                                go_ret
                                exact ⟨by first | rfl | (simp [errW_none, errW_some] <;> rfl) | (simp [*, errW_none, errW_some] <;> rfl), (upB HB.out)⟩
                    · rw [if_neg c60] at H
                      have c60b0 : (t251 == t249) = false := beq_eq_false_iff_ne.mpr c60
                      have c60b1 : (t251 != t249) = true := bne_iff_ne.mpr c60
                      obtain rfl := (Option.some.inj H)
                      obtain ⟨Ao89, co89, eo89⟩ := Kd.R_slice HO_10.out
                      subst eo89
                      go_wp2_with (first | ((with_reducible refine gate_callee (f := 29) rfl ?_); refine goesL_ (some 83) rfl rfl Tryd.func29 (by kernel_rfl) rfl #[.slice Ao89 t236.length co89, .int .i64 1] rfl argsB ?_; (with_reducible refine (laws_markPermitS.calls kj34 (fun k_ => some k_ = (.slice Ao89 t236.length co89 : Value).ownBlock) (.slice Ao89 t236.length co89) t236 1 t249 t250 w _ ?side1 ?side2 A54.out).mono ?_); (case side1 => repeat (first | (with_reducible first | exact HB.out | apply below_alloc | apply pw_below_drewN | apply below_drew1) | exact HB.out)); (case side2 => exact Kd.R_tight rfl HO_10.out); rintro e w90 ⟨rfl, hy0, hb, hkp⟩; refine ⟨_, rfl, ?_⟩; have n0_ := Aside0.mk (Kd.R_mono (ok' := fun k_ => some k_ ≠ (.slice Ao89 t236.length co89 : Value).ownBlock) (Kd.R_keptB (HO_6.out) hkp (fun k_ hk_ hs_ => (hk_) hs_)) (fun k_ hk_ => hk_.1)); have n1_ := Aside0.mk (Kd.R_reok rfl hy0 (fun k_ e_ => HO_10.out.1 k_ e_)); have n2_ := Aside0.mk (hb); clear HO_6; clear HO_10; clear HB; have HO_6 := n0_; have HO_10 := n1_; have HB := n2_; clear n0_ n1_ n2_; (try clear hb); (try clear hkp); (try clear hy0)) | ((with_reducible refine gate_callee (f := 30) rfl ?_); refine goesL_ (some 86) rfl rfl Tryd.func30 (by kernel_rfl) rfl #[.slice Ao89 t250.length co89, .int .i64 1] rfl (by (try simp only [List.map_toArray, List.map_cons, List.map_nil]); first | done | (rw [show t250.length = t236.length from (Kd.R_reads' HO_10.out).1.symm] <;> rfl) | rfl | (simp only [List.length_drop, List.length_take]; rfl)) ?_; (with_reducible refine (laws_heldPermitS.calls kj34 _ _ t250 1 t251 _ ?side1 ?side2 A55.out).mono ?_); (case side1 => repeat (first | exact (Kd.R_reads' HO_10.out).2.2 | (with_reducible refine Kd.C_alloc ?_ _) | (with_reducible refine Kd.C_drewN ?_ _) | (with_reducible refine Kd.C_drew ?_))); (case side2 => rw [show t250.length = t236.length from (Kd.R_reads' HO_10.out).1.symm]; exact (Kd.R_reads' HO_10.out).2.1); rintro e w91 ⟨rfl, hb⟩; refine ⟨_, rfl, ?_⟩; have n0_ := Aside0.mk (Kd.R_below (upR HO_6.out) hb); have n1_ := Aside0.mk (Kd.R_below (upR HO_10.out) hb); have n2_ := Aside0.mk (below_step (upB HB.out) hb); clear HO_6; clear HO_10; clear HB; have HO_6 := n0_; have HO_10 := n1_; have HB := n2_; clear n0_ n1_ n2_; (try clear hb); (try clear hk)))
                      go_ret
                      exact ⟨by first | rfl | (simp [errW_none, errW_some] <;> rfl) | (simp [*, errW_none, errW_some] <;> rfl), (upB HB.out)⟩
          · replace c33 := Bool.eq_false_iff.mpr c33
            subst c33
            have H1 : (some false) = some r := by rw [if_neg (show ¬ (false = true) by decide)] at H; exact H
            clear H
            have H := H1
            clear H1
            exact absurd (Option.some.inj H) (by rw [hT]; decide)

end Go.Proofs.YtgeioccfjgpijaaDoor.QFnExactLapsePermits
