/- Contracts of Go functions that FnExactUsePermit reaches: the call computes what the plain function says. No condition. -/
import Derived.Test.YtgeioccfjgpijaaDoorQFnExactUsePermitx0
import Derived.Test.YtgeioccfjgpijaaDoorQFnExactUsePermitx1
import Derived.Test.YtgeioccfjgpijaaDoorQFnExactUsePermitx2
import Derived.Test.YtgeioccfjgpijaaDoorQFnExactUsePermitx3
import Derived.Test.YtgeioccfjgpijaaDoorQFnExactUsePermitx7
import Derived.Test.YtgeioccfjgpijaaDoorQFnExactUsePermitx10
namespace Go.Proofs.YtgeioccfjgpijaaDoor.QFnExactUsePermit
open Go.RowKit Go.Proofs.YtgeioccfjgpijaaDoorW.PrintWords Go.Proofs.YtgeioccfjgpijaaDoorW.PrintLast Go.Proofs.YtgeioccfjgpijaaDoorW.PrintMore
attribute [local go_sem] max2_int min2_int max_two min_two max_three min_three max_four min_four   -- for this text's walks alone
set_option linter.unusedVariables false
set_option linter.unusedSimpArgs false

/-! ### laws_FnExactUsePermit: function 9 -/
mutual
def laws_FnExactUsePermit.j0 : Nat → List (S23) → Int → Int → Int → List (S26) → Bool → List (S26) → List (S26) → Bool → Bool → Option (Bool)
  | 0, _, _, _, _, _, _, _, _, _, _ => none
  | k + 1, x0, x1, x2, x3, x10, x11, x12, x13, x14, x52 => if x52 = true then (some false) else ((laws_toPermitS.f k x0).bind fun t261 => ((laws_eqPermitS.f k x12 t261).bind fun t264 => (if t264 = true then ((laws_markPermitS.f k x12 1).bind fun bt265 => (if bt265.1 < 0 then (laws_FnExactUsePermit.j1 k x0 x1 x2 x3 x10 x11 x13 true) else ((laws_eqPermitS.f k x13 x10).bind fun t267 => (if t267 = true then (laws_FnExactUsePermit.j1 k x0 x1 x2 x3 x10 x11 x13 (x14 != x11)) else (laws_FnExactUsePermit.j1 k x0 x1 x2 x3 x10 x11 x13 true))))) else (some false))))
def laws_FnExactUsePermit.j1 : Nat → List (S23) → Int → Int → Int → List (S26) → Bool → List (S26) → Bool → Option (Bool)
  | 0, _, _, _, _, _, _, _, _ => none
  | k + 1, x0, x1, x2, x3, x10, x11, x13, x73 => if x73 = true then (some false) else ((laws_markPermitS.f k x13 1).bind fun bt268 => ((laws_heldPermitS.f k bt268.2 1).bind fun t270 => (if t270 < 0 then (some false) else (if t270 = bt268.1 then ((laws_toPermitS.f k x0).bind fun t271 => ((impl_UsePermit.f k t271 x1 x2 x3).bind fun bt274 => ((laws_eqPermitS.f k bt274.1 x10).bind fun t278 => (if t278 = true then (laws_FnExactUsePermit.j2 k bt268.2 bt268.1 (bt274.2 != x11)) else (laws_FnExactUsePermit.j2 k bt268.2 bt268.1 true))))) else (some false)))))
def laws_FnExactUsePermit.j2 : Nat → List (S26) → Int → Bool → Option (Bool)
  | 0, _, _, _ => none
  | k + 1, x13, x16, x102 => if x102 = true then (some false) else ((laws_heldPermitS.f k x13 1).bind fun t279 => (if t279 < 0 then (some false) else (if t279 = x16 then (some true) else (some false))))
end
def laws_FnExactUsePermit.f (k : Nat) (l0 : List (S23)) (a1 : Int) (a2 : Int) (a3 : Int) : Option (Bool) := (laws_szPermitS.f k l0 1048576).bind fun t245 => (if t245 < 0 then (some true) else ((laws_toPermitS.f k l0).bind fun t246 => ((spec_UsePermit.f k t246 a1 a2 a3).bind fun bt249 => ((laws_toPermitS.f k l0).bind fun t253 => ((impl_UsePermit.f k t253 a1 a2 a3).bind fun bt256 => ((laws_eqPermitS.f k bt256.1 bt249.1).bind fun t260 => (if t260 = true then (laws_FnExactUsePermit.j0 k l0 a1 a2 a3 bt249.1 bt249.2 t253 bt256.1 bt256.2 (bt256.2 != bt249.2)) else (laws_FnExactUsePermit.j0 k l0 a1 a2 a3 bt249.1 bt249.2 t253 bt256.1 bt256.2 true))))))))
theorem laws_FnExactUsePermit.mono_l : ∀ k, (∀ y0 y1 y2 y3 y4 y5 y6 y7 y8 y9, LeO (laws_FnExactUsePermit.j0 k y0 y1 y2 y3 y4 y5 y6 y7 y8 y9) (laws_FnExactUsePermit.j0 (k + 1) y0 y1 y2 y3 y4 y5 y6 y7 y8 y9)) ∧ (∀ y0 y1 y2 y3 y4 y5 y6 y7, LeO (laws_FnExactUsePermit.j1 k y0 y1 y2 y3 y4 y5 y6 y7) (laws_FnExactUsePermit.j1 (k + 1) y0 y1 y2 y3 y4 y5 y6 y7)) ∧ (∀ y0 y1 y2, LeO (laws_FnExactUsePermit.j2 k y0 y1 y2) (laws_FnExactUsePermit.j2 (k + 1) y0 y1 y2))
  | 0 => ⟨fun _ _ _ _ _ _ _ _ _ _ r h => by simp [laws_FnExactUsePermit.j0] at h, fun _ _ _ _ _ _ _ _ r h => by simp [laws_FnExactUsePermit.j1] at h, fun _ _ _ r h => by simp [laws_FnExactUsePermit.j2] at h⟩
  | k + 1 => by
    obtain ⟨ih0, ih1, ih2⟩ := laws_FnExactUsePermit.mono_l k
    refine ⟨?_, ?_, ?_⟩
    · intro y0 y1 y2 y3 y4 y5 y6 y7 y8 y9
      unfold laws_FnExactUsePermit.j0
      repeat' first
      | (with_reducible exact ih0 _ _ _ _ _ _ _ _ _ _)
      | (with_reducible exact ih1 _ _ _ _ _ _ _ _)
      | (with_reducible exact ih2 _ _ _)
      | (with_reducible exact impl_UsePermit.mono _ _ _ _ _)
      | (with_reducible exact laws_eqPermitS.mono _ _ _)
      | (with_reducible exact laws_heldPermitS.mono _ _ _)
      | (with_reducible exact laws_markPermitS.mono _ _ _)
      | (with_reducible exact laws_szPermitS.mono _ _ _)
      | (with_reducible exact laws_toPermitS.mono _ _)
      | (with_reducible exact spec_UsePermit.mono _ _ _ _ _)
      | (with_reducible exact LeO.refl _)
      | (with_reducible exact LeO.none _)
      | (with_reducible refine LeO.ite ?_ ?_)
      | (with_reducible refine LeO.bind ?_ (fun _ => ?_))
      | exact ih0 _ _ _ _ _ _ _ _ _ _
      | exact ih1 _ _ _ _ _ _ _ _
      | exact ih2 _ _ _
      | exact impl_UsePermit.mono _ _ _ _ _
      | exact laws_eqPermitS.mono _ _ _
      | exact laws_heldPermitS.mono _ _ _
      | exact laws_markPermitS.mono _ _ _
      | exact laws_szPermitS.mono _ _ _
      | exact laws_toPermitS.mono _ _
      | exact spec_UsePermit.mono _ _ _ _ _
      | exact LeO.none _
      | refine LeO.ite ?_ ?_
      | refine LeO.bind ?_ (fun _ => ?_)
    · intro y0 y1 y2 y3 y4 y5 y6 y7
      unfold laws_FnExactUsePermit.j1
      repeat' first
      | (with_reducible exact ih0 _ _ _ _ _ _ _ _ _ _)
      | (with_reducible exact ih1 _ _ _ _ _ _ _ _)
      | (with_reducible exact ih2 _ _ _)
      | (with_reducible exact impl_UsePermit.mono _ _ _ _ _)
      | (with_reducible exact laws_eqPermitS.mono _ _ _)
      | (with_reducible exact laws_heldPermitS.mono _ _ _)
      | (with_reducible exact laws_markPermitS.mono _ _ _)
      | (with_reducible exact laws_szPermitS.mono _ _ _)
      | (with_reducible exact laws_toPermitS.mono _ _)
      | (with_reducible exact spec_UsePermit.mono _ _ _ _ _)
      | (with_reducible exact LeO.refl _)
      | (with_reducible exact LeO.none _)
      | (with_reducible refine LeO.ite ?_ ?_)
      | (with_reducible refine LeO.bind ?_ (fun _ => ?_))
      | exact ih0 _ _ _ _ _ _ _ _ _ _
      | exact ih1 _ _ _ _ _ _ _ _
      | exact ih2 _ _ _
      | exact impl_UsePermit.mono _ _ _ _ _
      | exact laws_eqPermitS.mono _ _ _
      | exact laws_heldPermitS.mono _ _ _
      | exact laws_markPermitS.mono _ _ _
      | exact laws_szPermitS.mono _ _ _
      | exact laws_toPermitS.mono _ _
      | exact spec_UsePermit.mono _ _ _ _ _
      | exact LeO.none _
      | refine LeO.ite ?_ ?_
      | refine LeO.bind ?_ (fun _ => ?_)
    · intro y0 y1 y2
      unfold laws_FnExactUsePermit.j2
      repeat' first
      | (with_reducible exact ih0 _ _ _ _ _ _ _ _ _ _)
      | (with_reducible exact ih1 _ _ _ _ _ _ _ _)
      | (with_reducible exact ih2 _ _ _)
      | (with_reducible exact impl_UsePermit.mono _ _ _ _ _)
      | (with_reducible exact laws_eqPermitS.mono _ _ _)
      | (with_reducible exact laws_heldPermitS.mono _ _ _)
      | (with_reducible exact laws_markPermitS.mono _ _ _)
      | (with_reducible exact laws_szPermitS.mono _ _ _)
      | (with_reducible exact laws_toPermitS.mono _ _)
      | (with_reducible exact spec_UsePermit.mono _ _ _ _ _)
      | (with_reducible exact LeO.refl _)
      | (with_reducible exact LeO.none _)
      | (with_reducible refine LeO.ite ?_ ?_)
      | (with_reducible refine LeO.bind ?_ (fun _ => ?_))
      | exact ih0 _ _ _ _ _ _ _ _ _ _
      | exact ih1 _ _ _ _ _ _ _ _
      | exact ih2 _ _ _
      | exact impl_UsePermit.mono _ _ _ _ _
      | exact laws_eqPermitS.mono _ _ _
      | exact laws_heldPermitS.mono _ _ _
      | exact laws_markPermitS.mono _ _ _
      | exact laws_szPermitS.mono _ _ _
      | exact laws_toPermitS.mono _ _
      | exact spec_UsePermit.mono _ _ _ _ _
      | exact LeO.none _
      | refine LeO.ite ?_ ?_
      | refine LeO.bind ?_ (fun _ => ?_)
theorem laws_FnExactUsePermit.mono : ∀ a0 a1 a2 a3 k, LeO (laws_FnExactUsePermit.f k a0 a1 a2 a3) (laws_FnExactUsePermit.f (k + 1) a0 a1 a2 a3) := by
  intro a0 a1 a2 a3 k
  obtain ⟨ih0, ih1, ih2⟩ := laws_FnExactUsePermit.mono_l k
  unfold laws_FnExactUsePermit.f
  repeat' first
      | (with_reducible exact ih0 _ _ _ _ _ _ _ _ _ _)
      | (with_reducible exact ih1 _ _ _ _ _ _ _ _)
      | (with_reducible exact ih2 _ _ _)
      | (with_reducible exact impl_UsePermit.mono _ _ _ _ _)
      | (with_reducible exact laws_eqPermitS.mono _ _ _)
      | (with_reducible exact laws_heldPermitS.mono _ _ _)
      | (with_reducible exact laws_markPermitS.mono _ _ _)
      | (with_reducible exact laws_szPermitS.mono _ _ _)
      | (with_reducible exact laws_toPermitS.mono _ _)
      | (with_reducible exact spec_UsePermit.mono _ _ _ _ _)
      | (with_reducible exact LeO.refl _)
      | (with_reducible exact LeO.none _)
      | (with_reducible refine LeO.ite ?_ ?_)
      | (with_reducible refine LeO.bind ?_ (fun _ => ?_))
      | exact ih0 _ _ _ _ _ _ _ _ _ _
      | exact ih1 _ _ _ _ _ _ _ _
      | exact ih2 _ _ _
      | exact impl_UsePermit.mono _ _ _ _ _
      | exact laws_eqPermitS.mono _ _ _
      | exact laws_heldPermitS.mono _ _ _
      | exact laws_markPermitS.mono _ _ _
      | exact laws_szPermitS.mono _ _ _
      | exact laws_toPermitS.mono _ _
      | exact spec_UsePermit.mono _ _ _ _ _
      | exact LeO.none _
      | refine LeO.ite ?_ ?_
      | refine LeO.bind ?_ (fun _ => ?_)
set_option maxHeartbeats 8000000 in
set_option maxRecDepth 100000 in
theorem laws_FnExactUsePermit.calls (k : Nat) (A0 : Option Addr) (c0 : Nat) (l0 : List (S23)) (a1 : Int) (a2 : Int) (a3 : Int) (r : Bool) (w : World) (hr0 : Kd.C k23 w A0 l0.length l0) (hc0 : l0.length ≤ c0) (h : laws_FnExactUsePermit.f k l0 a1 a2 a3 = some r) (hT : r = true) :
    Calls Tryd.prog 9 #[.slice A0 l0.length c0, .int .i64 a1, .int .i64 a2, .int .i64 a3] w fun e w' => e = .returned (.bool r) ∧ Below w.heap.size w w' := by
  have HR0 := Aside0.mk hr0
  have HC0 := Aside0.mk hc0
  clear hr0 hc0
  have HB := Aside0.mk (Below.refl w.heap.size w)
  have H : ((laws_szPermitS.f k l0 1048576).bind fun t245 => (if t245 < 0 then (some true) else ((laws_toPermitS.f k l0).bind fun t246 => ((spec_UsePermit.f k t246 a1 a2 a3).bind fun bt249 => ((laws_toPermitS.f k l0).bind fun t253 => ((impl_UsePermit.f k t253 a1 a2 a3).bind fun bt256 => ((laws_eqPermitS.f k bt256.1 bt249.1).bind fun t260 => (if t260 = true then (laws_FnExactUsePermit.j0 k l0 a1 a2 a3 bt249.1 bt249.2 t253 bt256.1 bt256.2 (bt256.2 != bt249.2)) else (laws_FnExactUsePermit.j0 k l0 a1 a2 a3 bt249.1 bt249.2 t253 bt256.1 bt256.2 true))))))))) = some r := h
  clear h
  replace H := Option.bind_eq_some_iff.mp H
  obtain ⟨t245, A50, H⟩ := H
  replace H : (if t245 < 0 then (some true) else ((laws_toPermitS.f k l0).bind fun t246 => ((spec_UsePermit.f k t246 a1 a2 a3).bind fun bt249 => ((laws_toPermitS.f k l0).bind fun t253 => ((impl_UsePermit.f k t253 a1 a2 a3).bind fun bt256 => ((laws_eqPermitS.f k bt256.1 bt249.1).bind fun t260 => (if t260 = true then (laws_FnExactUsePermit.j0 k l0 a1 a2 a3 bt249.1 bt249.2 t253 bt256.1 bt256.2 (bt256.2 != bt249.2)) else (laws_FnExactUsePermit.j0 k l0 a1 a2 a3 bt249.1 bt249.2 t253 bt256.1 bt256.2 true)))))))) = some r := H
  have A5 := Aside0.mk A50
  clear A50
  by_cases c6 : t245 < 0
  · rw [if_pos c6] at H
    have c6b0 : decide (t245 < 0) = true := decide_eq_true c6
    clear c6
    obtain rfl := (Option.some.inj H)
    go_enter Tryd.func9, Tryd.ntmps9
    go_wp2_with (first | ((with_reducible refine gate_callee (f := 18) rfl ?_); refine goesL_ (some 22) rfl rfl Tryd.func18 (by kernel_rfl) rfl #[.slice A0 l0.length c0, .int .i64 1048576] rfl argsB ?_; (with_reducible refine (laws_szPermitS.calls k _ _ l0 1048576 t245 _ ?side1 ?side2 A5.out).mono ?_); (case side1 => repeat (first | exact HR0.out | (with_reducible refine Kd.C_alloc ?_ _) | (with_reducible refine Kd.C_drewN ?_ _) | (with_reducible refine Kd.C_drew ?_))); (case side2 => exact HC0.out); rintro e w7 ⟨rfl, hb⟩; refine ⟨_, rfl, ?_⟩; have n0_ := Aside0.mk (below_step (upB HB.out) hb); clear HB; have HB := n0_; clear n0_; (try clear hb); (try clear hk)))
    go_ret
    exact ⟨by first | rfl | (simp [errW_none, errW_some] <;> rfl) | (simp [*, errW_none, errW_some] <;> rfl), (upB HB.out)⟩
  · rw [if_neg c6] at H
    have c6b0 : decide (t245 < 0) = false := decide_eq_false c6
    clear c6
    replace H := Option.bind_eq_some_iff.mp H
    obtain ⟨t246, A80, H⟩ := H
    replace H : ((spec_UsePermit.f k t246 a1 a2 a3).bind fun bt249 => ((laws_toPermitS.f k l0).bind fun t253 => ((impl_UsePermit.f k t253 a1 a2 a3).bind fun bt256 => ((laws_eqPermitS.f k bt256.1 bt249.1).bind fun t260 => (if t260 = true then (laws_FnExactUsePermit.j0 k l0 a1 a2 a3 bt249.1 bt249.2 t253 bt256.1 bt256.2 (bt256.2 != bt249.2)) else (laws_FnExactUsePermit.j0 k l0 a1 a2 a3 bt249.1 bt249.2 t253 bt256.1 bt256.2 true)))))) = some r := H
    have A8 := Aside0.mk A80
    clear A80
    replace H := Option.bind_eq_some_iff.mp H
    obtain ⟨⟨t249, t250⟩, A90, H⟩ := H
    replace H : ((laws_toPermitS.f k l0).bind fun t253 => ((impl_UsePermit.f k t253 a1 a2 a3).bind fun bt256 => ((laws_eqPermitS.f k bt256.1 t249).bind fun t260 => (if t260 = true then (laws_FnExactUsePermit.j0 k l0 a1 a2 a3 t249 t250 t253 bt256.1 bt256.2 (bt256.2 != t250)) else (laws_FnExactUsePermit.j0 k l0 a1 a2 a3 t249 t250 t253 bt256.1 bt256.2 true))))) = some r := H
    have A9 := Aside0.mk A90
    clear A90
    replace H := Option.bind_eq_some_iff.mp H
    obtain ⟨t253, A100, H⟩ := H
    replace H : ((impl_UsePermit.f k t253 a1 a2 a3).bind fun bt256 => ((laws_eqPermitS.f k bt256.1 t249).bind fun t260 => (if t260 = true then (laws_FnExactUsePermit.j0 k l0 a1 a2 a3 t249 t250 t253 bt256.1 bt256.2 (bt256.2 != t250)) else (laws_FnExactUsePermit.j0 k l0 a1 a2 a3 t249 t250 t253 bt256.1 bt256.2 true)))) = some r := H
    have A10 := Aside0.mk A100
    clear A100
    replace H := Option.bind_eq_some_iff.mp H
    obtain ⟨⟨t256, t257⟩, A110, H⟩ := H
    replace H : ((laws_eqPermitS.f k t256 t249).bind fun t260 => (if t260 = true then (laws_FnExactUsePermit.j0 k l0 a1 a2 a3 t249 t250 t253 t256 t257 (t257 != t250)) else (laws_FnExactUsePermit.j0 k l0 a1 a2 a3 t249 t250 t253 t256 t257 true))) = some r := H
    have A11 := Aside0.mk A110
    clear A110
    have HC12 := Aside0.mk H
    clear H
    go_enter Tryd.func9, Tryd.ntmps9
    go_upto_region 8 with (first | ((with_reducible refine gate_callee (f := 18) rfl ?_); refine goesL_ (some 22) rfl rfl Tryd.func18 (by kernel_rfl) rfl #[.slice A0 l0.length c0, .int .i64 1048576] rfl argsB ?_; (with_reducible refine (laws_szPermitS.calls k _ _ l0 1048576 t245 _ ?side1 ?side2 A5.out).mono ?_); (case side1 => repeat (first | exact HR0.out | (with_reducible refine Kd.C_alloc ?_ _) | (with_reducible refine Kd.C_drewN ?_ _) | (with_reducible refine Kd.C_drew ?_))); (case side2 => exact HC0.out); rintro e w13 ⟨rfl, hb⟩; refine ⟨_, rfl, ?_⟩; have n0_ := Aside0.mk (below_step (upB HB.out) hb); clear HB; have HB := n0_; clear n0_; (try clear hb); (try clear hk)) | ((with_reducible refine gate_callee (f := 20) rfl ?_); refine goesL_ (some 27) rfl rfl Tryd.func20 (by kernel_rfl) rfl #[.slice A0 l0.length c0] rfl argsB ?_; (with_reducible refine (laws_toPermitS.calls k _ _ l0 t246 _ ?side1 ?side2 A8.out).mono ?_); (case side1 => repeat (first | exact (Kd.C_below HR0.out HB.out) | (with_reducible refine Kd.C_alloc ?_ _) | (with_reducible refine Kd.C_drewN ?_ _) | (with_reducible refine Kd.C_drew ?_))); (case side2 => exact HC0.out); rintro e w14 ⟨v247, rfl, ho0, hb⟩; refine ⟨_, rfl, ?_⟩; have n0_ := Aside0.mk (Kd.R_lower ho0 (below_size (upB HB.out))); have n1_ := Aside0.mk (below_step (upB HB.out) hb); clear HB; have HO248 := n0_; have HB := n1_; clear n0_ n1_; (try clear hb); (try clear hk); (try clear ho0); obtain ⟨Ao15, co15, eo15⟩ := Kd.R_slice HO248.out; subst eo15) | ((with_reducible refine gate_callee (f := 33) rfl ?_); refine goesL_ (some 31) rfl rfl Tryd.func33 (by kernel_rfl) rfl #[.slice Ao15 t246.length co15, .int .i64 a1, .int .i64 a2, .int .i64 a3] rfl argsB ?_; (with_reducible refine (spec_UsePermit.calls k _ _ t246 a1 a2 a3 t249 t250 _ ?side1 ?side2 A9.out).mono ?_); (case side1 => repeat (first | exact (Kd.R_reads' HO248.out).2.2 | (with_reducible refine Kd.C_alloc ?_ _) | (with_reducible refine Kd.C_drewN ?_ _) | (with_reducible refine Kd.C_drew ?_))); (case side2 => exact (Kd.R_reads' HO248.out).2.1); rintro e w16 ⟨v251, rfl, ho0, hb⟩; refine ⟨_, rfl, ?_⟩; have n0_ := Aside0.mk (Kd.R_elder' (upR HO248.out) (Kd.R_base ho0) hb); have n1_ := Aside0.mk (Kd.R_lower (Kd.R_new' ho0 (Kd.R_lt (upR HO248.out))) (below_size (upB HB.out))); have n2_ := Aside0.mk (below_step (upB HB.out) hb); clear HO248; clear HB; have HO248 := n0_; have HO252 := n1_; have HB := n2_; clear n0_ n1_ n2_; (try clear hb); (try clear hk); (try clear ho0)) | ((with_reducible refine gate_callee (f := 20) rfl ?_); refine goesL_ (some 35) rfl rfl Tryd.func20 (by kernel_rfl) rfl #[.slice A0 l0.length c0] rfl argsB ?_; (with_reducible refine (laws_toPermitS.calls k _ _ l0 t253 _ ?side1 ?side2 A10.out).mono ?_); (case side1 => repeat (first | exact (Kd.C_below HR0.out HB.out) | (with_reducible refine Kd.C_alloc ?_ _) | (with_reducible refine Kd.C_drewN ?_ _) | (with_reducible refine Kd.C_drew ?_))); (case side2 => exact HC0.out); rintro e w17 ⟨v254, rfl, ho0, hb⟩; refine ⟨_, rfl, ?_⟩; have n0_ := Aside0.mk (Kd.R_elder' (upR HO248.out) (Kd.R_base ho0) hb); have n1_ := Aside0.mk (Kd.R_elder' (upR HO252.out) (Kd.R_base ho0) hb); have n2_ := Aside0.mk (Kd.R_lower (Kd.R_new' (Kd.R_new' ho0 (Kd.R_lt (upR HO248.out))) (Kd.R_lt (upR HO252.out))) (below_size (upB HB.out))); have n3_ := Aside0.mk (below_step (upB HB.out) hb); clear HO248; clear HO252; clear HB; have HO248 := n0_; have HO252 := n1_; have HO255 := n2_; have HB := n3_; clear n0_ n1_ n2_ n3_; (try clear hb); (try clear hk); (try clear ho0); obtain ⟨Ao18, co18, eo18⟩ := Kd.R_slice HO255.out; subst eo18) | ((with_reducible refine gate_callee (f := 34) rfl ?_); refine goesL_ (some 41) rfl rfl Tryd.func34 (by kernel_rfl) rfl #[.slice Ao18 t253.length co18, .int .i64 a1, .int .i64 a2, .int .i64 a3] rfl argsB ?_; (with_reducible refine (impl_UsePermit.calls k _ _ t253 a1 a2 a3 t256 t257 _ ?side1 ?side2 A11.out).mono ?_); (case side1 => repeat (first | exact (Kd.R_reads' HO255.out).2.2 | (with_reducible refine Kd.C_alloc ?_ _) | (with_reducible refine Kd.C_drewN ?_ _) | (with_reducible refine Kd.C_drew ?_))); (case side2 => exact (Kd.R_reads' HO255.out).2.1); rintro e w19 ⟨v258, rfl, ho0, hb⟩; refine ⟨_, rfl, ?_⟩; have n0_ := Aside0.mk (Kd.R_elder' (upR HO248.out) (Kd.R_base ho0) hb); have n1_ := Aside0.mk (Kd.R_elder' (upR HO252.out) (Kd.R_base ho0) hb); have n2_ := Aside0.mk (Kd.R_elder' (upR HO255.out) (Kd.R_base ho0) hb); have n3_ := Aside0.mk (Kd.R_lower (Kd.R_new' (Kd.R_new' (Kd.R_new' ho0 (Kd.R_lt (upR HO248.out))) (Kd.R_lt (upR HO252.out))) (Kd.R_lt (upR HO255.out))) (below_size (upB HB.out))); have n4_ := Aside0.mk (below_step (upB HB.out) hb); clear HO248; clear HO252; clear HO255; clear HB; have HO248 := n0_; have HO252 := n1_; have HO255 := n2_; have HO259 := n3_; have HB := n4_; clear n0_ n1_ n2_ n3_ n4_; (try clear hb); (try clear hk); (try clear ho0)))
    (try simp only [Act.put, List.setIfInBounds_toArray, List.set_cons_zero, List.set_cons_succ])
    go_cut [52] (fun v52 wc => ∃ (kq : Nat) (x52_11 : Bool), v52 = .bool x52_11 ∧ Aside0 (laws_FnExactUsePermit.j0 kq l0 a1 a2 a3 t249 t250 t253 t256 t257 x52_11 = some r) ∧ Aside0 (kq ≤ k) ∧ Aside0 (Kd.R k26 26 wc w.heap.size (fun k_ => some k_ ≠ ((.slice Ao18 t253.length co18) : Value).ownBlock ∧ some k_ ≠ (v258 : Value).ownBlock) v251 t249) ∧ Aside0 (Kd.R k26 26 wc w.heap.size (fun k_ => some k_ ≠ (v251 : Value).ownBlock ∧ some k_ ≠ (v258 : Value).ownBlock) (.slice Ao18 t253.length co18) t253) ∧ Aside0 (Kd.R k26 26 wc w.heap.size (fun k_ => some k_ ≠ (v251 : Value).ownBlock ∧ some k_ ≠ ((.slice Ao18 t253.length co18) : Value).ownBlock) v258 t256) ∧ Aside0 (Below w.heap.size w wc))
    case first =>
      have H := HC12.out
      clear HC12
      replace H := Option.bind_eq_some_iff.mp H
      obtain ⟨t260, A200, H⟩ := H
      replace H : (if t260 = true then (laws_FnExactUsePermit.j0 k l0 a1 a2 a3 t249 t250 t253 t256 t257 (t257 != t250)) else (laws_FnExactUsePermit.j0 k l0 a1 a2 a3 t249 t250 t253 t256 t257 true)) = some r := H
      have A20 := Aside0.mk A200
      clear A200
      by_cases c21 : t260 = true
      · subst c21
        have H1 : (laws_FnExactUsePermit.j0 k l0 a1 a2 a3 t249 t250 t253 t256 t257 (t257 != t250)) = some r := by rw [if_pos rfl] at H; exact H
        clear H
        have H := H1
        clear H1
        have H' := Aside0.mk H
        clear H
        obtain ⟨Ao22, co22, eo22⟩ := Kd.R_slice HO259.out
        subst eo22
        obtain ⟨Ao23, co23, eo23⟩ := Kd.R_slice HO252.out
        subst eo23
        go_wp2_with (first | ((with_reducible refine gate_callee (f := 22) rfl ?_); refine goesL_ (some 46) rfl rfl Tryd.func22 (by kernel_rfl) rfl #[.slice Ao22 t256.length co22, .slice Ao23 t249.length co23] rfl argsB ?_; (with_reducible refine (laws_eqPermitS.calls k _ _ t256 _ _ t249 true _ ?side1 ?side2 ?side3 ?side4 A20.out).mono ?_); (case side1 => repeat (first | exact (Kd.R_reads' HO259.out).2.2 | (with_reducible refine Kd.C_alloc ?_ _) | (with_reducible refine Kd.C_drewN ?_ _) | (with_reducible refine Kd.C_drew ?_))); (case side2 => exact (Kd.R_reads' HO259.out).2.1); (case side3 => repeat (first | exact (Kd.R_reads' HO252.out).2.2 | (with_reducible refine Kd.C_alloc ?_ _) | (with_reducible refine Kd.C_drewN ?_ _) | (with_reducible refine Kd.C_drew ?_))); (case side4 => exact (Kd.R_reads' HO252.out).2.1); rintro e w24 ⟨rfl, hb⟩; refine ⟨_, rfl, ?_⟩; have n0_ := Aside0.mk (Kd.R_below (upR HO248.out) hb); have n1_ := Aside0.mk (Kd.R_below (upR HO252.out) hb); have n2_ := Aside0.mk (Kd.R_below (upR HO255.out) hb); have n3_ := Aside0.mk (Kd.R_below (upR HO259.out) hb); have n4_ := Aside0.mk (below_step (upB HB.out) hb); clear HO248; clear HO252; clear HO255; clear HO259; clear HB; have HO248 := n0_; have HO252 := n1_; have HO255 := n2_; have HO259 := n3_; have HB := n4_; clear n0_ n1_ n2_ n3_ n4_; (try clear hb); (try clear hk)))
        go_meet
        case rel => exact ⟨_, ((t257 != t250)), (by first | rfl | (simp; done) | (simp [*]; done)), H', ⟨by first | omega | exact Nat.le_refl _⟩, ⟨by (with_reducible repeat (first | apply Kd.R_alloc | apply Kd.R_drewN | apply Kd.R_drew)); exact Kd.R_mono HO252.out (fun _ hk => ⟨hk.1.2, hk.2⟩)⟩, ⟨by (with_reducible repeat (first | apply Kd.R_alloc | apply Kd.R_drewN | apply Kd.R_drew)); exact Kd.R_mono HO255.out (fun _ hk => ⟨hk.1.2, hk.2⟩)⟩, ⟨by (with_reducible repeat (first | apply Kd.R_alloc | apply Kd.R_drewN | apply Kd.R_drew)); exact Kd.R_mono HO259.out (fun _ hk => ⟨hk.1.2, hk.2⟩)⟩, ⟨(upB HB.out)⟩⟩
      · replace c21 := Bool.eq_false_iff.mpr c21
        subst c21
        have H1 : (laws_FnExactUsePermit.j0 k l0 a1 a2 a3 t249 t250 t253 t256 t257 true) = some r := by rw [if_neg (show ¬ (false = true) by decide)] at H; exact H
        clear H
        have H := H1
        clear H1
        have H' := Aside0.mk H
        clear H
        obtain ⟨Ao25, co25, eo25⟩ := Kd.R_slice HO259.out
        subst eo25
        obtain ⟨Ao26, co26, eo26⟩ := Kd.R_slice HO252.out
        subst eo26
        go_wp2_with (first | ((with_reducible refine gate_callee (f := 22) rfl ?_); refine goesL_ (some 46) rfl rfl Tryd.func22 (by kernel_rfl) rfl #[.slice Ao25 t256.length co25, .slice Ao26 t249.length co26] rfl argsB ?_; (with_reducible refine (laws_eqPermitS.calls k _ _ t256 _ _ t249 false _ ?side1 ?side2 ?side3 ?side4 A20.out).mono ?_); (case side1 => repeat (first | exact (Kd.R_reads' HO259.out).2.2 | (with_reducible refine Kd.C_alloc ?_ _) | (with_reducible refine Kd.C_drewN ?_ _) | (with_reducible refine Kd.C_drew ?_))); (case side2 => exact (Kd.R_reads' HO259.out).2.1); (case side3 => repeat (first | exact (Kd.R_reads' HO252.out).2.2 | (with_reducible refine Kd.C_alloc ?_ _) | (with_reducible refine Kd.C_drewN ?_ _) | (with_reducible refine Kd.C_drew ?_))); (case side4 => exact (Kd.R_reads' HO252.out).2.1); rintro e w27 ⟨rfl, hb⟩; refine ⟨_, rfl, ?_⟩; have n0_ := Aside0.mk (Kd.R_below (upR HO248.out) hb); have n1_ := Aside0.mk (Kd.R_below (upR HO252.out) hb); have n2_ := Aside0.mk (Kd.R_below (upR HO255.out) hb); have n3_ := Aside0.mk (Kd.R_below (upR HO259.out) hb); have n4_ := Aside0.mk (below_step (upB HB.out) hb); clear HO248; clear HO252; clear HO255; clear HO259; clear HB; have HO248 := n0_; have HO252 := n1_; have HO255 := n2_; have HO259 := n3_; have HB := n4_; clear n0_ n1_ n2_ n3_ n4_; (try clear hb); (try clear hk)))
        go_meet
        case rel => exact ⟨_, (true), (by first | rfl | (simp; done) | (simp [*]; done)), H', ⟨by first | omega | exact Nat.le_refl _⟩, ⟨by (with_reducible repeat (first | apply Kd.R_alloc | apply Kd.R_drewN | apply Kd.R_drew)); exact Kd.R_mono HO252.out (fun _ hk => ⟨hk.1.2, hk.2⟩)⟩, ⟨by (with_reducible repeat (first | apply Kd.R_alloc | apply Kd.R_drewN | apply Kd.R_drew)); exact Kd.R_mono HO255.out (fun _ hk => ⟨hk.1.2, hk.2⟩)⟩, ⟨by (with_reducible repeat (first | apply Kd.R_alloc | apply Kd.R_drewN | apply Kd.R_drew)); exact Kd.R_mono HO259.out (fun _ hk => ⟨hk.1.2, hk.2⟩)⟩, ⟨(upB HB.out)⟩⟩
    case rest =>
      clear HC12
      try clear c6
      try clear c6b0
      try clear c21
      obtain ⟨kq, x52_11, rfl, HA, HJ11, HO_10, HO_12, HO_13, HB⟩ := hcut
      cases kq with
      | zero => exact absurd HA.out (by simp [laws_FnExactUsePermit.j0])
      | succ kj11 =>
        have H := HA.out
        clear HA
        simp only [laws_FnExactUsePermit.j0] at H
        by_cases c28 : x52_11 = true
        · subst c28
          have H1 : (some false) = some r := by rw [if_pos rfl] at H; exact H
          clear H
          have H := H1
          clear H1
          exact absurd (Option.some.inj H) (by rw [hT]; decide)
        · replace c28 := Bool.eq_false_iff.mpr c28
          subst c28
          have H1 : ((laws_toPermitS.f kj11 l0).bind fun t261 => ((laws_eqPermitS.f kj11 t253 t261).bind fun t264 => (if t264 = true then ((laws_markPermitS.f kj11 t253 1).bind fun bt265 => (if bt265.1 < 0 then (laws_FnExactUsePermit.j1 kj11 l0 a1 a2 a3 t249 t250 t256 true) else ((laws_eqPermitS.f kj11 t256 t249).bind fun t267 => (if t267 = true then (laws_FnExactUsePermit.j1 kj11 l0 a1 a2 a3 t249 t250 t256 (t257 != t250)) else (laws_FnExactUsePermit.j1 kj11 l0 a1 a2 a3 t249 t250 t256 true))))) else (some false)))) = some r := by rw [if_neg (show ¬ (false = true) by decide)] at H; exact H
          clear H
          have H := H1
          clear H1
          replace H := Option.bind_eq_some_iff.mp H
          obtain ⟨t261, A290, H⟩ := H
          replace H : ((laws_eqPermitS.f kj11 t253 t261).bind fun t264 => (if t264 = true then ((laws_markPermitS.f kj11 t253 1).bind fun bt265 => (if bt265.1 < 0 then (laws_FnExactUsePermit.j1 kj11 l0 a1 a2 a3 t249 t250 t256 true) else ((laws_eqPermitS.f kj11 t256 t249).bind fun t267 => (if t267 = true then (laws_FnExactUsePermit.j1 kj11 l0 a1 a2 a3 t249 t250 t256 (t257 != t250)) else (laws_FnExactUsePermit.j1 kj11 l0 a1 a2 a3 t249 t250 t256 true))))) else (some false))) = some r := H
          have A29 := Aside0.mk A290
          clear A290
          replace H := Option.bind_eq_some_iff.mp H
          obtain ⟨t264, A300, H⟩ := H
          replace H : (if t264 = true then ((laws_markPermitS.f kj11 t253 1).bind fun bt265 => (if bt265.1 < 0 then (laws_FnExactUsePermit.j1 kj11 l0 a1 a2 a3 t249 t250 t256 true) else ((laws_eqPermitS.f kj11 t256 t249).bind fun t267 => (if t267 = true then (laws_FnExactUsePermit.j1 kj11 l0 a1 a2 a3 t249 t250 t256 (t257 != t250)) else (laws_FnExactUsePermit.j1 kj11 l0 a1 a2 a3 t249 t250 t256 true))))) else (some false)) = some r := H
          have A30 := Aside0.mk A300
          clear A300
          by_cases c31 : t264 = true
          · subst c31
            have H1 : ((laws_markPermitS.f kj11 t253 1).bind fun bt265 => (if bt265.1 < 0 then (laws_FnExactUsePermit.j1 kj11 l0 a1 a2 a3 t249 t250 t256 true) else ((laws_eqPermitS.f kj11 t256 t249).bind fun t267 => (if t267 = true then (laws_FnExactUsePermit.j1 kj11 l0 a1 a2 a3 t249 t250 t256 (t257 != t250)) else (laws_FnExactUsePermit.j1 kj11 l0 a1 a2 a3 t249 t250 t256 true))))) = some r := by rw [if_pos rfl] at H; exact H
            clear H
            have H := H1
            clear H1
            replace H := Option.bind_eq_some_iff.mp H
            obtain ⟨⟨t265, t266⟩, A320, H⟩ := H
            replace H : (if t265 < 0 then (laws_FnExactUsePermit.j1 kj11 l0 a1 a2 a3 t249 t250 t256 true) else ((laws_eqPermitS.f kj11 t256 t249).bind fun t267 => (if t267 = true then (laws_FnExactUsePermit.j1 kj11 l0 a1 a2 a3 t249 t250 t256 (t257 != t250)) else (laws_FnExactUsePermit.j1 kj11 l0 a1 a2 a3 t249 t250 t256 true)))) = some r := H
            have A32 := Aside0.mk A320
            clear A320
            have HC33 := Aside0.mk H
            clear H
            go_upto_region 14 with (first | ((with_reducible refine gate_callee (f := 20) rfl ?_); refine goesL_ (some 55) rfl rfl Tryd.func20 (by kernel_rfl) rfl #[.slice A0 l0.length c0] rfl argsB ?_; (with_reducible refine (laws_toPermitS.calls kj11 _ _ l0 t261 _ ?side1 ?side2 A29.out).mono ?_); (case side1 => repeat (first | exact (Kd.C_below HR0.out HB.out) | (with_reducible refine Kd.C_alloc ?_ _) | (with_reducible refine Kd.C_drewN ?_ _) | (with_reducible refine Kd.C_drew ?_))); (case side2 => exact HC0.out); rintro e w34 ⟨v262, rfl, ho0, hb⟩; refine ⟨_, rfl, ?_⟩; have n0_ := Aside0.mk (Kd.R_elder' (upR HO_10.out) (Kd.R_base ho0) hb); have n1_ := Aside0.mk (Kd.R_elder' (upR HO_12.out) (Kd.R_base ho0) hb); have n2_ := Aside0.mk (Kd.R_elder' (upR HO_13.out) (Kd.R_base ho0) hb); have n3_ := Aside0.mk (Kd.R_lower (Kd.R_new' (Kd.R_new' (Kd.R_new' ho0 (Kd.R_lt (upR HO_10.out))) (Kd.R_lt (upR HO_12.out))) (Kd.R_lt (upR HO_13.out))) (below_size (upB HB.out))); have n4_ := Aside0.mk (below_step (upB HB.out) hb); clear HO_10; clear HO_12; clear HO_13; clear HB; have HO_10 := n0_; have HO_12 := n1_; have HO_13 := n2_; have HO263 := n3_; have HB := n4_; clear n0_ n1_ n2_ n3_ n4_; (try clear hb); (try clear hk); (try clear ho0); obtain ⟨Ao35, co35, eo35⟩ := Kd.R_slice HO263.out; subst eo35) | ((with_reducible refine gate_callee (f := 22) rfl ?_); refine goesL_ (some 56) rfl rfl Tryd.func22 (by kernel_rfl) rfl #[.slice Ao18 t253.length co18, .slice Ao35 t261.length co35] rfl argsB ?_; (with_reducible refine (laws_eqPermitS.calls kj11 _ _ t253 _ _ t261 true _ ?side1 ?side2 ?side3 ?side4 A30.out).mono ?_); (case side1 => repeat (first | exact (Kd.R_reads' HO_12.out).2.2 | (with_reducible refine Kd.C_alloc ?_ _) | (with_reducible refine Kd.C_drewN ?_ _) | (with_reducible refine Kd.C_drew ?_))); (case side2 => exact (Kd.R_reads' HO_12.out).2.1); (case side3 => repeat (first | exact (Kd.R_reads' HO263.out).2.2 | (with_reducible refine Kd.C_alloc ?_ _) | (with_reducible refine Kd.C_drewN ?_ _) | (with_reducible refine Kd.C_drew ?_))); (case side4 => exact (Kd.R_reads' HO263.out).2.1); rintro e w36 ⟨rfl, hb⟩; refine ⟨_, rfl, ?_⟩; have n0_ := Aside0.mk (Kd.R_below (upR HO_10.out) hb); have n1_ := Aside0.mk (Kd.R_below (upR HO_12.out) hb); have n2_ := Aside0.mk (Kd.R_below (upR HO_13.out) hb); have n3_ := Aside0.mk (Kd.R_below (upR HO263.out) hb); have n4_ := Aside0.mk (below_step (upB HB.out) hb); clear HO_10; clear HO_12; clear HO_13; clear HO263; clear HB; have HO_10 := n0_; have HO_12 := n1_; have HO_13 := n2_; have HO263 := n3_; have HB := n4_; clear n0_ n1_ n2_ n3_ n4_; (try clear hb); (try clear hk)) | ((with_reducible refine gate_callee (f := 29) rfl ?_); refine goesL_ (some 60) rfl rfl Tryd.func29 (by kernel_rfl) rfl #[.slice Ao18 t253.length co18, .int .i64 1] rfl argsB ?_; (with_reducible refine (laws_markPermitS.calls kj11 (fun k_ => some k_ = (.slice Ao18 t253.length co18 : Value).ownBlock) (.slice Ao18 t253.length co18) t253 1 t265 t266 w _ ?side1 ?side2 A32.out).mono ?_); (case side1 => repeat (first | (with_reducible first | exact HB.out | apply below_alloc | apply pw_below_drewN | apply below_drew1) | exact HB.out)); (case side2 => exact Kd.R_tight rfl HO_12.out); rintro e w37 ⟨rfl, hy0, hb, hkp⟩; refine ⟨_, rfl, ?_⟩; have n0_ := Aside0.mk (Kd.R_mono (ok' := fun k_ => some k_ ≠ (.slice Ao18 t253.length co18 : Value).ownBlock ∧ some k_ ≠ (v258 : Value).ownBlock ∧ some k_ ≠ (.slice Ao35 t261.length co35 : Value).ownBlock) (Kd.R_keptB (HO_10.out) hkp (fun k_ hk_ hs_ => (hk_.1.1) hs_)) (fun k_ hk_ => ⟨hk_.1.1.1, hk_.1.1.2, hk_.1.2⟩)); have n1_ := Aside0.mk (Kd.R_reok rfl hy0 (fun k_ e_ => HO_12.out.1 k_ e_)); have n2_ := Aside0.mk (Kd.R_mono (ok' := fun k_ => some k_ ≠ (v251 : Value).ownBlock ∧ some k_ ≠ (.slice Ao18 t253.length co18 : Value).ownBlock ∧ some k_ ≠ (.slice Ao35 t261.length co35 : Value).ownBlock) (Kd.R_keptB (HO_13.out) hkp (fun k_ hk_ hs_ => (hk_.1.2) hs_)) (fun k_ hk_ => ⟨hk_.1.1.1, hk_.1.1.2, hk_.1.2⟩)); have n3_ := Aside0.mk (Kd.R_mono (ok' := fun k_ => some k_ ≠ (v251 : Value).ownBlock ∧ some k_ ≠ (.slice Ao18 t253.length co18 : Value).ownBlock ∧ some k_ ≠ (v258 : Value).ownBlock) (Kd.R_keptB (HO263.out) hkp (fun k_ hk_ hs_ => (hk_.1.2) hs_)) (fun k_ hk_ => ⟨hk_.1.1.1.2, hk_.1.1.2, hk_.1.2⟩)); have n4_ := Aside0.mk (hb); clear HO_10; clear HO_12; clear HO_13; clear HO263; clear HB; have HO_10 := n0_; have HO_12 := n1_; have HO_13 := n2_; have HO263 := n3_; have HB := n4_; clear n0_ n1_ n2_ n3_ n4_; (try clear hb); (try clear hkp); (try clear hy0)))
            (try simp only [Act.put, List.setIfInBounds_toArray, List.set_cons_zero, List.set_cons_succ])
            go_cut [73] (fun v73 wc => ∃ (kq : Nat) (x73_32 : Bool), v73 = .bool x73_32 ∧ Aside0 (laws_FnExactUsePermit.j1 kq l0 a1 a2 a3 t249 t250 t256 x73_32 = some r) ∧ Aside0 (kq ≤ kj11) ∧ Aside0 (Kd.R k26 26 wc w.heap.size (fun k_ => some k_ ≠ (v258 : Value).ownBlock) v251 t249) ∧ Aside0 (Kd.R k26 26 wc w.heap.size (fun k_ => some k_ ≠ (v251 : Value).ownBlock) v258 t256) ∧ Aside0 (Below w.heap.size w wc))
            case first =>
              have H := HC33.out
              clear HC33
              by_cases c38 : t265 < 0
              · rw [if_pos c38] at H
                have c38b0 : decide (t265 < 0) = true := decide_eq_true c38
                clear c38
                (first | rw [c38b0] | (simp only [i64_w, i32_w]; rw [c38b0]) | skip)
                have H' := Aside0.mk H
                clear H
                go_wp2
                go_meet
                case rel => exact ⟨_, (true), (by first | rfl | (simp; done) | (simp [*]; done)), H', ⟨by have := HJ11.out; first | omega | exact Nat.le_refl _⟩, ⟨by (with_reducible repeat (first | apply Kd.R_alloc | apply Kd.R_drewN | apply Kd.R_drew)); exact Kd.R_mono HO_10.out (fun _ hk => hk.2.1)⟩, ⟨by (with_reducible repeat (first | apply Kd.R_alloc | apply Kd.R_drewN | apply Kd.R_drew)); exact Kd.R_mono HO_13.out (fun _ hk => hk.1)⟩, ⟨(upB HB.out)⟩⟩
              · rw [if_neg c38] at H
                have c38b0 : decide (t265 < 0) = false := decide_eq_false c38
                clear c38
                (first | rw [c38b0] | (simp only [i64_w, i32_w]; rw [c38b0]) | skip)
                replace H := Option.bind_eq_some_iff.mp H
                obtain ⟨t267, A390, H⟩ := H
                replace H : (if t267 = true then (laws_FnExactUsePermit.j1 kj11 l0 a1 a2 a3 t249 t250 t256 (t257 != t250)) else (laws_FnExactUsePermit.j1 kj11 l0 a1 a2 a3 t249 t250 t256 true)) = some r := H
                have A39 := Aside0.mk A390
                clear A390
                by_cases c40 : t267 = true
                · subst c40
                  have H1 : (laws_FnExactUsePermit.j1 kj11 l0 a1 a2 a3 t249 t250 t256 (t257 != t250)) = some r := by rw [if_pos rfl] at H; exact H
                  clear H
                  have H := H1
                  clear H1
                  have H' := Aside0.mk H
                  clear H
                  obtain ⟨Ao41, co41, eo41⟩ := Kd.R_slice HO_13.out
                  subst eo41
                  obtain ⟨Ao42, co42, eo42⟩ := Kd.R_slice HO_10.out
                  subst eo42
                  go_wp2_with (first | (go_at_call 22; (with_reducible refine (laws_eqPermitS.calls kj11 _ _ t256 _ _ t249 true _ ?side1 ?side2 ?side3 ?side4 A39.out).mono ?_); (case side1 => repeat (first | exact (Kd.R_reads' HO_13.out).2.2 | (with_reducible refine Kd.C_alloc ?_ _) | (with_reducible refine Kd.C_drewN ?_ _) | (with_reducible refine Kd.C_drew ?_))); (case side2 => exact (Kd.R_reads' HO_13.out).2.1); (case side3 => repeat (first | exact (Kd.R_reads' HO_10.out).2.2 | (with_reducible refine Kd.C_alloc ?_ _) | (with_reducible refine Kd.C_drewN ?_ _) | (with_reducible refine Kd.C_drew ?_))); (case side4 => exact (Kd.R_reads' HO_10.out).2.1); rintro e w43 ⟨rfl, hb⟩; have n0_ := Aside0.mk (Kd.R_below (upR HO_10.out) hb); have n1_ := Aside0.mk (Kd.R_below (upR HO_12.out) hb); have n2_ := Aside0.mk (Kd.R_below (upR HO_13.out) hb); have n3_ := Aside0.mk (Kd.R_below (upR HO263.out) hb); have n4_ := Aside0.mk (below_step (upB HB.out) hb); clear HO_10; clear HO_12; clear HO_13; clear HO263; clear HB; have HO_10 := n0_; have HO_12 := n1_; have HO_13 := n2_; have HO263 := n3_; have HB := n4_; clear n0_ n1_ n2_ n3_ n4_; (try clear hb); (try clear hk)))
                  go_meet
                  case rel => exact ⟨_, ((t257 != t250)), (by first | rfl | (simp; done) | (simp [*]; done)), H', ⟨by have := HJ11.out; first | omega | exact Nat.le_refl _⟩, ⟨by (with_reducible repeat (first | apply Kd.R_alloc | apply Kd.R_drewN | apply Kd.R_drew)); exact Kd.R_mono HO_10.out (fun _ hk => hk.2.1)⟩, ⟨by (with_reducible repeat (first | apply Kd.R_alloc | apply Kd.R_drewN | apply Kd.R_drew)); exact Kd.R_mono HO_13.out (fun _ hk => hk.1)⟩, ⟨(upB HB.out)⟩⟩
                · replace c40 := Bool.eq_false_iff.mpr c40
                  subst c40
                  have H1 : (laws_FnExactUsePermit.j1 kj11 l0 a1 a2 a3 t249 t250 t256 true) = some r := by rw [if_neg (show ¬ (false = true) by decide)] at H; exact H
                  clear H
                  have H := H1
                  clear H1
                  have H' := Aside0.mk H
                  clear H
                  obtain ⟨Ao44, co44, eo44⟩ := Kd.R_slice HO_13.out
                  subst eo44
                  obtain ⟨Ao45, co45, eo45⟩ := Kd.R_slice HO_10.out
                  subst eo45
                  go_wp2_with (first | (go_at_call 22; (with_reducible refine (laws_eqPermitS.calls kj11 _ _ t256 _ _ t249 false _ ?side1 ?side2 ?side3 ?side4 A39.out).mono ?_); (case side1 => repeat (first | exact (Kd.R_reads' HO_13.out).2.2 | (with_reducible refine Kd.C_alloc ?_ _) | (with_reducible refine Kd.C_drewN ?_ _) | (with_reducible refine Kd.C_drew ?_))); (case side2 => exact (Kd.R_reads' HO_13.out).2.1); (case side3 => repeat (first | exact (Kd.R_reads' HO_10.out).2.2 | (with_reducible refine Kd.C_alloc ?_ _) | (with_reducible refine Kd.C_drewN ?_ _) | (with_reducible refine Kd.C_drew ?_))); (case side4 => exact (Kd.R_reads' HO_10.out).2.1); rintro e w46 ⟨rfl, hb⟩; have n0_ := Aside0.mk (Kd.R_below (upR HO_10.out) hb); have n1_ := Aside0.mk (Kd.R_below (upR HO_12.out) hb); have n2_ := Aside0.mk (Kd.R_below (upR HO_13.out) hb); have n3_ := Aside0.mk (Kd.R_below (upR HO263.out) hb); have n4_ := Aside0.mk (below_step (upB HB.out) hb); clear HO_10; clear HO_12; clear HO_13; clear HO263; clear HB; have HO_10 := n0_; have HO_12 := n1_; have HO_13 := n2_; have HO263 := n3_; have HB := n4_; clear n0_ n1_ n2_ n3_ n4_; (try clear hb); (try clear hk)))
                  go_meet
                  case rel => exact ⟨_, (true), (by first | rfl | (simp; done) | (simp [*]; done)), H', ⟨by have := HJ11.out; first | omega | exact Nat.le_refl _⟩, ⟨by (with_reducible repeat (first | apply Kd.R_alloc | apply Kd.R_drewN | apply Kd.R_drew)); exact Kd.R_mono HO_10.out (fun _ hk => hk.2.1)⟩, ⟨by (with_reducible repeat (first | apply Kd.R_alloc | apply Kd.R_drewN | apply Kd.R_drew)); exact Kd.R_mono HO_13.out (fun _ hk => hk.1)⟩, ⟨(upB HB.out)⟩⟩
            case rest =>
              clear HC33
              try clear c6
              try clear c6b0
              try clear c21
              try clear c28
              try clear c31
              try clear c38
              try clear c38b0
              try clear c40
              obtain ⟨kq, x73_32, rfl, HA, HJ32, HO_10, HO_13, HB⟩ := hcut
              cases kq with
              | zero => exact absurd HA.out (by simp [laws_FnExactUsePermit.j1])
              | succ kj32 =>
                have H := HA.out
                clear HA
                simp only [laws_FnExactUsePermit.j1] at H
                by_cases c47 : x73_32 = true
                · subst c47
                  have H1 : (some false) = some r := by rw [if_pos rfl] at H; exact H
                  clear H
                  have H := H1
                  clear H1
                  exact absurd (Option.some.inj H) (by rw [hT]; decide)
                · replace c47 := Bool.eq_false_iff.mpr c47
                  subst c47
                  have H1 : ((laws_markPermitS.f kj32 t256 1).bind fun bt268 => ((laws_heldPermitS.f kj32 bt268.2 1).bind fun t270 => (if t270 < 0 then (some false) else (if t270 = bt268.1 then ((laws_toPermitS.f kj32 l0).bind fun t271 => ((impl_UsePermit.f kj32 t271 a1 a2 a3).bind fun bt274 => ((laws_eqPermitS.f kj32 bt274.1 t249).bind fun t278 => (if t278 = true then (laws_FnExactUsePermit.j2 kj32 bt268.2 bt268.1 (bt274.2 != t250)) else (laws_FnExactUsePermit.j2 kj32 bt268.2 bt268.1 true))))) else (some false))))) = some r := by rw [if_neg (show ¬ (false = true) by decide)] at H; exact H
                  clear H
                  have H := H1
                  clear H1
                  replace H := Option.bind_eq_some_iff.mp H
                  obtain ⟨⟨t268, t269⟩, A480, H⟩ := H
                  replace H : ((laws_heldPermitS.f kj32 t269 1).bind fun t270 => (if t270 < 0 then (some false) else (if t270 = t268 then ((laws_toPermitS.f kj32 l0).bind fun t271 => ((impl_UsePermit.f kj32 t271 a1 a2 a3).bind fun bt274 => ((laws_eqPermitS.f kj32 bt274.1 t249).bind fun t278 => (if t278 = true then (laws_FnExactUsePermit.j2 kj32 t269 t268 (bt274.2 != t250)) else (laws_FnExactUsePermit.j2 kj32 t269 t268 true))))) else (some false)))) = some r := H
                  have A48 := Aside0.mk A480
                  clear A480
                  replace H := Option.bind_eq_some_iff.mp H
                  obtain ⟨t270, A490, H⟩ := H
                  replace H : (if t270 < 0 then (some false) else (if t270 = t268 then ((laws_toPermitS.f kj32 l0).bind fun t271 => ((impl_UsePermit.f kj32 t271 a1 a2 a3).bind fun bt274 => ((laws_eqPermitS.f kj32 bt274.1 t249).bind fun t278 => (if t278 = true then (laws_FnExactUsePermit.j2 kj32 t269 t268 (bt274.2 != t250)) else (laws_FnExactUsePermit.j2 kj32 t269 t268 true))))) else (some false))) = some r := H
                  have A49 := Aside0.mk A490
                  clear A490
                  by_cases c50 : t270 < 0
                  · rw [if_pos c50] at H
                    have c50b0 : decide (t270 < 0) = true := decide_eq_true c50
                    clear c50
                    exact absurd (Option.some.inj H) (by rw [hT]; decide)
                  · rw [if_neg c50] at H
                    have c50b0 : decide (t270 < 0) = false := decide_eq_false c50
                    clear c50
                    by_cases c54 : t270 = t268
                    · rw [if_pos c54] at H
                      have c54b0 : (t270 == t268) = true := beq_iff_eq.mpr c54
                      have c54b1 : (t270 != t268) = false := bne_eq_false_iff_eq.mpr c54
                      clear c54
                      replace H := Option.bind_eq_some_iff.mp H
                      obtain ⟨t271, A550, H⟩ := H
                      replace H : ((impl_UsePermit.f kj32 t271 a1 a2 a3).bind fun bt274 => ((laws_eqPermitS.f kj32 bt274.1 t249).bind fun t278 => (if t278 = true then (laws_FnExactUsePermit.j2 kj32 t269 t268 (bt274.2 != t250)) else (laws_FnExactUsePermit.j2 kj32 t269 t268 true)))) = some r := H
                      have A55 := Aside0.mk A550
                      clear A550
                      replace H := Option.bind_eq_some_iff.mp H
                      obtain ⟨⟨t274, t275⟩, A560, H⟩ := H
                      replace H : ((laws_eqPermitS.f kj32 t274 t249).bind fun t278 => (if t278 = true then (laws_FnExactUsePermit.j2 kj32 t269 t268 (t275 != t250)) else (laws_FnExactUsePermit.j2 kj32 t269 t268 true))) = some r := H
                      have A56 := Aside0.mk A560
                      clear A560
                      have HC57 := Aside0.mk H
                      clear H
                      obtain ⟨Ao58, co58, eo58⟩ := Kd.R_slice HO_13.out
                      subst eo58
                      go_upto_region 25 with (first | ((with_reducible refine gate_callee (f := 29) rfl ?_); refine goesL_ (some 76) rfl rfl Tryd.func29 (by kernel_rfl) rfl #[.slice Ao58 t256.length co58, .int .i64 1] rfl argsB ?_; (with_reducible refine (laws_markPermitS.calls kj32 (fun k_ => some k_ = (.slice Ao58 t256.length co58 : Value).ownBlock) (.slice Ao58 t256.length co58) t256 1 t268 t269 w _ ?side1 ?side2 A48.out).mono ?_); (case side1 => repeat (first | (with_reducible first | exact HB.out | apply below_alloc | apply pw_below_drewN | apply below_drew1) | exact HB.out)); (case side2 => exact Kd.R_tight rfl HO_13.out); rintro e w59 ⟨rfl, hy0, hb, hkp⟩; refine ⟨_, rfl, ?_⟩; have n0_ := Aside0.mk (Kd.R_mono (ok' := fun k_ => some k_ ≠ (.slice Ao58 t256.length co58 : Value).ownBlock) (Kd.R_keptB (HO_10.out) hkp (fun k_ hk_ hs_ => (hk_) hs_)) (fun k_ hk_ => hk_.1)); have n1_ := Aside0.mk (Kd.R_reok rfl hy0 (fun k_ e_ => HO_13.out.1 k_ e_)); have n2_ := Aside0.mk (hb); clear HO_10; clear HO_13; clear HB; have HO_10 := n0_; have HO_13 := n1_; have HB := n2_; clear n0_ n1_ n2_; (try clear hb); (try clear hkp); (try clear hy0)) | ((with_reducible refine gate_callee (f := 30) rfl ?_); refine goesL_ (some 79) rfl rfl Tryd.func30 (by kernel_rfl) rfl #[.slice Ao58 t269.length co58, .int .i64 1] rfl (by (try simp only [List.map_toArray, List.map_cons, List.map_nil]); first | done | (rw [show t269.length = t256.length from (Kd.R_reads' HO_13.out).1.symm] <;> rfl) | rfl | (simp only [List.length_drop, List.length_take]; rfl)) ?_; (with_reducible refine (laws_heldPermitS.calls kj32 _ _ t269 1 t270 _ ?side1 ?side2 A49.out).mono ?_); (case side1 => repeat (first | exact (Kd.R_reads' HO_13.out).2.2 | (with_reducible refine Kd.C_alloc ?_ _) | (with_reducible refine Kd.C_drewN ?_ _) | (with_reducible refine Kd.C_drew ?_))); (case side2 => rw [show t269.length = t256.length from (Kd.R_reads' HO_13.out).1.symm]; exact (Kd.R_reads' HO_13.out).2.1); rintro e w60 ⟨rfl, hb⟩; refine ⟨_, rfl, ?_⟩; have n0_ := Aside0.mk (Kd.R_below (upR HO_10.out) hb); have n1_ := Aside0.mk (Kd.R_below (upR HO_13.out) hb); have n2_ := Aside0.mk (below_step (upB HB.out) hb); clear HO_10; clear HO_13; clear HB; have HO_10 := n0_; have HO_13 := n1_; have HB := n2_; clear n0_ n1_ n2_; (try clear hb); (try clear hk)) | ((with_reducible refine gate_callee (f := 20) rfl ?_); refine goesL_ (some 87) rfl rfl Tryd.func20 (by kernel_rfl) rfl #[.slice A0 l0.length c0] rfl argsB ?_; (with_reducible refine (laws_toPermitS.calls kj32 _ _ l0 t271 _ ?side1 ?side2 A55.out).mono ?_); (case side1 => repeat (first | exact (Kd.C_below HR0.out HB.out) | (with_reducible refine Kd.C_alloc ?_ _) | (with_reducible refine Kd.C_drewN ?_ _) | (with_reducible refine Kd.C_drew ?_))); (case side2 => exact HC0.out); rintro e w61 ⟨v272, rfl, ho0, hb⟩; refine ⟨_, rfl, ?_⟩; have n0_ := Aside0.mk (Kd.R_elder' (upR HO_10.out) (Kd.R_base ho0) hb); have n1_ := Aside0.mk (Kd.R_elder' (upR HO_13.out) (Kd.R_base ho0) hb); have n2_ := Aside0.mk (Kd.R_lower (Kd.R_new' (Kd.R_new' ho0 (Kd.R_lt (upR HO_10.out))) (Kd.R_lt (upR HO_13.out))) (below_size (upB HB.out))); have n3_ := Aside0.mk (below_step (upB HB.out) hb); clear HO_10; clear HO_13; clear HB; have HO_10 := n0_; have HO_13 := n1_; have HO273 := n2_; have HB := n3_; clear n0_ n1_ n2_ n3_; (try clear hb); (try clear hk); (try clear ho0); obtain ⟨Ao62, co62, eo62⟩ := Kd.R_slice HO273.out; subst eo62) | ((with_reducible refine gate_callee (f := 34) rfl ?_); refine goesL_ (some 91) rfl rfl Tryd.func34 (by kernel_rfl) rfl #[.slice Ao62 t271.length co62, .int .i64 a1, .int .i64 a2, .int .i64 a3] rfl argsB ?_; (with_reducible refine (impl_UsePermit.calls kj32 _ _ t271 a1 a2 a3 t274 t275 _ ?side1 ?side2 A56.out).mono ?_); (case side1 => repeat (first | exact (Kd.R_reads' HO273.out).2.2 | (with_reducible refine Kd.C_alloc ?_ _) | (with_reducible refine Kd.C_drewN ?_ _) | (with_reducible refine Kd.C_drew ?_))); (case side2 => exact (Kd.R_reads' HO273.out).2.1); rintro e w63 ⟨v276, rfl, ho0, hb⟩; refine ⟨_, rfl, ?_⟩; have n0_ := Aside0.mk (Kd.R_elder' (upR HO_10.out) (Kd.R_base ho0) hb); have n1_ := Aside0.mk (Kd.R_elder' (upR HO_13.out) (Kd.R_base ho0) hb); have n2_ := Aside0.mk (Kd.R_elder' (upR HO273.out) (Kd.R_base ho0) hb); have n3_ := Aside0.mk (Kd.R_lower (Kd.R_new' (Kd.R_new' (Kd.R_new' ho0 (Kd.R_lt (upR HO_10.out))) (Kd.R_lt (upR HO_13.out))) (Kd.R_lt (upR HO273.out))) (below_size (upB HB.out))); have n4_ := Aside0.mk (below_step (upB HB.out) hb); clear HO_10; clear HO_13; clear HO273; clear HB; have HO_10 := n0_; have HO_13 := n1_; have HO273 := n2_; have HO277 := n3_; have HB := n4_; clear n0_ n1_ n2_ n3_ n4_; (try clear hb); (try clear hk); (try clear ho0)))
                      (try simp only [Act.put, List.setIfInBounds_toArray, List.set_cons_zero, List.set_cons_succ])
                      go_cut [102] (fun v102 wc => ∃ (kq : Nat) (x102_56 : Bool), v102 = .bool x102_56 ∧ Aside0 (laws_FnExactUsePermit.j2 kq t269 t268 x102_56 = some r) ∧ Aside0 (kq ≤ kj32) ∧ Aside0 (Kd.R k26 26 wc w.heap.size (fun _ => True) (.slice Ao58 t256.length co58) t269) ∧ Aside0 (Below w.heap.size w wc))
                      case first =>
                        have H := HC57.out
                        clear HC57
                        replace H := Option.bind_eq_some_iff.mp H
                        obtain ⟨t278, A640, H⟩ := H
                        replace H : (if t278 = true then (laws_FnExactUsePermit.j2 kj32 t269 t268 (t275 != t250)) else (laws_FnExactUsePermit.j2 kj32 t269 t268 true)) = some r := H
                        have A64 := Aside0.mk A640
                        clear A640
                        by_cases c65 : t278 = true
                        · subst c65
                          have H1 : (laws_FnExactUsePermit.j2 kj32 t269 t268 (t275 != t250)) = some r := by rw [if_pos rfl] at H; exact H
                          clear H
                          have H := H1
                          clear H1
                          have H' := Aside0.mk H
                          clear H
                          obtain ⟨Ao66, co66, eo66⟩ := Kd.R_slice HO277.out
                          subst eo66
                          obtain ⟨Ao67, co67, eo67⟩ := Kd.R_slice HO_10.out
                          subst eo67
                          go_wp2_with (first | ((with_reducible refine gate_callee (f := 22) rfl ?_); refine goesL_ (some 96) rfl rfl Tryd.func22 (by kernel_rfl) rfl #[.slice Ao66 t274.length co66, .slice Ao67 t249.length co67] rfl argsB ?_; (with_reducible refine (laws_eqPermitS.calls kj32 _ _ t274 _ _ t249 true _ ?side1 ?side2 ?side3 ?side4 A64.out).mono ?_); (case side1 => repeat (first | exact (Kd.R_reads' HO277.out).2.2 | (with_reducible refine Kd.C_alloc ?_ _) | (with_reducible refine Kd.C_drewN ?_ _) | (with_reducible refine Kd.C_drew ?_))); (case side2 => exact (Kd.R_reads' HO277.out).2.1); (case side3 => repeat (first | exact (Kd.R_reads' HO_10.out).2.2 | (with_reducible refine Kd.C_alloc ?_ _) | (with_reducible refine Kd.C_drewN ?_ _) | (with_reducible refine Kd.C_drew ?_))); (case side4 => exact (Kd.R_reads' HO_10.out).2.1); rintro e w68 ⟨rfl, hb⟩; refine ⟨_, rfl, ?_⟩; have n0_ := Aside0.mk (Kd.R_below (upR HO_10.out) hb); have n1_ := Aside0.mk (Kd.R_below (upR HO_13.out) hb); have n2_ := Aside0.mk (Kd.R_below (upR HO273.out) hb); have n3_ := Aside0.mk (Kd.R_below (upR HO277.out) hb); have n4_ := Aside0.mk (below_step (upB HB.out) hb); clear HO_10; clear HO_13; clear HO273; clear HO277; clear HB; have HO_10 := n0_; have HO_13 := n1_; have HO273 := n2_; have HO277 := n3_; have HB := n4_; clear n0_ n1_ n2_ n3_ n4_; (try clear hb); (try clear hk)))
                          go_meet
                          case rel => exact ⟨_, ((t275 != t250)), (by first | rfl | (simp; done) | (simp [*]; done)), H', ⟨by have := HJ11.out; have := HJ32.out; first | omega | exact Nat.le_refl _⟩, ⟨by (with_reducible repeat (first | apply Kd.R_alloc | apply Kd.R_drewN | apply Kd.R_drew)); exact Kd.R_mono HO_13.out (fun _ hk => trivial)⟩, ⟨(upB HB.out)⟩⟩
                        · replace c65 := Bool.eq_false_iff.mpr c65
                          subst c65
                          have H1 : (laws_FnExactUsePermit.j2 kj32 t269 t268 true) = some r := by rw [if_neg (show ¬ (false = true) by decide)] at H; exact H
                          clear H
                          have H := H1
                          clear H1
                          have H' := Aside0.mk H
                          clear H
                          obtain ⟨Ao69, co69, eo69⟩ := Kd.R_slice HO277.out
                          subst eo69
                          obtain ⟨Ao70, co70, eo70⟩ := Kd.R_slice HO_10.out
                          subst eo70
                          go_wp2_with (first | ((with_reducible refine gate_callee (f := 22) rfl ?_); refine goesL_ (some 96) rfl rfl Tryd.func22 (by kernel_rfl) rfl #[.slice Ao69 t274.length co69, .slice Ao70 t249.length co70] rfl argsB ?_; (with_reducible refine (laws_eqPermitS.calls kj32 _ _ t274 _ _ t249 false _ ?side1 ?side2 ?side3 ?side4 A64.out).mono ?_); (case side1 => repeat (first | exact (Kd.R_reads' HO277.out).2.2 | (with_reducible refine Kd.C_alloc ?_ _) | (with_reducible refine Kd.C_drewN ?_ _) | (with_reducible refine Kd.C_drew ?_))); (case side2 => exact (Kd.R_reads' HO277.out).2.1); (case side3 => repeat (first | exact (Kd.R_reads' HO_10.out).2.2 | (with_reducible refine Kd.C_alloc ?_ _) | (with_reducible refine Kd.C_drewN ?_ _) | (with_reducible refine Kd.C_drew ?_))); (case side4 => exact (Kd.R_reads' HO_10.out).2.1); rintro e w71 ⟨rfl, hb⟩; refine ⟨_, rfl, ?_⟩; have n0_ := Aside0.mk (Kd.R_below (upR HO_10.out) hb); have n1_ := Aside0.mk (Kd.R_below (upR HO_13.out) hb); have n2_ := Aside0.mk (Kd.R_below (upR HO273.out) hb); have n3_ := Aside0.mk (Kd.R_below (upR HO277.out) hb); have n4_ := Aside0.mk (below_step (upB HB.out) hb); clear HO_10; clear HO_13; clear HO273; clear HO277; clear HB; have HO_10 := n0_; have HO_13 := n1_; have HO273 := n2_; have HO277 := n3_; have HB := n4_; clear n0_ n1_ n2_ n3_ n4_; (try clear hb); (try clear hk)))
                          go_meet
                          case rel => exact ⟨_, (true), (by first | rfl | (simp; done) | (simp [*]; done)), H', ⟨by have := HJ11.out; have := HJ32.out; first | omega | exact Nat.le_refl _⟩, ⟨by (with_reducible repeat (first | apply Kd.R_alloc | apply Kd.R_drewN | apply Kd.R_drew)); exact Kd.R_mono HO_13.out (fun _ hk => trivial)⟩, ⟨(upB HB.out)⟩⟩
                      case rest =>
                        clear HC57
                        try clear c6
                        try clear c6b0
                        try clear c21
                        try clear c28
                        try clear c31
                        try clear c38
                        try clear c38b0
                        try clear c40
                        try clear c47
                        try clear c50
                        try clear c50b0
                        try clear c54
                        try clear c54b0
                        try clear c54b1
                        try clear c65
                        obtain ⟨kq, x102_56, rfl, HA, HJ56, HO_13, HB⟩ := hcut
                        have hl13_56 := (Kd.R_reads' HO_13.out).1
                        rw [hl13_56] at HO_13
                        (try simp only [hl13_56])
                        cases kq with
                        | zero => exact absurd HA.out (by simp [laws_FnExactUsePermit.j2])
                        | succ kj56 =>
                          have H := HA.out
                          clear HA
                          simp only [laws_FnExactUsePermit.j2] at H
                          by_cases c72 : x102_56 = true
                          · subst c72
                            have H1 : (some false) = some r := by rw [if_pos rfl] at H; exact H
                            clear H
                            have H := H1
                            clear H1
                            exact absurd (Option.some.inj H) (by rw [hT]; decide)
                          · replace c72 := Bool.eq_false_iff.mpr c72
                            subst c72
                            have H1 : ((laws_heldPermitS.f kj56 t269 1).bind fun t279 => (if t279 < 0 then (some false) else (if t279 = t268 then (some true) else (some false)))) = some r := by rw [if_neg (show ¬ (false = true) by decide)] at H; exact H
                            clear H
                            have H := H1
                            clear H1
                            replace H := Option.bind_eq_some_iff.mp H
                            obtain ⟨t279, A730, H⟩ := H
                            replace H : (if t279 < 0 then (some false) else (if t279 = t268 then (some true) else (some false))) = some r := H
                            have A73 := Aside0.mk A730
                            clear A730
                            by_cases c74 : t279 < 0
                            · rw [if_pos c74] at H
                              have c74b0 : decide (t279 < 0) = true := decide_eq_true c74
                              clear c74
                              exact absurd (Option.some.inj H) (by rw [hT]; decide)
                            · rw [if_neg c74] at H
                              have c74b0 : decide (t279 < 0) = false := decide_eq_false c74
                              clear c74
                              by_cases c76 : t279 = t268
                              · rw [if_pos c76] at H
                                have c76b0 : (t279 == t268) = true := beq_iff_eq.mpr c76
                                have c76b1 : (t279 != t268) = false := bne_eq_false_iff_eq.mpr c76
                                clear c76
                                obtain rfl := (Option.some.inj H)
                                go_wp2_with (first | ((with_reducible refine gate_callee (f := 30) rfl ?_); refine goesL_ (some 105) rfl rfl Tryd.func30 (by kernel_rfl) rfl #[.slice Ao58 t269.length co58, .int .i64 1] rfl argsB ?_; (with_reducible refine (laws_heldPermitS.calls kj56 _ _ t269 1 t279 _ ?side1 ?side2 A73.out).mono ?_); (case side1 => repeat (first | exact (Kd.R_reads' HO_13.out).2.2 | (with_reducible refine Kd.C_alloc ?_ _) | (with_reducible refine Kd.C_drewN ?_ _) | (with_reducible refine Kd.C_drew ?_))); (case side2 => exact (Kd.R_reads' HO_13.out).2.1); rintro e w77 ⟨rfl, hb⟩; refine ⟨_, rfl, ?_⟩; have n0_ := Aside0.mk (Kd.R_below (upR HO_13.out) hb); have n1_ := Aside0.mk (below_step (upB HB.out) hb); clear HO_13; clear HB; have HO_13 := n0_; have HB := n1_; clear n0_ n1_; (try clear hb); (try clear hk)))
                                go_ret
                                exact ⟨by first | rfl | (simp [errW_none, errW_some] <;> rfl) | (simp [*, errW_none, errW_some] <;> rfl), (upB HB.out)⟩
                              · rw [if_neg c76] at H
                                have c76b0 : (t279 == t268) = false := beq_eq_false_iff_ne.mpr c76
                                have c76b1 : (t279 != t268) = true := bne_iff_ne.mpr c76
                                obtain rfl := (Option.some.inj H)
                                go_wp2_with (first | ((with_reducible refine gate_callee (f := 30) rfl ?_); refine goesL_ (some 105) rfl rfl Tryd.func30 (by kernel_rfl) rfl #[.slice Ao58 t269.length co58, .int .i64 1] rfl argsB ?_; (with_reducible refine (laws_heldPermitS.calls kj56 _ _ t269 1 t279 _ ?side1 ?side2 A73.out).mono ?_); (case side1 => repeat (first | exact (Kd.R_reads' HO_13.out).2.2 | (with_reducible refine Kd.C_alloc ?_ _) | (with_reducible refine Kd.C_drewN ?_ _) | (with_reducible refine Kd.C_drew ?_))); (case side2 => exact (Kd.R_reads' HO_13.out).2.1); rintro e w78 ⟨rfl, hb⟩; refine ⟨_, rfl, ?_⟩; have n0_ := Aside0.mk (Kd.R_below (upR HO_13.out) hb); have n1_ := Aside0.mk (below_step (upB HB.out) hb); clear HO_13; clear HB; have HO_13 := n0_; have HB := n1_; clear n0_ n1_; (try clear hb); (try clear hk)))
                                go_ret
                                exact ⟨by first | rfl | (simp [errW_none, errW_some] <;> rfl) | (simp [*, errW_none, errW_some] <;> rfl), (upB HB.out)⟩
                    · rw [if_neg c54] at H
                      have c54b0 : (t270 == t268) = false := beq_eq_false_iff_ne.mpr c54
                      have c54b1 : (t270 != t268) = true := bne_iff_ne.mpr c54
                      obtain rfl := (Option.some.inj H)
                      obtain ⟨Ao79, co79, eo79⟩ := Kd.R_slice HO_13.out
                      subst eo79
                      go_wp2_with (first | ((with_reducible refine gate_callee (f := 29) rfl ?_); refine goesL_ (some 76) rfl rfl Tryd.func29 (by kernel_rfl) rfl #[.slice Ao79 t256.length co79, .int .i64 1] rfl argsB ?_; (with_reducible refine (laws_markPermitS.calls kj32 (fun k_ => some k_ = (.slice Ao79 t256.length co79 : Value).ownBlock) (.slice Ao79 t256.length co79) t256 1 t268 t269 w _ ?side1 ?side2 A48.out).mono ?_); (case side1 => repeat (first | (with_reducible first | exact HB.out | apply below_alloc | apply pw_below_drewN | apply below_drew1) | exact HB.out)); (case side2 => exact Kd.R_tight rfl HO_13.out); rintro e w80 ⟨rfl, hy0, hb, hkp⟩; refine ⟨_, rfl, ?_⟩; have n0_ := Aside0.mk (Kd.R_mono (ok' := fun k_ => some k_ ≠ (.slice Ao79 t256.length co79 : Value).ownBlock) (Kd.R_keptB (HO_10.out) hkp (fun k_ hk_ hs_ => (hk_) hs_)) (fun k_ hk_ => hk_.1)); have n1_ := Aside0.mk (Kd.R_reok rfl hy0 (fun k_ e_ => HO_13.out.1 k_ e_)); have n2_ := Aside0.mk (hb); clear HO_10; clear HO_13; clear HB; have HO_10 := n0_; have HO_13 := n1_; have HB := n2_; clear n0_ n1_ n2_; (try clear hb); (try clear hkp); (try clear hy0)) | ((with_reducible refine gate_callee (f := 30) rfl ?_); refine goesL_ (some 79) rfl rfl Tryd.func30 (by kernel_rfl) rfl #[.slice Ao79 t269.length co79, .int .i64 1] rfl (by (try simp only [List.map_toArray, List.map_cons, List.map_nil]); first | done | (rw [show t269.length = t256.length from (Kd.R_reads' HO_13.out).1.symm] <;> rfl) | rfl | (simp only [List.length_drop, List.length_take]; rfl)) ?_; (with_reducible refine (laws_heldPermitS.calls kj32 _ _ t269 1 t270 _ ?side1 ?side2 A49.out).mono ?_); (case side1 => repeat (first | exact (Kd.R_reads' HO_13.out).2.2 | (with_reducible refine Kd.C_alloc ?_ _) | (with_reducible refine Kd.C_drewN ?_ _) | (with_reducible refine Kd.C_drew ?_))); (case side2 => rw [show t269.length = t256.length from (Kd.R_reads' HO_13.out).1.symm]; exact (Kd.R_reads' HO_13.out).2.1); rintro e w81 ⟨rfl, hb⟩; refine ⟨_, rfl, ?_⟩; have n0_ := Aside0.mk (Kd.R_below (upR HO_10.out) hb); have n1_ := Aside0.mk (Kd.R_below (upR HO_13.out) hb); have n2_ := Aside0.mk (below_step (upB HB.out) hb); clear HO_10; clear HO_13; clear HB; have HO_10 := n0_; have HO_13 := n1_; have HB := n2_; clear n0_ n1_ n2_; (try clear hb); (try clear hk)))
                      go_ret
                      exact ⟨by first | rfl | (simp [errW_none, errW_some] <;> rfl) | (simp [*, errW_none, errW_some] <;> rfl), (upB HB.out)⟩
          · replace c31 := Bool.eq_false_iff.mpr c31
            subst c31
            have H1 : (some false) = some r := by rw [if_neg (show ¬ (false = true) by decide)] at H; exact H
            clear H
            have H := H1
            clear H1
            exact absurd (Option.some.inj H) (by rw [hT]; decide)

end Go.Proofs.YtgeioccfjgpijaaDoor.QFnExactUsePermit
