/- Contracts of Go functions that FnExactDecidePermit reaches: the call computes what the plain function says. No condition. -/
import Derived.Test.YtgeioccfjgpijaaDoorQFnExactDecidePermitx0
import Derived.Test.YtgeioccfjgpijaaDoorQFnExactDecidePermitx1
import Derived.Test.YtgeioccfjgpijaaDoorQFnExactDecidePermitx2
import Derived.Test.YtgeioccfjgpijaaDoorQFnExactDecidePermitx3
import Derived.Test.YtgeioccfjgpijaaDoorQFnExactDecidePermitx6
import Derived.Test.YtgeioccfjgpijaaDoorQFnExactDecidePermitx9
namespace Go.Proofs.YtgeioccfjgpijaaDoor.QFnExactDecidePermit
open Go.RowKit Go.Proofs.YtgeioccfjgpijaaDoorW.PrintWords Go.Proofs.YtgeioccfjgpijaaDoorW.PrintLast Go.Proofs.YtgeioccfjgpijaaDoorW.PrintMore
attribute [local go_sem] max2_int min2_int max_two min_two max_three min_three max_four min_four   -- for this text's walks alone
set_option linter.unusedVariables false
set_option linter.unusedSimpArgs false

/-! ### laws_FnExactDecidePermit: function 10 -/
mutual
def laws_FnExactDecidePermit.j0 : Nat → List (S23) → Int → Bool → List (S26) → Bool → List (S26) → List (S26) → Bool → Bool → Option (Bool)
  | 0, _, _, _, _, _, _, _, _, _ => none
  | k + 1, x0, x1, x2, x8, x9, x10, x11, x12, x48 => if x48 = true then (some false) else ((laws_toPermitS.f k x0).bind fun t253 => ((laws_eqPermitS.f k x10 t253).bind fun t256 => (if t256 = true then ((laws_markPermitS.f k x10 1).bind fun bt257 => (if bt257.1 < 0 then (laws_FnExactDecidePermit.j1 k x0 x1 x2 x8 x9 x11 true) else ((laws_eqPermitS.f k x11 x8).bind fun t259 => (if t259 = true then (laws_FnExactDecidePermit.j1 k x0 x1 x2 x8 x9 x11 (x12 != x9)) else (laws_FnExactDecidePermit.j1 k x0 x1 x2 x8 x9 x11 true))))) else (some false))))
def laws_FnExactDecidePermit.j1 : Nat → List (S23) → Int → Bool → List (S26) → Bool → List (S26) → Bool → Option (Bool)
  | 0, _, _, _, _, _, _, _ => none
  | k + 1, x0, x1, x2, x8, x9, x11, x69 => if x69 = true then (some false) else ((laws_markPermitS.f k x11 1).bind fun bt260 => ((laws_heldPermitS.f k bt260.2 1).bind fun t262 => (if t262 < 0 then (some false) else (if t262 = bt260.1 then ((laws_toPermitS.f k x0).bind fun t263 => ((impl_DecidePermit.f k t263 x1 x2).bind fun bt266 => ((laws_eqPermitS.f k bt266.1 x8).bind fun t270 => (if t270 = true then (laws_FnExactDecidePermit.j2 k bt260.2 bt260.1 (bt266.2 != x9)) else (laws_FnExactDecidePermit.j2 k bt260.2 bt260.1 true))))) else (some false)))))
def laws_FnExactDecidePermit.j2 : Nat → List (S26) → Int → Bool → Option (Bool)
  | 0, _, _, _ => none
  | k + 1, x11, x14, x97 => if x97 = true then (some false) else ((laws_heldPermitS.f k x11 1).bind fun t271 => (if t271 < 0 then (some false) else (if t271 = x14 then (some true) else (some false))))
end
def laws_FnExactDecidePermit.f (k : Nat) (l0 : List (S23)) (a1 : Int) (a2 : Bool) : Option (Bool) := (laws_szPermitS.f k l0 1048576).bind fun t237 => (if t237 < 0 then (some true) else ((laws_toPermitS.f k l0).bind fun t238 => ((spec_DecidePermit.f k t238 a1 a2).bind fun bt241 => ((laws_toPermitS.f k l0).bind fun t245 => ((impl_DecidePermit.f k t245 a1 a2).bind fun bt248 => ((laws_eqPermitS.f k bt248.1 bt241.1).bind fun t252 => (if t252 = true then (laws_FnExactDecidePermit.j0 k l0 a1 a2 bt241.1 bt241.2 t245 bt248.1 bt248.2 (bt248.2 != bt241.2)) else (laws_FnExactDecidePermit.j0 k l0 a1 a2 bt241.1 bt241.2 t245 bt248.1 bt248.2 true))))))))
theorem laws_FnExactDecidePermit.mono_l : ∀ k, (∀ y0 y1 y2 y3 y4 y5 y6 y7 y8, LeO (laws_FnExactDecidePermit.j0 k y0 y1 y2 y3 y4 y5 y6 y7 y8) (laws_FnExactDecidePermit.j0 (k + 1) y0 y1 y2 y3 y4 y5 y6 y7 y8)) ∧ (∀ y0 y1 y2 y3 y4 y5 y6, LeO (laws_FnExactDecidePermit.j1 k y0 y1 y2 y3 y4 y5 y6) (laws_FnExactDecidePermit.j1 (k + 1) y0 y1 y2 y3 y4 y5 y6)) ∧ (∀ y0 y1 y2, LeO (laws_FnExactDecidePermit.j2 k y0 y1 y2) (laws_FnExactDecidePermit.j2 (k + 1) y0 y1 y2))
  | 0 => ⟨fun _ _ _ _ _ _ _ _ _ r h => by simp [laws_FnExactDecidePermit.j0] at h, fun _ _ _ _ _ _ _ r h => by simp [laws_FnExactDecidePermit.j1] at h, fun _ _ _ r h => by simp [laws_FnExactDecidePermit.j2] at h⟩
  | k + 1 => by
    obtain ⟨ih0, ih1, ih2⟩ := laws_FnExactDecidePermit.mono_l k
    refine ⟨?_, ?_, ?_⟩
    · intro y0 y1 y2 y3 y4 y5 y6 y7 y8
      unfold laws_FnExactDecidePermit.j0
      repeat' first
      | (with_reducible exact ih0 _ _ _ _ _ _ _ _ _)
      | (with_reducible exact ih1 _ _ _ _ _ _ _)
      | (with_reducible exact ih2 _ _ _)
      | (with_reducible exact impl_DecidePermit.mono _ _ _ _)
      | (with_reducible exact laws_eqPermitS.mono _ _ _)
      | (with_reducible exact laws_heldPermitS.mono _ _ _)
      | (with_reducible exact laws_markPermitS.mono _ _ _)
      | (with_reducible exact laws_szPermitS.mono _ _ _)
      | (with_reducible exact laws_toPermitS.mono _ _)
      | (with_reducible exact spec_DecidePermit.mono _ _ _ _)
      | (with_reducible exact LeO.refl _)
      | (with_reducible exact LeO.none _)
      | (with_reducible refine LeO.ite ?_ ?_)
      | (with_reducible refine LeO.bind ?_ (fun _ => ?_))
      | exact ih0 _ _ _ _ _ _ _ _ _
      | exact ih1 _ _ _ _ _ _ _
      | exact ih2 _ _ _
      | exact impl_DecidePermit.mono _ _ _ _
      | exact laws_eqPermitS.mono _ _ _
      | exact laws_heldPermitS.mono _ _ _
      | exact laws_markPermitS.mono _ _ _
      | exact laws_szPermitS.mono _ _ _
      | exact laws_toPermitS.mono _ _
      | exact spec_DecidePermit.mono _ _ _ _
      | exact LeO.none _
      | refine LeO.ite ?_ ?_
      | refine LeO.bind ?_ (fun _ => ?_)
    · intro y0 y1 y2 y3 y4 y5 y6
      unfold laws_FnExactDecidePermit.j1
      repeat' first
      | (with_reducible exact ih0 _ _ _ _ _ _ _ _ _)
      | (with_reducible exact ih1 _ _ _ _ _ _ _)
      | (with_reducible exact ih2 _ _ _)
      | (with_reducible exact impl_DecidePermit.mono _ _ _ _)
      | (with_reducible exact laws_eqPermitS.mono _ _ _)
      | (with_reducible exact laws_heldPermitS.mono _ _ _)
      | (with_reducible exact laws_markPermitS.mono _ _ _)
      | (with_reducible exact laws_szPermitS.mono _ _ _)
      | (with_reducible exact laws_toPermitS.mono _ _)
      | (with_reducible exact spec_DecidePermit.mono _ _ _ _)
      | (with_reducible exact LeO.refl _)
      | (with_reducible exact LeO.none _)
      | (with_reducible refine LeO.ite ?_ ?_)
      | (with_reducible refine LeO.bind ?_ (fun _ => ?_))
      | exact ih0 _ _ _ _ _ _ _ _ _
      | exact ih1 _ _ _ _ _ _ _
      | exact ih2 _ _ _
      | exact impl_DecidePermit.mono _ _ _ _
      | exact laws_eqPermitS.mono _ _ _
      | exact laws_heldPermitS.mono _ _ _
      | exact laws_markPermitS.mono _ _ _
      | exact laws_szPermitS.mono _ _ _
      | exact laws_toPermitS.mono _ _
      | exact spec_DecidePermit.mono _ _ _ _
      | exact LeO.none _
      | refine LeO.ite ?_ ?_
      | refine LeO.bind ?_ (fun _ => ?_)
    · intro y0 y1 y2
      unfold laws_FnExactDecidePermit.j2
      repeat' first
      | (with_reducible exact ih0 _ _ _ _ _ _ _ _ _)
      | (with_reducible exact ih1 _ _ _ _ _ _ _)
      | (with_reducible exact ih2 _ _ _)
      | (with_reducible exact impl_DecidePermit.mono _ _ _ _)
      | (with_reducible exact laws_eqPermitS.mono _ _ _)
      | (with_reducible exact laws_heldPermitS.mono _ _ _)
      | (with_reducible exact laws_markPermitS.mono _ _ _)
      | (with_reducible exact laws_szPermitS.mono _ _ _)
      | (with_reducible exact laws_toPermitS.mono _ _)
      | (with_reducible exact spec_DecidePermit.mono _ _ _ _)
      | (with_reducible exact LeO.refl _)
      | (with_reducible exact LeO.none _)
      | (with_reducible refine LeO.ite ?_ ?_)
      | (with_reducible refine LeO.bind ?_ (fun _ => ?_))
      | exact ih0 _ _ _ _ _ _ _ _ _
      | exact ih1 _ _ _ _ _ _ _
      | exact ih2 _ _ _
      | exact impl_DecidePermit.mono _ _ _ _
      | exact laws_eqPermitS.mono _ _ _
      | exact laws_heldPermitS.mono _ _ _
      | exact laws_markPermitS.mono _ _ _
      | exact laws_szPermitS.mono _ _ _
      | exact laws_toPermitS.mono _ _
      | exact spec_DecidePermit.mono _ _ _ _
      | exact LeO.none _
      | refine LeO.ite ?_ ?_
      | refine LeO.bind ?_ (fun _ => ?_)
theorem laws_FnExactDecidePermit.mono : ∀ a0 a1 a2 k, LeO (laws_FnExactDecidePermit.f k a0 a1 a2) (laws_FnExactDecidePermit.f (k + 1) a0 a1 a2) := by
  intro a0 a1 a2 k
  obtain ⟨ih0, ih1, ih2⟩ := laws_FnExactDecidePermit.mono_l k
  unfold laws_FnExactDecidePermit.f
  repeat' first
      | (with_reducible exact ih0 _ _ _ _ _ _ _ _ _)
      | (with_reducible exact ih1 _ _ _ _ _ _ _)
      | (with_reducible exact ih2 _ _ _)
      | (with_reducible exact impl_DecidePermit.mono _ _ _ _)
      | (with_reducible exact laws_eqPermitS.mono _ _ _)
      | (with_reducible exact laws_heldPermitS.mono _ _ _)
      | (with_reducible exact laws_markPermitS.mono _ _ _)
      | (with_reducible exact laws_szPermitS.mono _ _ _)
      | (with_reducible exact laws_toPermitS.mono _ _)
      | (with_reducible exact spec_DecidePermit.mono _ _ _ _)
      | (with_reducible exact LeO.refl _)
      | (with_reducible exact LeO.none _)
      | (with_reducible refine LeO.ite ?_ ?_)
      | (with_reducible refine LeO.bind ?_ (fun _ => ?_))
      | exact ih0 _ _ _ _ _ _ _ _ _
      | exact ih1 _ _ _ _ _ _ _
      | exact ih2 _ _ _
      | exact impl_DecidePermit.mono _ _ _ _
      | exact laws_eqPermitS.mono _ _ _
      | exact laws_heldPermitS.mono _ _ _
      | exact laws_markPermitS.mono _ _ _
      | exact laws_szPermitS.mono _ _ _
      | exact laws_toPermitS.mono _ _
      | exact spec_DecidePermit.mono _ _ _ _
      | exact LeO.none _
      | refine LeO.ite ?_ ?_
      | refine LeO.bind ?_ (fun _ => ?_)
set_option maxHeartbeats 8000000 in
set_option maxRecDepth 100000 in
theorem laws_FnExactDecidePermit.calls (k : Nat) (A0 : Option Addr) (c0 : Nat) (l0 : List (S23)) (a1 : Int) (a2 : Bool) (r : Bool) (w : World) (hr0 : Kd.C k23 w A0 l0.length l0) (hc0 : l0.length ≤ c0) (h : laws_FnExactDecidePermit.f k l0 a1 a2 = some r) (hT : r = true) :
    Calls Tryd.prog 10 #[.slice A0 l0.length c0, .int .i64 a1, .bool a2] w fun e w' => e = .returned (.bool r) ∧ Below w.heap.size w w' := by
  have HR0 := Aside0.mk hr0
  have HC0 := Aside0.mk hc0
  clear hr0 hc0
  have HB := Aside0.mk (Below.refl w.heap.size w)
  have H : ((laws_szPermitS.f k l0 1048576).bind fun t237 => (if t237 < 0 then (some true) else ((laws_toPermitS.f k l0).bind fun t238 => ((spec_DecidePermit.f k t238 a1 a2).bind fun bt241 => ((laws_toPermitS.f k l0).bind fun t245 => ((impl_DecidePermit.f k t245 a1 a2).bind fun bt248 => ((laws_eqPermitS.f k bt248.1 bt241.1).bind fun t252 => (if t252 = true then (laws_FnExactDecidePermit.j0 k l0 a1 a2 bt241.1 bt241.2 t245 bt248.1 bt248.2 (bt248.2 != bt241.2)) else (laws_FnExactDecidePermit.j0 k l0 a1 a2 bt241.1 bt241.2 t245 bt248.1 bt248.2 true))))))))) = some r := h
  clear h
  replace H := Option.bind_eq_some_iff.mp H
  obtain ⟨t237, A40, H⟩ := H
  replace H : (if t237 < 0 then (some true) else ((laws_toPermitS.f k l0).bind fun t238 => ((spec_DecidePermit.f k t238 a1 a2).bind fun bt241 => ((laws_toPermitS.f k l0).bind fun t245 => ((impl_DecidePermit.f k t245 a1 a2).bind fun bt248 => ((laws_eqPermitS.f k bt248.1 bt241.1).bind fun t252 => (if t252 = true then (laws_FnExactDecidePermit.j0 k l0 a1 a2 bt241.1 bt241.2 t245 bt248.1 bt248.2 (bt248.2 != bt241.2)) else (laws_FnExactDecidePermit.j0 k l0 a1 a2 bt241.1 bt241.2 t245 bt248.1 bt248.2 true)))))))) = some r := H
  have A4 := Aside0.mk A40
  clear A40
  by_cases c5 : t237 < 0
  · rw [if_pos c5] at H
    have c5b0 : decide (t237 < 0) = true := decide_eq_true c5
    clear c5
    obtain rfl := (Option.some.inj H)
    go_enter Tryd.func10, Tryd.ntmps10
    go_wp2_with (first | ((with_reducible refine gate_callee (f := 18) rfl ?_); refine goesL_ (some 20) rfl rfl Tryd.func18 (by kernel_rfl) rfl #[.slice A0 l0.length c0, .int .i64 1048576] rfl argsB ?_; (with_reducible refine (laws_szPermitS.calls k _ _ l0 1048576 t237 _ ?side1 ?side2 A4.out).mono ?_); (case side1 => repeat (first | exact HR0.out | (with_reducible refine Kd.C_alloc ?_ _) | (with_reducible refine Kd.C_drewN ?_ _) | (with_reducible refine Kd.C_drew ?_))); (case side2 => exact HC0.out); rintro e w6 ⟨rfl, hb⟩; refine ⟨_, rfl, ?_⟩; have n0_ := Aside0.mk (below_step (upB HB.out) hb); clear HB; have HB := n0_; clear n0_; (try clear hb); (try clear hk)))
    go_ret
    exact ⟨by first | rfl | (simp [errW_none, errW_some] <;> rfl) | (simp [*, errW_none, errW_some] <;> rfl), (upB HB.out)⟩
  · rw [if_neg c5] at H
    have c5b0 : decide (t237 < 0) = false := decide_eq_false c5
    clear c5
    replace H := Option.bind_eq_some_iff.mp H
    obtain ⟨t238, A70, H⟩ := H
    replace H : ((spec_DecidePermit.f k t238 a1 a2).bind fun bt241 => ((laws_toPermitS.f k l0).bind fun t245 => ((impl_DecidePermit.f k t245 a1 a2).bind fun bt248 => ((laws_eqPermitS.f k bt248.1 bt241.1).bind fun t252 => (if t252 = true then (laws_FnExactDecidePermit.j0 k l0 a1 a2 bt241.1 bt241.2 t245 bt248.1 bt248.2 (bt248.2 != bt241.2)) else (laws_FnExactDecidePermit.j0 k l0 a1 a2 bt241.1 bt241.2 t245 bt248.1 bt248.2 true)))))) = some r := H
    have A7 := Aside0.mk A70
    clear A70
    replace H := Option.bind_eq_some_iff.mp H
    obtain ⟨⟨t241, t242⟩, A80, H⟩ := H
    replace H : ((laws_toPermitS.f k l0).bind fun t245 => ((impl_DecidePermit.f k t245 a1 a2).bind fun bt248 => ((laws_eqPermitS.f k bt248.1 t241).bind fun t252 => (if t252 = true then (laws_FnExactDecidePermit.j0 k l0 a1 a2 t241 t242 t245 bt248.1 bt248.2 (bt248.2 != t242)) else (laws_FnExactDecidePermit.j0 k l0 a1 a2 t241 t242 t245 bt248.1 bt248.2 true))))) = some r := H
    have A8 := Aside0.mk A80
    clear A80
    replace H := Option.bind_eq_some_iff.mp H
    obtain ⟨t245, A90, H⟩ := H
    replace H : ((impl_DecidePermit.f k t245 a1 a2).bind fun bt248 => ((laws_eqPermitS.f k bt248.1 t241).bind fun t252 => (if t252 = true then (laws_FnExactDecidePermit.j0 k l0 a1 a2 t241 t242 t245 bt248.1 bt248.2 (bt248.2 != t242)) else (laws_FnExactDecidePermit.j0 k l0 a1 a2 t241 t242 t245 bt248.1 bt248.2 true)))) = some r := H
    have A9 := Aside0.mk A90
    clear A90
    replace H := Option.bind_eq_some_iff.mp H
    obtain ⟨⟨t248, t249⟩, A100, H⟩ := H
    replace H : ((laws_eqPermitS.f k t248 t241).bind fun t252 => (if t252 = true then (laws_FnExactDecidePermit.j0 k l0 a1 a2 t241 t242 t245 t248 t249 (t249 != t242)) else (laws_FnExactDecidePermit.j0 k l0 a1 a2 t241 t242 t245 t248 t249 true))) = some r := H
    have A10 := Aside0.mk A100
    clear A100
    have HC11 := Aside0.mk H
    clear H
    go_enter Tryd.func10, Tryd.ntmps10
    go_upto_region 8 with (first | ((with_reducible refine gate_callee (f := 18) rfl ?_); refine goesL_ (some 20) rfl rfl Tryd.func18 (by kernel_rfl) rfl #[.slice A0 l0.length c0, .int .i64 1048576] rfl argsB ?_; (with_reducible refine (laws_szPermitS.calls k _ _ l0 1048576 t237 _ ?side1 ?side2 A4.out).mono ?_); (case side1 => repeat (first | exact HR0.out | (with_reducible refine Kd.C_alloc ?_ _) | (with_reducible refine Kd.C_drewN ?_ _) | (with_reducible refine Kd.C_drew ?_))); (case side2 => exact HC0.out); rintro e w12 ⟨rfl, hb⟩; refine ⟨_, rfl, ?_⟩; have n0_ := Aside0.mk (below_step (upB HB.out) hb); clear HB; have HB := n0_; clear n0_; (try clear hb); (try clear hk)) | ((with_reducible refine gate_callee (f := 20) rfl ?_); refine goesL_ (some 25) rfl rfl Tryd.func20 (by kernel_rfl) rfl #[.slice A0 l0.length c0] rfl argsB ?_; (with_reducible refine (laws_toPermitS.calls k _ _ l0 t238 _ ?side1 ?side2 A7.out).mono ?_); (case side1 => repeat (first | exact (Kd.C_below HR0.out HB.out) | (with_reducible refine Kd.C_alloc ?_ _) | (with_reducible refine Kd.C_drewN ?_ _) | (with_reducible refine Kd.C_drew ?_))); (case side2 => exact HC0.out); rintro e w13 ⟨v239, rfl, ho0, hb⟩; refine ⟨_, rfl, ?_⟩; have n0_ := Aside0.mk (Kd.R_lower ho0 (below_size (upB HB.out))); have n1_ := Aside0.mk (below_step (upB HB.out) hb); clear HB; have HO240 := n0_; have HB := n1_; clear n0_ n1_; (try clear hb); (try clear hk); (try clear ho0); obtain ⟨Ao14, co14, eo14⟩ := Kd.R_slice HO240.out; subst eo14) | ((with_reducible refine gate_callee (f := 35) rfl ?_); refine goesL_ (some 28) rfl rfl Tryd.func35 (by kernel_rfl) rfl #[.slice Ao14 t238.length co14, .int .i64 a1, .bool a2] rfl argsB ?_; (with_reducible refine (spec_DecidePermit.calls k _ _ t238 a1 a2 t241 t242 _ ?side1 ?side2 A8.out).mono ?_); (case side1 => repeat (first | exact (Kd.R_reads' HO240.out).2.2 | (with_reducible refine Kd.C_alloc ?_ _) | (with_reducible refine Kd.C_drewN ?_ _) | (with_reducible refine Kd.C_drew ?_))); (case side2 => exact (Kd.R_reads' HO240.out).2.1); rintro e w15 ⟨v243, rfl, ho0, hb⟩; refine ⟨_, rfl, ?_⟩; have n0_ := Aside0.mk (Kd.R_elder' (upR HO240.out) (Kd.R_base ho0) hb); have n1_ := Aside0.mk (Kd.R_lower (Kd.R_new' ho0 (Kd.R_lt (upR HO240.out))) (below_size (upB HB.out))); have n2_ := Aside0.mk (below_step (upB HB.out) hb); clear HO240; clear HB; have HO240 := n0_; have HO244 := n1_; have HB := n2_; clear n0_ n1_ n2_; (try clear hb); (try clear hk); (try clear ho0)) | ((with_reducible refine gate_callee (f := 20) rfl ?_); refine goesL_ (some 32) rfl rfl Tryd.func20 (by kernel_rfl) rfl #[.slice A0 l0.length c0] rfl argsB ?_; (with_reducible refine (laws_toPermitS.calls k _ _ l0 t245 _ ?side1 ?side2 A9.out).mono ?_); (case side1 => repeat (first | exact (Kd.C_below HR0.out HB.out) | (with_reducible refine Kd.C_alloc ?_ _) | (with_reducible refine Kd.C_drewN ?_ _) | (with_reducible refine Kd.C_drew ?_))); (case side2 => exact HC0.out); rintro e w16 ⟨v246, rfl, ho0, hb⟩; refine ⟨_, rfl, ?_⟩; have n0_ := Aside0.mk (Kd.R_elder' (upR HO240.out) (Kd.R_base ho0) hb); have n1_ := Aside0.mk (Kd.R_elder' (upR HO244.out) (Kd.R_base ho0) hb); have n2_ := Aside0.mk (Kd.R_lower (Kd.R_new' (Kd.R_new' ho0 (Kd.R_lt (upR HO240.out))) (Kd.R_lt (upR HO244.out))) (below_size (upB HB.out))); have n3_ := Aside0.mk (below_step (upB HB.out) hb); clear HO240; clear HO244; clear HB; have HO240 := n0_; have HO244 := n1_; have HO247 := n2_; have HB := n3_; clear n0_ n1_ n2_ n3_; (try clear hb); (try clear hk); (try clear ho0); obtain ⟨Ao17, co17, eo17⟩ := Kd.R_slice HO247.out; subst eo17) | ((with_reducible refine gate_callee (f := 36) rfl ?_); refine goesL_ (some 37) rfl rfl Tryd.func36 (by kernel_rfl) rfl #[.slice Ao17 t245.length co17, .int .i64 a1, .bool a2] rfl argsB ?_; (with_reducible refine (impl_DecidePermit.calls k _ _ t245 a1 a2 t248 t249 _ ?side1 ?side2 A10.out).mono ?_); (case side1 => repeat (first | exact (Kd.R_reads' HO247.out).2.2 | (with_reducible refine Kd.C_alloc ?_ _) | (with_reducible refine Kd.C_drewN ?_ _) | (with_reducible refine Kd.C_drew ?_))); (case side2 => exact (Kd.R_reads' HO247.out).2.1); rintro e w18 ⟨v250, rfl, ho0, hb⟩; refine ⟨_, rfl, ?_⟩; have n0_ := Aside0.mk (Kd.R_elder' (upR HO240.out) (Kd.R_base ho0) hb); have n1_ := Aside0.mk (Kd.R_elder' (upR HO244.out) (Kd.R_base ho0) hb); have n2_ := Aside0.mk (Kd.R_elder' (upR HO247.out) (Kd.R_base ho0) hb); have n3_ := Aside0.mk (Kd.R_lower (Kd.R_new' (Kd.R_new' (Kd.R_new' ho0 (Kd.R_lt (upR HO240.out))) (Kd.R_lt (upR HO244.out))) (Kd.R_lt (upR HO247.out))) (below_size (upB HB.out))); have n4_ := Aside0.mk (below_step (upB HB.out) hb); clear HO240; clear HO244; clear HO247; clear HB; have HO240 := n0_; have HO244 := n1_; have HO247 := n2_; have HO251 := n3_; have HB := n4_; clear n0_ n1_ n2_ n3_ n4_; (try clear hb); (try clear hk); (try clear ho0)))
    (try simp only [Act.put, List.setIfInBounds_toArray, List.set_cons_zero, List.set_cons_succ])
    go_cut [48] (fun v48 wc => ∃ (kq : Nat) (x48_10 : Bool), v48 = .bool x48_10 ∧ Aside0 (laws_FnExactDecidePermit.j0 kq l0 a1 a2 t241 t242 t245 t248 t249 x48_10 = some r) ∧ Aside0 (kq ≤ k) ∧ Aside0 (Kd.R k26 26 wc w.heap.size (fun k_ => some k_ ≠ ((.slice Ao17 t245.length co17) : Value).ownBlock ∧ some k_ ≠ (v250 : Value).ownBlock) v243 t241) ∧ Aside0 (Kd.R k26 26 wc w.heap.size (fun k_ => some k_ ≠ (v243 : Value).ownBlock ∧ some k_ ≠ (v250 : Value).ownBlock) (.slice Ao17 t245.length co17) t245) ∧ Aside0 (Kd.R k26 26 wc w.heap.size (fun k_ => some k_ ≠ (v243 : Value).ownBlock ∧ some k_ ≠ ((.slice Ao17 t245.length co17) : Value).ownBlock) v250 t248) ∧ Aside0 (Below w.heap.size w wc))
    case first =>
      have H := HC11.out
      clear HC11
      replace H := Option.bind_eq_some_iff.mp H
      obtain ⟨t252, A190, H⟩ := H
      replace H : (if t252 = true then (laws_FnExactDecidePermit.j0 k l0 a1 a2 t241 t242 t245 t248 t249 (t249 != t242)) else (laws_FnExactDecidePermit.j0 k l0 a1 a2 t241 t242 t245 t248 t249 true)) = some r := H
      have A19 := Aside0.mk A190
      clear A190
      by_cases c20 : t252 = true
      · subst c20
        have H1 : (laws_FnExactDecidePermit.j0 k l0 a1 a2 t241 t242 t245 t248 t249 (t249 != t242)) = some r := by rw [if_pos rfl] at H; exact H
        clear H
        have H := H1
        clear H1
        have H' := Aside0.mk H
        clear H
        obtain ⟨Ao21, co21, eo21⟩ := Kd.R_slice HO251.out
        subst eo21
        obtain ⟨Ao22, co22, eo22⟩ := Kd.R_slice HO244.out
        subst eo22
        go_wp2_with (first | ((with_reducible refine gate_callee (f := 22) rfl ?_); refine goesL_ (some 42) rfl rfl Tryd.func22 (by kernel_rfl) rfl #[.slice Ao21 t248.length co21, .slice Ao22 t241.length co22] rfl argsB ?_; (with_reducible refine (laws_eqPermitS.calls k _ _ t248 _ _ t241 true _ ?side1 ?side2 ?side3 ?side4 A19.out).mono ?_); (case side1 => repeat (first | exact (Kd.R_reads' HO251.out).2.2 | (with_reducible refine Kd.C_alloc ?_ _) | (with_reducible refine Kd.C_drewN ?_ _) | (with_reducible refine Kd.C_drew ?_))); (case side2 => exact (Kd.R_reads' HO251.out).2.1); (case side3 => repeat (first | exact (Kd.R_reads' HO244.out).2.2 | (with_reducible refine Kd.C_alloc ?_ _) | (with_reducible refine Kd.C_drewN ?_ _) | (with_reducible refine Kd.C_drew ?_))); (case side4 => exact (Kd.R_reads' HO244.out).2.1); rintro e w23 ⟨rfl, hb⟩; refine ⟨_, rfl, ?_⟩; have n0_ := Aside0.mk (Kd.R_below (upR HO240.out) hb); have n1_ := Aside0.mk (Kd.R_below (upR HO244.out) hb); have n2_ := Aside0.mk (Kd.R_below (upR HO247.out) hb); have n3_ := Aside0.mk (Kd.R_below (upR HO251.out) hb); have n4_ := Aside0.mk (below_step (upB HB.out) hb); clear HO240; clear HO244; clear HO247; clear HO251; clear HB; have HO240 := n0_; have HO244 := n1_; have HO247 := n2_; have HO251 := n3_; have HB := n4_; clear n0_ n1_ n2_ n3_ n4_; (try clear hb); (try clear hk)))
        go_meet
        case rel => exact ⟨_, ((t249 != t242)), (by first | rfl | (simp; done) | (simp [*]; done)), H', ⟨by first | omega | exact Nat.le_refl _⟩, ⟨by (with_reducible repeat (first | apply Kd.R_alloc | apply Kd.R_drewN | apply Kd.R_drew)); exact Kd.R_mono HO244.out (fun _ hk => ⟨hk.1.2, hk.2⟩)⟩, ⟨by (with_reducible repeat (first | apply Kd.R_alloc | apply Kd.R_drewN | apply Kd.R_drew)); exact Kd.R_mono HO247.out (fun _ hk => ⟨hk.1.2, hk.2⟩)⟩, ⟨by (with_reducible repeat (first | apply Kd.R_alloc | apply Kd.R_drewN | apply Kd.R_drew)); exact Kd.R_mono HO251.out (fun _ hk => ⟨hk.1.2, hk.2⟩)⟩, ⟨(upB HB.out)⟩⟩
      · replace c20 := Bool.eq_false_iff.mpr c20
        subst c20
        have H1 : (laws_FnExactDecidePermit.j0 k l0 a1 a2 t241 t242 t245 t248 t249 true) = some r := by rw [if_neg (show ¬ (false = true) by decide)] at H; exact H
        clear H
        have H := H1
        clear H1
        have H' := Aside0.mk H
        clear H
        obtain ⟨Ao24, co24, eo24⟩ := Kd.R_slice HO251.out
        subst eo24
        obtain ⟨Ao25, co25, eo25⟩ := Kd.R_slice HO244.out
        subst eo25
        go_wp2_with (first | ((with_reducible refine gate_callee (f := 22) rfl ?_); refine goesL_ (some 42) rfl rfl Tryd.func22 (by kernel_rfl) rfl #[.slice Ao24 t248.length co24, .slice Ao25 t241.length co25] rfl argsB ?_; (with_reducible refine (laws_eqPermitS.calls k _ _ t248 _ _ t241 false _ ?side1 ?side2 ?side3 ?side4 A19.out).mono ?_); (case side1 => repeat (first | exact (Kd.R_reads' HO251.out).2.2 | (with_reducible refine Kd.C_alloc ?_ _) | (with_reducible refine Kd.C_drewN ?_ _) | (with_reducible refine Kd.C_drew ?_))); (case side2 => exact (Kd.R_reads' HO251.out).2.1); (case side3 => repeat (first | exact (Kd.R_reads' HO244.out).2.2 | (with_reducible refine Kd.C_alloc ?_ _) | (with_reducible refine Kd.C_drewN ?_ _) | (with_reducible refine Kd.C_drew ?_))); (case side4 => exact (Kd.R_reads' HO244.out).2.1); rintro e w26 ⟨rfl, hb⟩; refine ⟨_, rfl, ?_⟩; have n0_ := Aside0.mk (Kd.R_below (upR HO240.out) hb); have n1_ := Aside0.mk (Kd.R_below (upR HO244.out) hb); have n2_ := Aside0.mk (Kd.R_below (upR HO247.out) hb); have n3_ := Aside0.mk (Kd.R_below (upR HO251.out) hb); have n4_ := Aside0.mk (below_step (upB HB.out) hb); clear HO240; clear HO244; clear HO247; clear HO251; clear HB; have HO240 := n0_; have HO244 := n1_; have HO247 := n2_; have HO251 := n3_; have HB := n4_; clear n0_ n1_ n2_ n3_ n4_; (try clear hb); (try clear hk)))
        go_meet
        case rel => exact ⟨_, (true), (by first | rfl | (simp; done) | (simp [*]; done)), H', ⟨by first | omega | exact Nat.le_refl _⟩, ⟨by (with_reducible repeat (first | apply Kd.R_alloc | apply Kd.R_drewN | apply Kd.R_drew)); exact Kd.R_mono HO244.out (fun _ hk => ⟨hk.1.2, hk.2⟩)⟩, ⟨by (with_reducible repeat (first | apply Kd.R_alloc | apply Kd.R_drewN | apply Kd.R_drew)); exact Kd.R_mono HO247.out (fun _ hk => ⟨hk.1.2, hk.2⟩)⟩, ⟨by (with_reducible repeat (first | apply Kd.R_alloc | apply Kd.R_drewN | apply Kd.R_drew)); exact Kd.R_mono HO251.out (fun _ hk => ⟨hk.1.2, hk.2⟩)⟩, ⟨(upB HB.out)⟩⟩
    case rest =>
      clear HC11
      try clear c5
      try clear c5b0
      try clear c20
      obtain ⟨kq, x48_10, rfl, HA, HJ10, HO_8, HO_10, HO_11, HB⟩ := hcut
      cases kq with
      | zero => exact absurd HA.out (by simp [laws_FnExactDecidePermit.j0])
      | succ kj10 =>
        have H := HA.out
        clear HA
        simp only [laws_FnExactDecidePermit.j0] at H
        by_cases c27 : x48_10 = true
        · subst c27
          have H1 : (some false) = some r := by rw [if_pos rfl] at H; exact H
          clear H
          have H := H1
          clear H1
          exact absurd (Option.some.inj H) (by rw [hT]; decide)
        · replace c27 := Bool.eq_false_iff.mpr c27
          subst c27
          have H1 : ((laws_toPermitS.f kj10 l0).bind fun t253 => ((laws_eqPermitS.f kj10 t245 t253).bind fun t256 => (if t256 = true then ((laws_markPermitS.f kj10 t245 1).bind fun bt257 => (if bt257.1 < 0 then (laws_FnExactDecidePermit.j1 kj10 l0 a1 a2 t241 t242 t248 true) else ((laws_eqPermitS.f kj10 t248 t241).bind fun t259 => (if t259 = true then (laws_FnExactDecidePermit.j1 kj10 l0 a1 a2 t241 t242 t248 (t249 != t242)) else (laws_FnExactDecidePermit.j1 kj10 l0 a1 a2 t241 t242 t248 true))))) else (some false)))) = some r := by rw [if_neg (show ¬ (false = true) by decide)] at H; exact H
          clear H
          have H := H1
          clear H1
          replace H := Option.bind_eq_some_iff.mp H
          obtain ⟨t253, A280, H⟩ := H
          replace H : ((laws_eqPermitS.f kj10 t245 t253).bind fun t256 => (if t256 = true then ((laws_markPermitS.f kj10 t245 1).bind fun bt257 => (if bt257.1 < 0 then (laws_FnExactDecidePermit.j1 kj10 l0 a1 a2 t241 t242 t248 true) else ((laws_eqPermitS.f kj10 t248 t241).bind fun t259 => (if t259 = true then (laws_FnExactDecidePermit.j1 kj10 l0 a1 a2 t241 t242 t248 (t249 != t242)) else (laws_FnExactDecidePermit.j1 kj10 l0 a1 a2 t241 t242 t248 true))))) else (some false))) = some r := H
          have A28 := Aside0.mk A280
          clear A280
          replace H := Option.bind_eq_some_iff.mp H
          obtain ⟨t256, A290, H⟩ := H
          replace H : (if t256 = true then ((laws_markPermitS.f kj10 t245 1).bind fun bt257 => (if bt257.1 < 0 then (laws_FnExactDecidePermit.j1 kj10 l0 a1 a2 t241 t242 t248 true) else ((laws_eqPermitS.f kj10 t248 t241).bind fun t259 => (if t259 = true then (laws_FnExactDecidePermit.j1 kj10 l0 a1 a2 t241 t242 t248 (t249 != t242)) else (laws_FnExactDecidePermit.j1 kj10 l0 a1 a2 t241 t242 t248 true))))) else (some false)) = some r := H
          have A29 := Aside0.mk A290
          clear A290
          by_cases c30 : t256 = true
          · subst c30
            have H1 : ((laws_markPermitS.f kj10 t245 1).bind fun bt257 => (if bt257.1 < 0 then (laws_FnExactDecidePermit.j1 kj10 l0 a1 a2 t241 t242 t248 true) else ((laws_eqPermitS.f kj10 t248 t241).bind fun t259 => (if t259 = true then (laws_FnExactDecidePermit.j1 kj10 l0 a1 a2 t241 t242 t248 (t249 != t242)) else (laws_FnExactDecidePermit.j1 kj10 l0 a1 a2 t241 t242 t248 true))))) = some r := by rw [if_pos rfl] at H; exact H
            clear H
            have H := H1
            clear H1
            replace H := Option.bind_eq_some_iff.mp H
            obtain ⟨⟨t257, t258⟩, A310, H⟩ := H
            replace H : (if t257 < 0 then (laws_FnExactDecidePermit.j1 kj10 l0 a1 a2 t241 t242 t248 true) else ((laws_eqPermitS.f kj10 t248 t241).bind fun t259 => (if t259 = true then (laws_FnExactDecidePermit.j1 kj10 l0 a1 a2 t241 t242 t248 (t249 != t242)) else (laws_FnExactDecidePermit.j1 kj10 l0 a1 a2 t241 t242 t248 true)))) = some r := H
            have A31 := Aside0.mk A310
            clear A310
            have HC32 := Aside0.mk H
            clear H
            go_upto_region 14 with (first | ((with_reducible refine gate_callee (f := 20) rfl ?_); refine goesL_ (some 51) rfl rfl Tryd.func20 (by kernel_rfl) rfl #[.slice A0 l0.length c0] rfl argsB ?_; (with_reducible refine (laws_toPermitS.calls kj10 _ _ l0 t253 _ ?side1 ?side2 A28.out).mono ?_); (case side1 => repeat (first | exact (Kd.C_below HR0.out HB.out) | (with_reducible refine Kd.C_alloc ?_ _) | (with_reducible refine Kd.C_drewN ?_ _) | (with_reducible refine Kd.C_drew ?_))); (case side2 => exact HC0.out); rintro e w33 ⟨v254, rfl, ho0, hb⟩; refine ⟨_, rfl, ?_⟩; have n0_ := Aside0.mk (Kd.R_elder' (upR HO_8.out) (Kd.R_base ho0) hb); have n1_ := Aside0.mk (Kd.R_elder' (upR HO_10.out) (Kd.R_base ho0) hb); have n2_ := Aside0.mk (Kd.R_elder' (upR HO_11.out) (Kd.R_base ho0) hb); have n3_ := Aside0.mk (Kd.R_lower (Kd.R_new' (Kd.R_new' (Kd.R_new' ho0 (Kd.R_lt (upR HO_8.out))) (Kd.R_lt (upR HO_10.out))) (Kd.R_lt (upR HO_11.out))) (below_size (upB HB.out))); have n4_ := Aside0.mk (below_step (upB HB.out) hb); clear HO_8; clear HO_10; clear HO_11; clear HB; have HO_8 := n0_; have HO_10 := n1_; have HO_11 := n2_; have HO255 := n3_; have HB := n4_; clear n0_ n1_ n2_ n3_ n4_; (try clear hb); (try clear hk); (try clear ho0); obtain ⟨Ao34, co34, eo34⟩ := Kd.R_slice HO255.out; subst eo34) | ((with_reducible refine gate_callee (f := 22) rfl ?_); refine goesL_ (some 52) rfl rfl Tryd.func22 (by kernel_rfl) rfl #[.slice Ao17 t245.length co17, .slice Ao34 t253.length co34] rfl argsB ?_; (with_reducible refine (laws_eqPermitS.calls kj10 _ _ t245 _ _ t253 true _ ?side1 ?side2 ?side3 ?side4 A29.out).mono ?_); (case side1 => repeat (first | exact (Kd.R_reads' HO_10.out).2.2 | (with_reducible refine Kd.C_alloc ?_ _) | (with_reducible refine Kd.C_drewN ?_ _) | (with_reducible refine Kd.C_drew ?_))); (case side2 => exact (Kd.R_reads' HO_10.out).2.1); (case side3 => repeat (first | exact (Kd.R_reads' HO255.out).2.2 | (with_reducible refine Kd.C_alloc ?_ _) | (with_reducible refine Kd.C_drewN ?_ _) | (with_reducible refine Kd.C_drew ?_))); (case side4 => exact (Kd.R_reads' HO255.out).2.1); rintro e w35 ⟨rfl, hb⟩; refine ⟨_, rfl, ?_⟩; have n0_ := Aside0.mk (Kd.R_below (upR HO_8.out) hb); have n1_ := Aside0.mk (Kd.R_below (upR HO_10.out) hb); have n2_ := Aside0.mk (Kd.R_below (upR HO_11.out) hb); have n3_ := Aside0.mk (Kd.R_below (upR HO255.out) hb); have n4_ := Aside0.mk (below_step (upB HB.out) hb); clear HO_8; clear HO_10; clear HO_11; clear HO255; clear HB; have HO_8 := n0_; have HO_10 := n1_; have HO_11 := n2_; have HO255 := n3_; have HB := n4_; clear n0_ n1_ n2_ n3_ n4_; (try clear hb); (try clear hk)) | ((with_reducible refine gate_callee (f := 29) rfl ?_); refine goesL_ (some 56) rfl rfl Tryd.func29 (by kernel_rfl) rfl #[.slice Ao17 t245.length co17, .int .i64 1] rfl argsB ?_; (with_reducible refine (laws_markPermitS.calls kj10 (fun k_ => some k_ = (.slice Ao17 t245.length co17 : Value).ownBlock) (.slice Ao17 t245.length co17) t245 1 t257 t258 w _ ?side1 ?side2 A31.out).mono ?_); (case side1 => repeat (first | (with_reducible first | exact HB.out | apply below_alloc | apply pw_below_drewN | apply below_drew1) | exact HB.out)); (case side2 => exact Kd.R_tight rfl HO_10.out); rintro e w36 ⟨rfl, hy0, hb, hkp⟩; refine ⟨_, rfl, ?_⟩; have n0_ := Aside0.mk (Kd.R_mono (ok' := fun k_ => some k_ ≠ (.slice Ao17 t245.length co17 : Value).ownBlock ∧ some k_ ≠ (v250 : Value).ownBlock ∧ some k_ ≠ (.slice Ao34 t253.length co34 : Value).ownBlock) (Kd.R_keptB (HO_8.out) hkp (fun k_ hk_ hs_ => (hk_.1.1) hs_)) (fun k_ hk_ => ⟨hk_.1.1.1, hk_.1.1.2, hk_.1.2⟩)); have n1_ := Aside0.mk (Kd.R_reok rfl hy0 (fun k_ e_ => HO_10.out.1 k_ e_)); have n2_ := Aside0.mk (Kd.R_mono (ok' := fun k_ => some k_ ≠ (v243 : Value).ownBlock ∧ some k_ ≠ (.slice Ao17 t245.length co17 : Value).ownBlock ∧ some k_ ≠ (.slice Ao34 t253.length co34 : Value).ownBlock) (Kd.R_keptB (HO_11.out) hkp (fun k_ hk_ hs_ => (hk_.1.2) hs_)) (fun k_ hk_ => ⟨hk_.1.1.1, hk_.1.1.2, hk_.1.2⟩)); have n3_ := Aside0.mk (Kd.R_mono (ok' := fun k_ => some k_ ≠ (v243 : Value).ownBlock ∧ some k_ ≠ (.slice Ao17 t245.length co17 : Value).ownBlock ∧ some k_ ≠ (v250 : Value).ownBlock) (Kd.R_keptB (HO255.out) hkp (fun k_ hk_ hs_ => (hk_.1.2) hs_)) (fun k_ hk_ => ⟨hk_.1.1.1.2, hk_.1.1.2, hk_.1.2⟩)); have n4_ := Aside0.mk (hb); clear HO_8; clear HO_10; clear HO_11; clear HO255; clear HB; have HO_8 := n0_; have HO_10 := n1_; have HO_11 := n2_; have HO255 := n3_; have HB := n4_; clear n0_ n1_ n2_ n3_ n4_; (try clear hb); (try clear hkp); (try clear hy0)))
            (try simp only [Act.put, List.setIfInBounds_toArray, List.set_cons_zero, List.set_cons_succ])
            go_cut [69] (fun v69 wc => ∃ (kq : Nat) (x69_31 : Bool), v69 = .bool x69_31 ∧ Aside0 (laws_FnExactDecidePermit.j1 kq l0 a1 a2 t241 t242 t248 x69_31 = some r) ∧ Aside0 (kq ≤ kj10) ∧ Aside0 (Kd.R k26 26 wc w.heap.size (fun k_ => some k_ ≠ (v250 : Value).ownBlock) v243 t241) ∧ Aside0 (Kd.R k26 26 wc w.heap.size (fun k_ => some k_ ≠ (v243 : Value).ownBlock) v250 t248) ∧ Aside0 (Below w.heap.size w wc))
            case first =>
              have H := HC32.out
              clear HC32
              by_cases c37 : t257 < 0
              · rw [if_pos c37] at H
                have c37b0 : decide (t257 < 0) = true := decide_eq_true c37
                clear c37
                (first | rw [c37b0] | (simp only [i64_w, i32_w]; rw [c37b0]) | skip)
                have H' := Aside0.mk H
                clear H
                go_wp2
                go_meet
                case rel => exact ⟨_, (true), (by first | rfl | (simp; done) | (simp [*]; done)), H', ⟨by have := HJ10.out; first | omega | exact Nat.le_refl _⟩, ⟨by (with_reducible repeat (first | apply Kd.R_alloc | apply Kd.R_drewN | apply Kd.R_drew)); exact Kd.R_mono HO_8.out (fun _ hk => hk.2.1)⟩, ⟨by (with_reducible repeat (first | apply Kd.R_alloc | apply Kd.R_drewN | apply Kd.R_drew)); exact Kd.R_mono HO_11.out (fun _ hk => hk.1)⟩, ⟨(upB HB.out)⟩⟩
              · rw [if_neg c37] at H
                have c37b0 : decide (t257 < 0) = false := decide_eq_false c37
                clear c37
                (first | rw [c37b0] | (simp only [i64_w, i32_w]; rw [c37b0]) | skip)
                replace H := Option.bind_eq_some_iff.mp H
                obtain ⟨t259, A380, H⟩ := H
                replace H : (if t259 = true then (laws_FnExactDecidePermit.j1 kj10 l0 a1 a2 t241 t242 t248 (t249 != t242)) else (laws_FnExactDecidePermit.j1 kj10 l0 a1 a2 t241 t242 t248 true)) = some r := H
                have A38 := Aside0.mk A380
                clear A380
                by_cases c39 : t259 = true
                · subst c39
                  have H1 : (laws_FnExactDecidePermit.j1 kj10 l0 a1 a2 t241 t242 t248 (t249 != t242)) = some r := by rw [if_pos rfl] at H; exact H
                  clear H
                  have H := H1
                  clear H1
                  have H' := Aside0.mk H
                  clear H
                  obtain ⟨Ao40, co40, eo40⟩ := Kd.R_slice HO_11.out
                  subst eo40
                  obtain ⟨Ao41, co41, eo41⟩ := Kd.R_slice HO_8.out
                  subst eo41
                  go_wp2_with (first | (go_at_call 22; (with_reducible refine (laws_eqPermitS.calls kj10 _ _ t248 _ _ t241 true _ ?side1 ?side2 ?side3 ?side4 A38.out).mono ?_); (case side1 => repeat (first | exact (Kd.R_reads' HO_11.out).2.2 | (with_reducible refine Kd.C_alloc ?_ _) | (with_reducible refine Kd.C_drewN ?_ _) | (with_reducible refine Kd.C_drew ?_))); (case side2 => exact (Kd.R_reads' HO_11.out).2.1); (case side3 => repeat (first | exact (Kd.R_reads' HO_8.out).2.2 | (with_reducible refine Kd.C_alloc ?_ _) | (with_reducible refine Kd.C_drewN ?_ _) | (with_reducible refine Kd.C_drew ?_))); (case side4 => exact (Kd.R_reads' HO_8.out).2.1); rintro e w42 ⟨rfl, hb⟩; have n0_ := Aside0.mk (Kd.R_below (upR HO_8.out) hb); have n1_ := Aside0.mk (Kd.R_below (upR HO_10.out) hb); have n2_ := Aside0.mk (Kd.R_below (upR HO_11.out) hb); have n3_ := Aside0.mk (Kd.R_below (upR HO255.out) hb); have n4_ := Aside0.mk (below_step (upB HB.out) hb); clear HO_8; clear HO_10; clear HO_11; clear HO255; clear HB; have HO_8 := n0_; have HO_10 := n1_; have HO_11 := n2_; have HO255 := n3_; have HB := n4_; clear n0_ n1_ n2_ n3_ n4_; (try clear hb); (try clear hk)))
                  go_meet
                  case rel => exact ⟨_, ((t249 != t242)), (by first | rfl | (simp; done) | (simp [*]; done)), H', ⟨by have := HJ10.out; first | omega | exact Nat.le_refl _⟩, ⟨by (with_reducible repeat (first | apply Kd.R_alloc | apply Kd.R_drewN | apply Kd.R_drew)); exact Kd.R_mono HO_8.out (fun _ hk => hk.2.1)⟩, ⟨by (with_reducible repeat (first | apply Kd.R_alloc | apply Kd.R_drewN | apply Kd.R_drew)); exact Kd.R_mono HO_11.out (fun _ hk => hk.1)⟩, ⟨(upB HB.out)⟩⟩
                · replace c39 := Bool.eq_false_iff.mpr c39
                  subst c39
                  have H1 : (laws_FnExactDecidePermit.j1 kj10 l0 a1 a2 t241 t242 t248 true) = some r := by rw [if_neg (show ¬ (false = true) by decide)] at H; exact H
                  clear H
                  have H := H1
                  clear H1
                  have H' := Aside0.mk H
                  clear H
                  obtain ⟨Ao43, co43, eo43⟩ := Kd.R_slice HO_11.out
                  subst eo43
                  obtain ⟨Ao44, co44, eo44⟩ := Kd.R_slice HO_8.out
                  subst eo44
                  go_wp2_with (first | (go_at_call 22; (with_reducible refine (laws_eqPermitS.calls kj10 _ _ t248 _ _ t241 false _ ?side1 ?side2 ?side3 ?side4 A38.out).mono ?_); (case side1 => repeat (first | exact (Kd.R_reads' HO_11.out).2.2 | (with_reducible refine Kd.C_alloc ?_ _) | (with_reducible refine Kd.C_drewN ?_ _) | (with_reducible refine Kd.C_drew ?_))); (case side2 => exact (Kd.R_reads' HO_11.out).2.1); (case side3 => repeat (first | exact (Kd.R_reads' HO_8.out).2.2 | (with_reducible refine Kd.C_alloc ?_ _) | (with_reducible refine Kd.C_drewN ?_ _) | (with_reducible refine Kd.C_drew ?_))); (case side4 => exact (Kd.R_reads' HO_8.out).2.1); rintro e w45 ⟨rfl, hb⟩; have n0_ := Aside0.mk (Kd.R_below (upR HO_8.out) hb); have n1_ := Aside0.mk (Kd.R_below (upR HO_10.out) hb); have n2_ := Aside0.mk (Kd.R_below (upR HO_11.out) hb); have n3_ := Aside0.mk (Kd.R_below (upR HO255.out) hb); have n4_ := Aside0.mk (below_step (upB HB.out) hb); clear HO_8; clear HO_10; clear HO_11; clear HO255; clear HB; have HO_8 := n0_; have HO_10 := n1_; have HO_11 := n2_; have HO255 := n3_; have HB := n4_; clear n0_ n1_ n2_ n3_ n4_; (try clear hb); (try clear hk)))
                  go_meet
                  case rel => exact ⟨_, (true), (by first | rfl | (simp; done) | (simp [*]; done)), H', ⟨by have := HJ10.out; first | omega | exact Nat.le_refl _⟩, ⟨by (with_reducible repeat (first | apply Kd.R_alloc | apply Kd.R_drewN | apply Kd.R_drew)); exact Kd.R_mono HO_8.out (fun _ hk => hk.2.1)⟩, ⟨by (with_reducible repeat (first | apply Kd.R_alloc | apply Kd.R_drewN | apply Kd.R_drew)); exact Kd.R_mono HO_11.out (fun _ hk => hk.1)⟩, ⟨(upB HB.out)⟩⟩
            case rest =>
              clear HC32
              try clear c5
              try clear c5b0
              try clear c20
              try clear c27
              try clear c30
              try clear c37
              try clear c37b0
              try clear c39
              obtain ⟨kq, x69_31, rfl, HA, HJ31, HO_8, HO_11, HB⟩ := hcut
              cases kq with
              | zero => exact absurd HA.out (by simp [laws_FnExactDecidePermit.j1])
              | succ kj31 =>
                have H := HA.out
                clear HA
                simp only [laws_FnExactDecidePermit.j1] at H
                by_cases c46 : x69_31 = true
                · subst c46
                  have H1 : (some false) = some r := by rw [if_pos rfl] at H; exact H
                  clear H
                  have H := H1
                  clear H1
                  exact absurd (Option.some.inj H) (by rw [hT]; decide)
                · replace c46 := Bool.eq_false_iff.mpr c46
                  subst c46
                  have H1 : ((laws_markPermitS.f kj31 t248 1).bind fun bt260 => ((laws_heldPermitS.f kj31 bt260.2 1).bind fun t262 => (if t262 < 0 then (some false) else (if t262 = bt260.1 then ((laws_toPermitS.f kj31 l0).bind fun t263 => ((impl_DecidePermit.f kj31 t263 a1 a2).bind fun bt266 => ((laws_eqPermitS.f kj31 bt266.1 t241).bind fun t270 => (if t270 = true then (laws_FnExactDecidePermit.j2 kj31 bt260.2 bt260.1 (bt266.2 != t242)) else (laws_FnExactDecidePermit.j2 kj31 bt260.2 bt260.1 true))))) else (some false))))) = some r := by rw [if_neg (show ¬ (false = true) by decide)] at H; exact H
                  clear H
                  have H := H1
                  clear H1
                  replace H := Option.bind_eq_some_iff.mp H
                  obtain ⟨⟨t260, t261⟩, A470, H⟩ := H
                  replace H : ((laws_heldPermitS.f kj31 t261 1).bind fun t262 => (if t262 < 0 then (some false) else (if t262 = t260 then ((laws_toPermitS.f kj31 l0).bind fun t263 => ((impl_DecidePermit.f kj31 t263 a1 a2).bind fun bt266 => ((laws_eqPermitS.f kj31 bt266.1 t241).bind fun t270 => (if t270 = true then (laws_FnExactDecidePermit.j2 kj31 t261 t260 (bt266.2 != t242)) else (laws_FnExactDecidePermit.j2 kj31 t261 t260 true))))) else (some false)))) = some r := H
                  have A47 := Aside0.mk A470
                  clear A470
                  replace H := Option.bind_eq_some_iff.mp H
                  obtain ⟨t262, A480, H⟩ := H
                  replace H : (if t262 < 0 then (some false) else (if t262 = t260 then ((laws_toPermitS.f kj31 l0).bind fun t263 => ((impl_DecidePermit.f kj31 t263 a1 a2).bind fun bt266 => ((laws_eqPermitS.f kj31 bt266.1 t241).bind fun t270 => (if t270 = true then (laws_FnExactDecidePermit.j2 kj31 t261 t260 (bt266.2 != t242)) else (laws_FnExactDecidePermit.j2 kj31 t261 t260 true))))) else (some false))) = some r := H
                  have A48 := Aside0.mk A480
                  clear A480
                  by_cases c49 : t262 < 0
                  · rw [if_pos c49] at H
                    have c49b0 : decide (t262 < 0) = true := decide_eq_true c49
                    clear c49
                    exact absurd (Option.some.inj H) (by rw [hT]; decide)
                  · rw [if_neg c49] at H
                    have c49b0 : decide (t262 < 0) = false := decide_eq_false c49
                    clear c49
                    by_cases c53 : t262 = t260
                    · rw [if_pos c53] at H
                      have c53b0 : (t262 == t260) = true := beq_iff_eq.mpr c53
                      have c53b1 : (t262 != t260) = false := bne_eq_false_iff_eq.mpr c53
                      clear c53
                      replace H := Option.bind_eq_some_iff.mp H
                      obtain ⟨t263, A540, H⟩ := H
                      replace H : ((impl_DecidePermit.f kj31 t263 a1 a2).bind fun bt266 => ((laws_eqPermitS.f kj31 bt266.1 t241).bind fun t270 => (if t270 = true then (laws_FnExactDecidePermit.j2 kj31 t261 t260 (bt266.2 != t242)) else (laws_FnExactDecidePermit.j2 kj31 t261 t260 true)))) = some r := H
                      have A54 := Aside0.mk A540
                      clear A540
                      replace H := Option.bind_eq_some_iff.mp H
                      obtain ⟨⟨t266, t267⟩, A550, H⟩ := H
                      replace H : ((laws_eqPermitS.f kj31 t266 t241).bind fun t270 => (if t270 = true then (laws_FnExactDecidePermit.j2 kj31 t261 t260 (t267 != t242)) else (laws_FnExactDecidePermit.j2 kj31 t261 t260 true))) = some r := H
                      have A55 := Aside0.mk A550
                      clear A550
                      have HC56 := Aside0.mk H
                      clear H
                      obtain ⟨Ao57, co57, eo57⟩ := Kd.R_slice HO_11.out
                      subst eo57
                      go_upto_region 25 with (first | ((with_reducible refine gate_callee (f := 29) rfl ?_); refine goesL_ (some 72) rfl rfl Tryd.func29 (by kernel_rfl) rfl #[.slice Ao57 t248.length co57, .int .i64 1] rfl argsB ?_; (with_reducible refine (laws_markPermitS.calls kj31 (fun k_ => some k_ = (.slice Ao57 t248.length co57 : Value).ownBlock) (.slice Ao57 t248.length co57) t248 1 t260 t261 w _ ?side1 ?side2 A47.out).mono ?_); (case side1 => repeat (first | (with_reducible first | exact HB.out | apply below_alloc | apply pw_below_drewN | apply below_drew1) | exact HB.out)); (case side2 => exact Kd.R_tight rfl HO_11.out); rintro e w58 ⟨rfl, hy0, hb, hkp⟩; refine ⟨_, rfl, ?_⟩; have n0_ := Aside0.mk (Kd.R_mono (ok' := fun k_ => some k_ ≠ (.slice Ao57 t248.length co57 : Value).ownBlock) (Kd.R_keptB (HO_8.out) hkp (fun k_ hk_ hs_ => (hk_) hs_)) (fun k_ hk_ => hk_.1)); have n1_ := Aside0.mk (Kd.R_reok rfl hy0 (fun k_ e_ => HO_11.out.1 k_ e_)); have n2_ := Aside0.mk (hb); clear HO_8; clear HO_11; clear HB; have HO_8 := n0_; have HO_11 := n1_; have HB := n2_; clear n0_ n1_ n2_; (try clear hb); (try clear hkp); (try clear hy0)) | ((with_reducible refine gate_callee (f := 30) rfl ?_); refine goesL_ (some 75) rfl rfl Tryd.func30 (by kernel_rfl) rfl #[.slice Ao57 t261.length co57, .int .i64 1] rfl (by (try simp only [List.map_toArray, List.map_cons, List.map_nil]); first | done | (rw [show t261.length = t248.length from (Kd.R_reads' HO_11.out).1.symm] <;> rfl) | rfl | (simp only [List.length_drop, List.length_take]; rfl)) ?_; (with_reducible refine (laws_heldPermitS.calls kj31 _ _ t261 1 t262 _ ?side1 ?side2 A48.out).mono ?_); (case side1 => repeat (first | exact (Kd.R_reads' HO_11.out).2.2 | (with_reducible refine Kd.C_alloc ?_ _) | (with_reducible refine Kd.C_drewN ?_ _) | (with_reducible refine Kd.C_drew ?_))); (case side2 => rw [show t261.length = t248.length from (Kd.R_reads' HO_11.out).1.symm]; exact (Kd.R_reads' HO_11.out).2.1); rintro e w59 ⟨rfl, hb⟩; refine ⟨_, rfl, ?_⟩; have n0_ := Aside0.mk (Kd.R_below (upR HO_8.out) hb); have n1_ := Aside0.mk (Kd.R_below (upR HO_11.out) hb); have n2_ := Aside0.mk (below_step (upB HB.out) hb); clear HO_8; clear HO_11; clear HB; have HO_8 := n0_; have HO_11 := n1_; have HB := n2_; clear n0_ n1_ n2_; (try clear hb); (try clear hk)) | ((with_reducible refine gate_callee (f := 20) rfl ?_); refine goesL_ (some 83) rfl rfl Tryd.func20 (by kernel_rfl) rfl #[.slice A0 l0.length c0] rfl argsB ?_; (with_reducible refine (laws_toPermitS.calls kj31 _ _ l0 t263 _ ?side1 ?side2 A54.out).mono ?_); (case side1 => repeat (first | exact (Kd.C_below HR0.out HB.out) | (with_reducible refine Kd.C_alloc ?_ _) | (with_reducible refine Kd.C_drewN ?_ _) | (with_reducible refine Kd.C_drew ?_))); (case side2 => exact HC0.out); rintro e w60 ⟨v264, rfl, ho0, hb⟩; refine ⟨_, rfl, ?_⟩; have n0_ := Aside0.mk (Kd.R_elder' (upR HO_8.out) (Kd.R_base ho0) hb); have n1_ := Aside0.mk (Kd.R_elder' (upR HO_11.out) (Kd.R_base ho0) hb); have n2_ := Aside0.mk (Kd.R_lower (Kd.R_new' (Kd.R_new' ho0 (Kd.R_lt (upR HO_8.out))) (Kd.R_lt (upR HO_11.out))) (below_size (upB HB.out))); have n3_ := Aside0.mk (below_step (upB HB.out) hb); clear HO_8; clear HO_11; clear HB; have HO_8 := n0_; have HO_11 := n1_; have HO265 := n2_; have HB := n3_; clear n0_ n1_ n2_ n3_; (try clear hb); (try clear hk); (try clear ho0); obtain ⟨Ao61, co61, eo61⟩ := Kd.R_slice HO265.out; subst eo61) | ((with_reducible refine gate_callee (f := 36) rfl ?_); refine goesL_ (some 86) rfl rfl Tryd.func36 (by kernel_rfl) rfl #[.slice Ao61 t263.length co61, .int .i64 a1, .bool a2] rfl argsB ?_; (with_reducible refine (impl_DecidePermit.calls kj31 _ _ t263 a1 a2 t266 t267 _ ?side1 ?side2 A55.out).mono ?_); (case side1 => repeat (first | exact (Kd.R_reads' HO265.out).2.2 | (with_reducible refine Kd.C_alloc ?_ _) | (with_reducible refine Kd.C_drewN ?_ _) | (with_reducible refine Kd.C_drew ?_))); (case side2 => exact (Kd.R_reads' HO265.out).2.1); rintro e w62 ⟨v268, rfl, ho0, hb⟩; refine ⟨_, rfl, ?_⟩; have n0_ := Aside0.mk (Kd.R_elder' (upR HO_8.out) (Kd.R_base ho0) hb); have n1_ := Aside0.mk (Kd.R_elder' (upR HO_11.out) (Kd.R_base ho0) hb); have n2_ := Aside0.mk (Kd.R_elder' (upR HO265.out) (Kd.R_base ho0) hb); have n3_ := Aside0.mk (Kd.R_lower (Kd.R_new' (Kd.R_new' (Kd.R_new' ho0 (Kd.R_lt (upR HO_8.out))) (Kd.R_lt (upR HO_11.out))) (Kd.R_lt (upR HO265.out))) (below_size (upB HB.out))); have n4_ := Aside0.mk (below_step (upB HB.out) hb); clear HO_8; clear HO_11; clear HO265; clear HB; have HO_8 := n0_; have HO_11 := n1_; have HO265 := n2_; have HO269 := n3_; have HB := n4_; clear n0_ n1_ n2_ n3_ n4_; (try clear hb); (try clear hk); (try clear ho0)))
                      (try simp only [Act.put, List.setIfInBounds_toArray, List.set_cons_zero, List.set_cons_succ])
                      go_cut [97] (fun v97 wc => ∃ (kq : Nat) (x97_55 : Bool), v97 = .bool x97_55 ∧ Aside0 (laws_FnExactDecidePermit.j2 kq t261 t260 x97_55 = some r) ∧ Aside0 (kq ≤ kj31) ∧ Aside0 (Kd.R k26 26 wc w.heap.size (fun _ => True) (.slice Ao57 t248.length co57) t261) ∧ Aside0 (Below w.heap.size w wc))
                      case first =>
                        have H := HC56.out
                        clear HC56
                        replace H := Option.bind_eq_some_iff.mp H
                        obtain ⟨t270, A630, H⟩ := H
                        replace H : (if t270 = true then (laws_FnExactDecidePermit.j2 kj31 t261 t260 (t267 != t242)) else (laws_FnExactDecidePermit.j2 kj31 t261 t260 true)) = some r := H
                        have A63 := Aside0.mk A630
                        clear A630
                        by_cases c64 : t270 = true
                        · subst c64
                          have H1 : (laws_FnExactDecidePermit.j2 kj31 t261 t260 (t267 != t242)) = some r := by rw [if_pos rfl] at H; exact H
                          clear H
                          have H := H1
                          clear H1
                          have H' := Aside0.mk H
                          clear H
                          obtain ⟨Ao65, co65, eo65⟩ := Kd.R_slice HO269.out
                          subst eo65
                          obtain ⟨Ao66, co66, eo66⟩ := Kd.R_slice HO_8.out
                          subst eo66
                          go_wp2_with (first | ((with_reducible refine gate_callee (f := 22) rfl ?_); refine goesL_ (some 91) rfl rfl Tryd.func22 (by kernel_rfl) rfl #[.slice Ao65 t266.length co65, .slice Ao66 t241.length co66] rfl argsB ?_; (with_reducible refine (laws_eqPermitS.calls kj31 _ _ t266 _ _ t241 true _ ?side1 ?side2 ?side3 ?side4 A63.out).mono ?_); (case side1 => repeat (first | exact (Kd.R_reads' HO269.out).2.2 | (with_reducible refine Kd.C_alloc ?_ _) | (with_reducible refine Kd.C_drewN ?_ _) | (with_reducible refine Kd.C_drew ?_))); (case side2 => exact (Kd.R_reads' HO269.out).2.1); (case side3 => repeat (first | exact (Kd.R_reads' HO_8.out).2.2 | (with_reducible refine Kd.C_alloc ?_ _) | (with_reducible refine Kd.C_drewN ?_ _) | (with_reducible refine Kd.C_drew ?_))); (case side4 => exact (Kd.R_reads' HO_8.out).2.1); rintro e w67 ⟨rfl, hb⟩; refine ⟨_, rfl, ?_⟩; have n0_ := Aside0.mk (Kd.R_below (upR HO_8.out) hb); have n1_ := Aside0.mk (Kd.R_below (upR HO_11.out) hb); have n2_ := Aside0.mk (Kd.R_below (upR HO265.out) hb); have n3_ := Aside0.mk (Kd.R_below (upR HO269.out) hb); have n4_ := Aside0.mk (below_step (upB HB.out) hb); clear HO_8; clear HO_11; clear HO265; clear HO269; clear HB; have HO_8 := n0_; have HO_11 := n1_; have HO265 := n2_; have HO269 := n3_; have HB := n4_; clear n0_ n1_ n2_ n3_ n4_; (try clear hb); (try clear hk)))
                          go_meet
                          case rel => exact ⟨_, ((t267 != t242)), (by first | rfl | (simp; done) | (simp [*]; done)), H', ⟨by have := HJ10.out; have := HJ31.out; first | omega | exact Nat.le_refl _⟩, ⟨by (with_reducible repeat (first | apply Kd.R_alloc | apply Kd.R_drewN | apply Kd.R_drew)); exact Kd.R_mono HO_11.out (fun _ hk => trivial)⟩, ⟨(upB HB.out)⟩⟩
                        · replace c64 := Bool.eq_false_iff.mpr c64
                          subst c64
                          have H1 : (laws_FnExactDecidePermit.j2 kj31 t261 t260 true) = some r := by rw [if_neg (show ¬ (false = true) by decide)] at H; exact H
                          clear H
                          have H := H1
                          clear H1
                          have H' := Aside0.mk H
                          clear H
                          obtain ⟨Ao68, co68, eo68⟩ := Kd.R_slice HO269.out
                          subst eo68
                          obtain ⟨Ao69, co69, eo69⟩ := Kd.R_slice HO_8.out
                          subst eo69
                          go_wp2_with (first | ((with_reducible refine gate_callee (f := 22) rfl ?_); refine goesL_ (some 91) rfl rfl Tryd.func22 (by kernel_rfl) rfl #[.slice Ao68 t266.length co68, .slice Ao69 t241.length co69] rfl argsB ?_; (with_reducible refine (laws_eqPermitS.calls kj31 _ _ t266 _ _ t241 false _ ?side1 ?side2 ?side3 ?side4 A63.out).mono ?_); (case side1 => repeat (first | exact (Kd.R_reads' HO269.out).2.2 | (with_reducible refine Kd.C_alloc ?_ _) | (with_reducible refine Kd.C_drewN ?_ _) | (with_reducible refine Kd.C_drew ?_))); (case side2 => exact (Kd.R_reads' HO269.out).2.1); (case side3 => repeat (first | exact (Kd.R_reads' HO_8.out).2.2 | (with_reducible refine Kd.C_alloc ?_ _) | (with_reducible refine Kd.C_drewN ?_ _) | (with_reducible refine Kd.C_drew ?_))); (case side4 => exact (Kd.R_reads' HO_8.out).2.1); rintro e w70 ⟨rfl, hb⟩; refine ⟨_, rfl, ?_⟩; have n0_ := Aside0.mk (Kd.R_below (upR HO_8.out) hb); have n1_ := Aside0.mk (Kd.R_below (upR HO_11.out) hb); have n2_ := Aside0.mk (Kd.R_below (upR HO265.out) hb); have n3_ := Aside0.mk (Kd.R_below (upR HO269.out) hb); have n4_ := Aside0.mk (below_step (upB HB.out) hb); clear HO_8; clear HO_11; clear HO265; clear HO269; clear HB; have HO_8 := n0_; have HO_11 := n1_; have HO265 := n2_; have HO269 := n3_; have HB := n4_; clear n0_ n1_ n2_ n3_ n4_; (try clear hb); (try clear hk)))
                          go_meet
                          case rel => exact ⟨_, (true), (by first | rfl | (simp; done) | (simp [*]; done)), H', ⟨by have := HJ10.out; have := HJ31.out; first | omega | exact Nat.le_refl _⟩, ⟨by (with_reducible repeat (first | apply Kd.R_alloc | apply Kd.R_drewN | apply Kd.R_drew)); exact Kd.R_mono HO_11.out (fun _ hk => trivial)⟩, ⟨(upB HB.out)⟩⟩
                      case rest =>
                        clear HC56
                        try clear c5
                        try clear c5b0
                        try clear c20
                        try clear c27
                        try clear c30
                        try clear c37
                        try clear c37b0
                        try clear c39
                        try clear c46
                        try clear c49
                        try clear c49b0
                        try clear c53
                        try clear c53b0
                        try clear c53b1
                        try clear c64
                        obtain ⟨kq, x97_55, rfl, HA, HJ55, HO_11, HB⟩ := hcut
                        have hl11_55 := (Kd.R_reads' HO_11.out).1
                        rw [hl11_55] at HO_11
                        (try simp only [hl11_55])
                        cases kq with
                        | zero => exact absurd HA.out (by simp [laws_FnExactDecidePermit.j2])
                        | succ kj55 =>
                          have H := HA.out
                          clear HA
                          simp only [laws_FnExactDecidePermit.j2] at H
                          by_cases c71 : x97_55 = true
                          · subst c71
                            have H1 : (some false) = some r := by rw [if_pos rfl] at H; exact H
                            clear H
                            have H := H1
                            clear H1
                            exact absurd (Option.some.inj H) (by rw [hT]; decide)
                          · replace c71 := Bool.eq_false_iff.mpr c71
                            subst c71
                            have H1 : ((laws_heldPermitS.f kj55 t261 1).bind fun t271 => (if t271 < 0 then (some false) else (if t271 = t260 then (some true) else (some false)))) = some r := by rw [if_neg (show ¬ (false = true) by decide)] at H; exact H
                            clear H
                            have H := H1
                            clear H1
                            replace H := Option.bind_eq_some_iff.mp H
                            obtain ⟨t271, A720, H⟩ := H
                            replace H : (if t271 < 0 then (some false) else (if t271 = t260 then (some true) else (some false))) = some r := H
                            have A72 := Aside0.mk A720
                            clear A720
                            by_cases c73 : t271 < 0
                            · rw [if_pos c73] at H
                              have c73b0 : decide (t271 < 0) = true := decide_eq_true c73
                              clear c73
                              exact absurd (Option.some.inj H) (by rw [hT]; decide)
                            · rw [if_neg c73] at H
                              have c73b0 : decide (t271 < 0) = false := decide_eq_false c73
                              clear c73
                              by_cases c75 : t271 = t260
                              · rw [if_pos c75] at H
                                have c75b0 : (t271 == t260) = true := beq_iff_eq.mpr c75
                                have c75b1 : (t271 != t260) = false := bne_eq_false_iff_eq.mpr c75
                                clear c75
                                obtain rfl := (Option.some.inj H)
                                go_wp2_with (first | ((with_reducible refine gate_callee (f := 30) rfl ?_); refine goesL_ (some 100) rfl rfl Tryd.func30 (by kernel_rfl) rfl #[.slice Ao57 t261.length co57, .int .i64 1] rfl argsB ?_; (with_reducible refine (laws_heldPermitS.calls kj55 _ _ t261 1 t271 _ ?side1 ?side2 A72.out).mono ?_); (case side1 => repeat (first | exact (Kd.R_reads' HO_11.out).2.2 | (with_reducible refine Kd.C_alloc ?_ _) | (with_reducible refine Kd.C_drewN ?_ _) | (with_reducible refine Kd.C_drew ?_))); (case side2 => exact (Kd.R_reads' HO_11.out).2.1); rintro e w76 ⟨rfl, hb⟩; refine ⟨_, rfl, ?_⟩; have n0_ := Aside0.mk (Kd.R_below (upR HO_11.out) hb); have n1_ := Aside0.mk (below_step (upB HB.out) hb); clear HO_11; clear HB; have HO_11 := n0_; have HB := n1_; clear n0_ n1_; (try clear hb); (try clear hk)))
                                go_ret
                                exact ⟨by first | rfl | (simp [errW_none, errW_some] <;> rfl) | (simp [*, errW_none, errW_some] <;> rfl), (upB HB.out)⟩
                              · rw [if_neg c75] at H
                                have c75b0 : (t271 == t260) = false := beq_eq_false_iff_ne.mpr c75
                                have c75b1 : (t271 != t260) = true := bne_iff_ne.mpr c75
                                obtain rfl := (Option.some.inj H)
                                go_wp2_with (first | ((with_reducible refine gate_callee (f := 30) rfl ?_); refine goesL_ (some 100) rfl rfl Tryd.func30 (by kernel_rfl) rfl #[.slice Ao57 t261.length co57, .int .i64 1] rfl argsB ?_; (with_reducible refine (laws_heldPermitS.calls kj55 _ _ t261 1 t271 _ ?side1 ?side2 A72.out).mono ?_); (case side1 => repeat (first | exact (Kd.R_reads' HO_11.out).2.2 | (with_reducible refine Kd.C_alloc ?_ _) | (with_reducible refine Kd.C_drewN ?_ _) | (with_reducible refine Kd.C_drew ?_))); (case side2 => exact (Kd.R_reads' HO_11.out).2.1); rintro e w77 ⟨rfl, hb⟩; refine ⟨_, rfl, ?_⟩; have n0_ := Aside0.mk (Kd.R_below (upR HO_11.out) hb); have n1_ := Aside0.mk (below_step (upB HB.out) hb); clear HO_11; clear HB; have HO_11 := n0_; have HB := n1_; clear n0_ n1_; (try clear hb); (try clear hk)))
                                go_ret
                                exact ⟨by first | rfl | (simp [errW_none, errW_some] <;> rfl) | (simp [*, errW_none, errW_some] <;> rfl), (upB HB.out)⟩
                    · rw [if_neg c53] at H
                      have c53b0 : (t262 == t260) = false := beq_eq_false_iff_ne.mpr c53
                      have c53b1 : (t262 != t260) = true := bne_iff_ne.mpr c53
                      obtain rfl := (Option.some.inj H)
                      obtain ⟨Ao78, co78, eo78⟩ := Kd.R_slice HO_11.out
                      subst eo78
                      go_wp2_with (first | ((with_reducible refine gate_callee (f := 29) rfl ?_); refine goesL_ (some 72) rfl rfl Tryd.func29 (by kernel_rfl) rfl #[.slice Ao78 t248.length co78, .int .i64 1] rfl argsB ?_; (with_reducible refine (laws_markPermitS.calls kj31 (fun k_ => some k_ = (.slice Ao78 t248.length co78 : Value).ownBlock) (.slice Ao78 t248.length co78) t248 1 t260 t261 w _ ?side1 ?side2 A47.out).mono ?_); (case side1 => repeat (first | (with_reducible first | exact HB.out | apply below_alloc | apply pw_below_drewN | apply below_drew1) | exact HB.out)); (case side2 => exact Kd.R_tight rfl HO_11.out); rintro e w79 ⟨rfl, hy0, hb, hkp⟩; refine ⟨_, rfl, ?_⟩; have n0_ := Aside0.mk (Kd.R_mono (ok' := fun k_ => some k_ ≠ (.slice Ao78 t248.length co78 : Value).ownBlock) (Kd.R_keptB (HO_8.out) hkp (fun k_ hk_ hs_ => (hk_) hs_)) (fun k_ hk_ => hk_.1)); have n1_ := Aside0.mk (Kd.R_reok rfl hy0 (fun k_ e_ => HO_11.out.1 k_ e_)); have n2_ := Aside0.mk (hb); clear HO_8; clear HO_11; clear HB; have HO_8 := n0_; have HO_11 := n1_; have HB := n2_; clear n0_ n1_ n2_; (try clear hb); (try clear hkp); (try clear hy0)) | ((with_reducible refine gate_callee (f := 30) rfl ?_); refine goesL_ (some 75) rfl rfl Tryd.func30 (by kernel_rfl) rfl #[.slice Ao78 t261.length co78, .int .i64 1] rfl (by (try simp only [List.map_toArray, List.map_cons, List.map_nil]); first | done | (rw [show t261.length = t248.length from (Kd.R_reads' HO_11.out).1.symm] <;> rfl) | rfl | (simp only [List.length_drop, List.length_take]; rfl)) ?_; (with_reducible refine (laws_heldPermitS.calls kj31 _ _ t261 1 t262 _ ?side1 ?side2 A48.out).mono ?_); (case side1 => repeat (first | exact (Kd.R_reads' HO_11.out).2.2 | (with_reducible refine Kd.C_alloc ?_ _) | (with_reducible refine Kd.C_drewN ?_ _) | (with_reducible refine Kd.C_drew ?_))); (case side2 => rw [show t261.length = t248.length from (Kd.R_reads' HO_11.out).1.symm]; exact (Kd.R_reads' HO_11.out).2.1); rintro e w80 ⟨rfl, hb⟩; refine ⟨_, rfl, ?_⟩; have n0_ := Aside0.mk (Kd.R_below (upR HO_8.out) hb); have n1_ := Aside0.mk (Kd.R_below (upR HO_11.out) hb); have n2_ := Aside0.mk (below_step (upB HB.out) hb); clear HO_8; clear HO_11; clear HB; have HO_8 := n0_; have HO_11 := n1_; have HB := n2_; clear n0_ n1_ n2_; (try clear hb); (try clear hk)))
                      go_ret
                      exact ⟨by first | rfl | (simp [errW_none, errW_some] <;> rfl) | (simp [*, errW_none, errW_some] <;> rfl), (upB HB.out)⟩
          · replace c30 := Bool.eq_false_iff.mpr c30
            subst c30
            have H1 : (some false) = some r := by rw [if_neg (show ¬ (false = true) by decide)] at H; exact H
            clear H
            have H := H1
            clear H1
            exact absurd (Option.some.inj H) (by rw [hT]; decide)

end Go.Proofs.YtgeioccfjgpijaaDoor.QFnExactDecidePermit
