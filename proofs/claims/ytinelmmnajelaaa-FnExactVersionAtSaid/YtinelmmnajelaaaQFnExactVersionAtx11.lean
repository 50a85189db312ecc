/- Contracts of Go functions that FnExactVersionAt reaches: the call computes what the plain function says. No condition. -/
import Derived.Test.YtinelmmnajelaaaQFnExactVersionAtx0
import Derived.Test.YtinelmmnajelaaaQFnExactVersionAtx2
import Derived.Test.YtinelmmnajelaaaQFnExactVersionAtx3
import Derived.Test.YtinelmmnajelaaaQFnExactVersionAtx4
import Derived.Test.YtinelmmnajelaaaQFnExactVersionAtx7
import Derived.Test.YtinelmmnajelaaaQFnExactVersionAtx10
namespace Go.Proofs.Ytinelmmnajelaaa.QFnExactVersionAt
open Go.RowKit Go.Proofs.YtinelmmnajelaaaW.PrintWords Go.Proofs.YtinelmmnajelaaaW.PrintLast Go.Proofs.YtinelmmnajelaaaW.PrintMore
attribute [local go_sem] max2_int min2_int max_two min_two max_three min_three max_four min_four   -- for this text's walks alone
set_option linter.unusedVariables false
set_option linter.unusedSimpArgs false

/-! ### laws_FnExactVersionAt: function 7 -/
mutual
def laws_FnExactVersionAt.j0 : Nat → List (S23) → List (S25) → Int → List (S26) → Bool → List (S26) → List (S28) → List (S26) → Bool → Bool → Option (Bool)
  | 0, _, _, _, _, _, _, _, _, _, _ => none
  | k + 1, x0, x1, x2, x8, x9, x10, x11, x12, x13, x57 => if x57 = true then (some false) else ((laws_toLegS.f k x0).bind fun t342 => ((laws_eqLegS.f k x10 t342).bind fun t345 => (if t345 = true then ((laws_toEditS.f k x1).bind fun t346 => ((laws_eqEditS.f k x11 t346).bind fun t349 => (if t349 = true then ((laws_markLegS.f k x10 1).bind fun bt350 => ((laws_markEditS.f k x11 bt350.1).bind fun bt352 => (if bt352.1 < 0 then (laws_FnExactVersionAt.j1 k x0 x1 x2 x8 x9 x12 true) else ((laws_eqLegS.f k x12 x8).bind fun t354 => (if t354 = true then (laws_FnExactVersionAt.j1 k x0 x1 x2 x8 x9 x12 (x13 != x9)) else (laws_FnExactVersionAt.j1 k x0 x1 x2 x8 x9 x12 true)))))) else (some false)))) else (some false))))
def laws_FnExactVersionAt.j1 : Nat → List (S23) → List (S25) → Int → List (S26) → Bool → List (S26) → Bool → Option (Bool)
  | 0, _, _, _, _, _, _, _ => none
  | k + 1, x0, x1, x2, x8, x9, x12, x86 => if x86 = true then (some false) else ((laws_markLegS.f k x12 1).bind fun bt355 => ((laws_heldLegS.f k bt355.2 1).bind fun t357 => (if t357 < 0 then (some false) else (if t357 = bt355.1 then ((laws_toLegS.f k x0).bind fun t358 => ((laws_toEditS.f k x1).bind fun t361 => ((impl_VersionAt.f k t358 t361 x2).bind fun bt364 => ((laws_eqLegS.f k bt364.1 x8).bind fun t368 => (if t368 = true then (laws_FnExactVersionAt.j2 k bt355.2 bt355.1 (bt364.2 != x9)) else (laws_FnExactVersionAt.j2 k bt355.2 bt355.1 true)))))) else (some false)))))
def laws_FnExactVersionAt.j2 : Nat → List (S26) → Int → Bool → Option (Bool)
  | 0, _, _, _ => none
  | k + 1, x12, x15, x115 => if x115 = true then (some false) else ((laws_heldLegS.f k x12 1).bind fun t369 => (if t369 < 0 then (some false) else (if t369 = x15 then (some true) else (some false))))
end
def laws_FnExactVersionAt.f (k : Nat) (l0 : List (S23)) (l1 : List (S25)) (a2 : Int) : Option (Bool) := (laws_szLegS.f l0 1048576).bind fun t319 => (if t319 < 0 then (some true) else ((laws_szEditS.f l1 t319).bind fun t320 => (if t320 < 0 then (some true) else ((laws_toLegS.f k l0).bind fun t321 => ((laws_toEditS.f k l1).bind fun t324 => ((spec_VersionAt.f k t321 t324 a2).bind fun bt327 => ((laws_toLegS.f k l0).bind fun t331 => ((laws_toEditS.f k l1).bind fun t334 => ((impl_VersionAt.f k t331 t334 a2).bind fun bt337 => ((laws_eqLegS.f k bt337.1 bt327.1).bind fun t341 => (if t341 = true then (laws_FnExactVersionAt.j0 k l0 l1 a2 bt327.1 bt327.2 t331 t334 bt337.1 bt337.2 (bt337.2 != bt327.2)) else (laws_FnExactVersionAt.j0 k l0 l1 a2 bt327.1 bt327.2 t331 t334 bt337.1 bt337.2 true))))))))))))
theorem laws_FnExactVersionAt.mono_l : ∀ k, (∀ y0 y1 y2 y3 y4 y5 y6 y7 y8 y9, LeO (laws_FnExactVersionAt.j0 k y0 y1 y2 y3 y4 y5 y6 y7 y8 y9) (laws_FnExactVersionAt.j0 (k + 1) y0 y1 y2 y3 y4 y5 y6 y7 y8 y9)) ∧ (∀ y0 y1 y2 y3 y4 y5 y6, LeO (laws_FnExactVersionAt.j1 k y0 y1 y2 y3 y4 y5 y6) (laws_FnExactVersionAt.j1 (k + 1) y0 y1 y2 y3 y4 y5 y6)) ∧ (∀ y0 y1 y2, LeO (laws_FnExactVersionAt.j2 k y0 y1 y2) (laws_FnExactVersionAt.j2 (k + 1) y0 y1 y2))
  | 0 => ⟨fun _ _ _ _ _ _ _ _ _ _ r h => by simp [laws_FnExactVersionAt.j0] at h, fun _ _ _ _ _ _ _ r h => by simp [laws_FnExactVersionAt.j1] at h, fun _ _ _ r h => by simp [laws_FnExactVersionAt.j2] at h⟩
  | k + 1 => by
    obtain ⟨ih0, ih1, ih2⟩ := laws_FnExactVersionAt.mono_l k
    refine ⟨?_, ?_, ?_⟩
    · intro y0 y1 y2 y3 y4 y5 y6 y7 y8 y9
      unfold laws_FnExactVersionAt.j0
      repeat' first
      | (with_reducible exact ih0 _ _ _ _ _ _ _ _ _ _)
      | (with_reducible exact ih1 _ _ _ _ _ _ _)
      | (with_reducible exact ih2 _ _ _)
      | (with_reducible exact impl_VersionAt.mono _ _ _ _)
      | (with_reducible exact laws_eqEditS.mono _ _ _)
      | (with_reducible exact laws_eqLegS.mono _ _ _)
      | (with_reducible exact laws_heldLegS.mono _ _ _)
      | (with_reducible exact laws_markEditS.mono _ _ _)
      | (with_reducible exact laws_markLegS.mono _ _ _)
      | (with_reducible exact laws_toEditS.mono _ _)
      | (with_reducible exact laws_toLegS.mono _ _)
      | (with_reducible exact spec_VersionAt.mono _ _ _ _)
      | (with_reducible exact LeO.refl _)
      | (with_reducible exact LeO.none _)
      | (with_reducible refine LeO.ite ?_ ?_)
      | (with_reducible refine LeO.bind ?_ (fun _ => ?_))
      | exact ih0 _ _ _ _ _ _ _ _ _ _
      | exact ih1 _ _ _ _ _ _ _
      | exact ih2 _ _ _
      | exact impl_VersionAt.mono _ _ _ _
      | exact laws_eqEditS.mono _ _ _
      | exact laws_eqLegS.mono _ _ _
      | exact laws_heldLegS.mono _ _ _
      | exact laws_markEditS.mono _ _ _
      | exact laws_markLegS.mono _ _ _
      | exact laws_toEditS.mono _ _
      | exact laws_toLegS.mono _ _
      | exact spec_VersionAt.mono _ _ _ _
      | exact LeO.none _
      | refine LeO.ite ?_ ?_
      | refine LeO.bind ?_ (fun _ => ?_)
    · intro y0 y1 y2 y3 y4 y5 y6
      unfold laws_FnExactVersionAt.j1
      repeat' first
      | (with_reducible exact ih0 _ _ _ _ _ _ _ _ _ _)
      | (with_reducible exact ih1 _ _ _ _ _ _ _)
      | (with_reducible exact ih2 _ _ _)
      | (with_reducible exact impl_VersionAt.mono _ _ _ _)
      | (with_reducible exact laws_eqEditS.mono _ _ _)
      | (with_reducible exact laws_eqLegS.mono _ _ _)
      | (with_reducible exact laws_heldLegS.mono _ _ _)
      | (with_reducible exact laws_markEditS.mono _ _ _)
      | (with_reducible exact laws_markLegS.mono _ _ _)
      | (with_reducible exact laws_toEditS.mono _ _)
      | (with_reducible exact laws_toLegS.mono _ _)
      | (with_reducible exact spec_VersionAt.mono _ _ _ _)
      | (with_reducible exact LeO.refl _)
      | (with_reducible exact LeO.none _)
      | (with_reducible refine LeO.ite ?_ ?_)
      | (with_reducible refine LeO.bind ?_ (fun _ => ?_))
      | exact ih0 _ _ _ _ _ _ _ _ _ _
      | exact ih1 _ _ _ _ _ _ _
      | exact ih2 _ _ _
      | exact impl_VersionAt.mono _ _ _ _
      | exact laws_eqEditS.mono _ _ _
      | exact laws_eqLegS.mono _ _ _
      | exact laws_heldLegS.mono _ _ _
      | exact laws_markEditS.mono _ _ _
      | exact laws_markLegS.mono _ _ _
      | exact laws_toEditS.mono _ _
      | exact laws_toLegS.mono _ _
      | exact spec_VersionAt.mono _ _ _ _
      | exact LeO.none _
      | refine LeO.ite ?_ ?_
      | refine LeO.bind ?_ (fun _ => ?_)
    · intro y0 y1 y2
      unfold laws_FnExactVersionAt.j2
      repeat' first
      | (with_reducible exact ih0 _ _ _ _ _ _ _ _ _ _)
      | (with_reducible exact ih1 _ _ _ _ _ _ _)
      | (with_reducible exact ih2 _ _ _)
      | (with_reducible exact impl_VersionAt.mono _ _ _ _)
      | (with_reducible exact laws_eqEditS.mono _ _ _)
      | (with_reducible exact laws_eqLegS.mono _ _ _)
      | (with_reducible exact laws_heldLegS.mono _ _ _)
      | (with_reducible exact laws_markEditS.mono _ _ _)
      | (with_reducible exact laws_markLegS.mono _ _ _)
      | (with_reducible exact laws_toEditS.mono _ _)
      | (with_reducible exact laws_toLegS.mono _ _)
      | (with_reducible exact spec_VersionAt.mono _ _ _ _)
      | (with_reducible exact LeO.refl _)
      | (with_reducible exact LeO.none _)
      | (with_reducible refine LeO.ite ?_ ?_)
      | (with_reducible refine LeO.bind ?_ (fun _ => ?_))
      | exact ih0 _ _ _ _ _ _ _ _ _ _
      | exact ih1 _ _ _ _ _ _ _
      | exact ih2 _ _ _
      | exact impl_VersionAt.mono _ _ _ _
      | exact laws_eqEditS.mono _ _ _
      | exact laws_eqLegS.mono _ _ _
      | exact laws_heldLegS.mono _ _ _
      | exact laws_markEditS.mono _ _ _
      | exact laws_markLegS.mono _ _ _
      | exact laws_toEditS.mono _ _
      | exact laws_toLegS.mono _ _
      | exact spec_VersionAt.mono _ _ _ _
      | exact LeO.none _
      | refine LeO.ite ?_ ?_
      | refine LeO.bind ?_ (fun _ => ?_)
theorem laws_FnExactVersionAt.mono : ∀ a0 a1 a2 k, LeO (laws_FnExactVersionAt.f k a0 a1 a2) (laws_FnExactVersionAt.f (k + 1) a0 a1 a2) := by
  intro a0 a1 a2 k
  obtain ⟨ih0, ih1, ih2⟩ := laws_FnExactVersionAt.mono_l k
  unfold laws_FnExactVersionAt.f
  repeat' first
      | (with_reducible exact ih0 _ _ _ _ _ _ _ _ _ _)
      | (with_reducible exact ih1 _ _ _ _ _ _ _)
      | (with_reducible exact ih2 _ _ _)
      | (with_reducible exact impl_VersionAt.mono _ _ _ _)
      | (with_reducible exact laws_eqEditS.mono _ _ _)
      | (with_reducible exact laws_eqLegS.mono _ _ _)
      | (with_reducible exact laws_heldLegS.mono _ _ _)
      | (with_reducible exact laws_markEditS.mono _ _ _)
      | (with_reducible exact laws_markLegS.mono _ _ _)
      | (with_reducible exact laws_toEditS.mono _ _)
      | (with_reducible exact laws_toLegS.mono _ _)
      | (with_reducible exact spec_VersionAt.mono _ _ _ _)
      | (with_reducible exact LeO.refl _)
      | (with_reducible exact LeO.none _)
      | (with_reducible refine LeO.ite ?_ ?_)
      | (with_reducible refine LeO.bind ?_ (fun _ => ?_))
      | exact ih0 _ _ _ _ _ _ _ _ _ _
      | exact ih1 _ _ _ _ _ _ _
      | exact ih2 _ _ _
      | exact impl_VersionAt.mono _ _ _ _
      | exact laws_eqEditS.mono _ _ _
      | exact laws_eqLegS.mono _ _ _
      | exact laws_heldLegS.mono _ _ _
      | exact laws_markEditS.mono _ _ _
      | exact laws_markLegS.mono _ _ _
      | exact laws_toEditS.mono _ _
      | exact laws_toLegS.mono _ _
      | exact spec_VersionAt.mono _ _ _ _
      | exact LeO.none _
      | refine LeO.ite ?_ ?_
      | refine LeO.bind ?_ (fun _ => ?_)
set_option maxHeartbeats 8000000 in
set_option maxRecDepth 100000 in
theorem laws_FnExactVersionAt.calls (k : Nat) (A0 : Option Addr) (c0 : Nat) (l0 : List (S23)) (A1 : Option Addr) (c1 : Nat) (l1 : List (S25)) (a2 : Int) (r : Bool) (w : World) (hr0 : Kd.C k23 w A0 l0.length l0) (hc0 : l0.length ≤ c0) (hr1 : Kd.C k25 w A1 l1.length l1) (hc1 : l1.length ≤ c1) (h : laws_FnExactVersionAt.f k l0 l1 a2 = some r) (hT : r = true) :
    Calls Try.prog 7 #[.slice A0 l0.length c0, .slice A1 l1.length c1, .int .i64 a2] w fun e w' => e = .returned (.bool r) ∧ Below w.heap.size w w' := by
  have HR0 := Aside0.mk hr0
  have HC0 := Aside0.mk hc0
  clear hr0 hc0
  have HR1 := Aside0.mk hr1
  have HC1 := Aside0.mk hc1
  clear hr1 hc1
  have HB := Aside0.mk (Below.refl w.heap.size w)
  have H : ((laws_szLegS.f l0 1048576).bind fun t319 => (if t319 < 0 then (some true) else ((laws_szEditS.f l1 t319).bind fun t320 => (if t320 < 0 then (some true) else ((laws_toLegS.f k l0).bind fun t321 => ((laws_toEditS.f k l1).bind fun t324 => ((spec_VersionAt.f k t321 t324 a2).bind fun bt327 => ((laws_toLegS.f k l0).bind fun t331 => ((laws_toEditS.f k l1).bind fun t334 => ((impl_VersionAt.f k t331 t334 a2).bind fun bt337 => ((laws_eqLegS.f k bt337.1 bt327.1).bind fun t341 => (if t341 = true then (laws_FnExactVersionAt.j0 k l0 l1 a2 bt327.1 bt327.2 t331 t334 bt337.1 bt337.2 (bt337.2 != bt327.2)) else (laws_FnExactVersionAt.j0 k l0 l1 a2 bt327.1 bt327.2 t331 t334 bt337.1 bt337.2 true))))))))))))) = some r := h
  clear h
  replace H := Option.bind_eq_some_iff.mp H
  obtain ⟨t319, A40, H⟩ := H
  replace H : (if t319 < 0 then (some true) else ((laws_szEditS.f l1 t319).bind fun t320 => (if t320 < 0 then (some true) else ((laws_toLegS.f k l0).bind fun t321 => ((laws_toEditS.f k l1).bind fun t324 => ((spec_VersionAt.f k t321 t324 a2).bind fun bt327 => ((laws_toLegS.f k l0).bind fun t331 => ((laws_toEditS.f k l1).bind fun t334 => ((impl_VersionAt.f k t331 t334 a2).bind fun bt337 => ((laws_eqLegS.f k bt337.1 bt327.1).bind fun t341 => (if t341 = true then (laws_FnExactVersionAt.j0 k l0 l1 a2 bt327.1 bt327.2 t331 t334 bt337.1 bt337.2 (bt337.2 != bt327.2)) else (laws_FnExactVersionAt.j0 k l0 l1 a2 bt327.1 bt327.2 t331 t334 bt337.1 bt337.2 true)))))))))))) = some r := H
  have A4 := Aside0.mk A40
  clear A40
  by_cases c5 : t319 < 0
  · rw [if_pos c5] at H
    have c5b0 : decide (t319 < 0) = true := decide_eq_true c5
    clear c5
    obtain rfl := (Option.some.inj H)
    go_enter Try.func7, Try.ntmps7
    go_wp2_with (first | ((with_reducible refine gate_callee (f := 17) rfl ?_); refine goesL_ (some 21) rfl rfl Try.func17 (by kernel_rfl) rfl #[.slice A0 l0.length c0, .int .i64 1048576] rfl argsB ?_; (with_reducible refine (laws_szLegS.calls _ _ l0 1048576 t319 _ ?side1 ?side2 A4.out).mono ?_); (case side1 => repeat (first | exact HR0.out | (with_reducible refine Kd.C_alloc ?_ _) | (with_reducible refine Kd.C_drewN ?_ _) | (with_reducible refine Kd.C_drew ?_))); (case side2 => exact HC0.out); rintro e w' ⟨rfl, ⟨nd, rfl⟩⟩; refine ⟨_, rfl, ?_⟩))
    go_ret
    exact ⟨by first | rfl | (simp [errW_none, errW_some] <;> rfl) | (simp [*, errW_none, errW_some] <;> rfl), (upB HB.out)⟩
  · rw [if_neg c5] at H
    have c5b0 : decide (t319 < 0) = false := decide_eq_false c5
    clear c5
    replace H := Option.bind_eq_some_iff.mp H
    obtain ⟨t320, A60, H⟩ := H
    replace H : (if t320 < 0 then (some true) else ((laws_toLegS.f k l0).bind fun t321 => ((laws_toEditS.f k l1).bind fun t324 => ((spec_VersionAt.f k t321 t324 a2).bind fun bt327 => ((laws_toLegS.f k l0).bind fun t331 => ((laws_toEditS.f k l1).bind fun t334 => ((impl_VersionAt.f k t331 t334 a2).bind fun bt337 => ((laws_eqLegS.f k bt337.1 bt327.1).bind fun t341 => (if t341 = true then (laws_FnExactVersionAt.j0 k l0 l1 a2 bt327.1 bt327.2 t331 t334 bt337.1 bt337.2 (bt337.2 != bt327.2)) else (laws_FnExactVersionAt.j0 k l0 l1 a2 bt327.1 bt327.2 t331 t334 bt337.1 bt337.2 true)))))))))) = some r := H
    have A6 := Aside0.mk A60
    clear A60
    by_cases c7 : t320 < 0
    · rw [if_pos c7] at H
      have c7b0 : decide (t320 < 0) = true := decide_eq_true c7
      clear c7
      obtain rfl := (Option.some.inj H)
      go_enter Try.func7, Try.ntmps7
      go_wp2_with (first | ((with_reducible refine gate_callee (f := 17) rfl ?_); refine goesL_ (some 21) rfl rfl Try.func17 (by kernel_rfl) rfl #[.slice A0 l0.length c0, .int .i64 1048576] rfl argsB ?_; (with_reducible refine (laws_szLegS.calls _ _ l0 1048576 t319 _ ?side1 ?side2 A4.out).mono ?_); (case side1 => repeat (first | exact HR0.out | (with_reducible refine Kd.C_alloc ?_ _) | (with_reducible refine Kd.C_drewN ?_ _) | (with_reducible refine Kd.C_drew ?_))); (case side2 => exact HC0.out); rintro e w' ⟨rfl, ⟨nd, rfl⟩⟩; refine ⟨_, rfl, ?_⟩) | ((with_reducible refine gate_callee (f := 29) rfl ?_); refine goesL_ (some 26) rfl rfl Try.func29 (by kernel_rfl) rfl #[.slice A1 l1.length c1, .int .i64 t319] rfl argsB ?_; (with_reducible refine (laws_szEditS.calls _ _ l1 t319 t320 _ ?side1 ?side2 A6.out).mono ?_); (case side1 => repeat (first | exact HR1.out | (with_reducible refine Kd.C_alloc ?_ _) | (with_reducible refine Kd.C_drewN ?_ _) | (with_reducible refine Kd.C_drew ?_))); (case side2 => exact HC1.out); rintro e w' ⟨rfl, ⟨nd, rfl⟩⟩; refine ⟨_, rfl, ?_⟩))
      go_ret
      exact ⟨by first | rfl | (simp [errW_none, errW_some] <;> rfl) | (simp [*, errW_none, errW_some] <;> rfl), (upB HB.out)⟩
    · rw [if_neg c7] at H
      have c7b0 : decide (t320 < 0) = false := decide_eq_false c7
      clear c7
      replace H := Option.bind_eq_some_iff.mp H
      obtain ⟨t321, A80, H⟩ := H
      replace H : ((laws_toEditS.f k l1).bind fun t324 => ((spec_VersionAt.f k t321 t324 a2).bind fun bt327 => ((laws_toLegS.f k l0).bind fun t331 => ((laws_toEditS.f k l1).bind fun t334 => ((impl_VersionAt.f k t331 t334 a2).bind fun bt337 => ((laws_eqLegS.f k bt337.1 bt327.1).bind fun t341 => (if t341 = true then (laws_FnExactVersionAt.j0 k l0 l1 a2 bt327.1 bt327.2 t331 t334 bt337.1 bt337.2 (bt337.2 != bt327.2)) else (laws_FnExactVersionAt.j0 k l0 l1 a2 bt327.1 bt327.2 t331 t334 bt337.1 bt337.2 true)))))))) = some r := H
      have A8 := Aside0.mk A80
      clear A80
      replace H := Option.bind_eq_some_iff.mp H
      obtain ⟨t324, A90, H⟩ := H
      replace H : ((spec_VersionAt.f k t321 t324 a2).bind fun bt327 => ((laws_toLegS.f k l0).bind fun t331 => ((laws_toEditS.f k l1).bind fun t334 => ((impl_VersionAt.f k t331 t334 a2).bind fun bt337 => ((laws_eqLegS.f k bt337.1 bt327.1).bind fun t341 => (if t341 = true then (laws_FnExactVersionAt.j0 k l0 l1 a2 bt327.1 bt327.2 t331 t334 bt337.1 bt337.2 (bt337.2 != bt327.2)) else (laws_FnExactVersionAt.j0 k l0 l1 a2 bt327.1 bt327.2 t331 t334 bt337.1 bt337.2 true))))))) = some r := H
      have A9 := Aside0.mk A90
      clear A90
      replace H := Option.bind_eq_some_iff.mp H
      obtain ⟨⟨t327, t328⟩, A100, H⟩ := H
      replace H : ((laws_toLegS.f k l0).bind fun t331 => ((laws_toEditS.f k l1).bind fun t334 => ((impl_VersionAt.f k t331 t334 a2).bind fun bt337 => ((laws_eqLegS.f k bt337.1 t327).bind fun t341 => (if t341 = true then (laws_FnExactVersionAt.j0 k l0 l1 a2 t327 t328 t331 t334 bt337.1 bt337.2 (bt337.2 != t328)) else (laws_FnExactVersionAt.j0 k l0 l1 a2 t327 t328 t331 t334 bt337.1 bt337.2 true)))))) = some r := H
      have A10 := Aside0.mk A100
      clear A100
      replace H := Option.bind_eq_some_iff.mp H
      obtain ⟨t331, A110, H⟩ := H
      replace H : ((laws_toEditS.f k l1).bind fun t334 => ((impl_VersionAt.f k t331 t334 a2).bind fun bt337 => ((laws_eqLegS.f k bt337.1 t327).bind fun t341 => (if t341 = true then (laws_FnExactVersionAt.j0 k l0 l1 a2 t327 t328 t331 t334 bt337.1 bt337.2 (bt337.2 != t328)) else (laws_FnExactVersionAt.j0 k l0 l1 a2 t327 t328 t331 t334 bt337.1 bt337.2 true))))) = some r := H
      have A11 := Aside0.mk A110
      clear A110
      replace H := Option.bind_eq_some_iff.mp H
      obtain ⟨t334, A120, H⟩ := H
      replace H : ((impl_VersionAt.f k t331 t334 a2).bind fun bt337 => ((laws_eqLegS.f k bt337.1 t327).bind fun t341 => (if t341 = true then (laws_FnExactVersionAt.j0 k l0 l1 a2 t327 t328 t331 t334 bt337.1 bt337.2 (bt337.2 != t328)) else (laws_FnExactVersionAt.j0 k l0 l1 a2 t327 t328 t331 t334 bt337.1 bt337.2 true)))) = some r := H
      have A12 := Aside0.mk A120
      clear A120
      replace H := Option.bind_eq_some_iff.mp H
      obtain ⟨⟨t337, t338⟩, A130, H⟩ := H
      replace H : ((laws_eqLegS.f k t337 t327).bind fun t341 => (if t341 = true then (laws_FnExactVersionAt.j0 k l0 l1 a2 t327 t328 t331 t334 t337 t338 (t338 != t328)) else (laws_FnExactVersionAt.j0 k l0 l1 a2 t327 t328 t331 t334 t337 t338 true))) = some r := H
      have A13 := Aside0.mk A130
      clear A130
      have HC14 := Aside0.mk H
      clear H
      go_enter Try.func7, Try.ntmps7
      go_upto_region 12 with (first | ((with_reducible refine gate_callee (f := 17) rfl ?_); refine goesL_ (some 21) rfl rfl Try.func17 (by kernel_rfl) rfl #[.slice A0 l0.length c0, .int .i64 1048576] rfl argsB ?_; (with_reducible refine (laws_szLegS.calls _ _ l0 1048576 t319 _ ?side1 ?side2 A4.out).mono ?_); (case side1 => repeat (first | exact HR0.out | (with_reducible refine Kd.C_alloc ?_ _) | (with_reducible refine Kd.C_drewN ?_ _) | (with_reducible refine Kd.C_drew ?_))); (case side2 => exact HC0.out); rintro e w' ⟨rfl, ⟨nd, rfl⟩⟩; refine ⟨_, rfl, ?_⟩) | ((with_reducible refine gate_callee (f := 29) rfl ?_); refine goesL_ (some 26) rfl rfl Try.func29 (by kernel_rfl) rfl #[.slice A1 l1.length c1, .int .i64 t319] rfl argsB ?_; (with_reducible refine (laws_szEditS.calls _ _ l1 t319 t320 _ ?side1 ?side2 A6.out).mono ?_); (case side1 => repeat (first | exact HR1.out | (with_reducible refine Kd.C_alloc ?_ _) | (with_reducible refine Kd.C_drewN ?_ _) | (with_reducible refine Kd.C_drew ?_))); (case side2 => exact HC1.out); rintro e w' ⟨rfl, ⟨nd, rfl⟩⟩; refine ⟨_, rfl, ?_⟩) | ((with_reducible refine gate_callee (f := 19) rfl ?_); refine goesL_ (some 31) rfl rfl Try.func19 (by kernel_rfl) rfl #[.slice A0 l0.length c0] rfl argsB ?_; (with_reducible refine (laws_toLegS.calls k _ _ l0 t321 _ ?side1 ?side2 A8.out).mono ?_); (case side1 => repeat (first | exact HR0.out | (with_reducible refine Kd.C_alloc ?_ _) | (with_reducible refine Kd.C_drewN ?_ _) | (with_reducible refine Kd.C_drew ?_))); (case side2 => exact HC0.out); rintro e w15 ⟨v322, rfl, ho0, hb⟩; refine ⟨_, rfl, ?_⟩; have n0_ := Aside0.mk (Kd.R_lower ho0 (below_size (upB HB.out))); have n1_ := Aside0.mk (below_step (upB HB.out) hb); clear HB; have HO323 := n0_; have HB := n1_; clear n0_ n1_; (try clear hb); (try clear hk); (try clear ho0)) | ((with_reducible refine gate_callee (f := 31) rfl ?_); refine goesL_ (some 33) rfl rfl Try.func31 (by kernel_rfl) rfl #[.slice A1 l1.length c1] rfl argsB ?_; (with_reducible refine (laws_toEditS.calls k _ _ l1 t324 _ ?side1 ?side2 A9.out).mono ?_); (case side1 => repeat (first | exact (Kd.C_below HR1.out HB.out) | (with_reducible refine Kd.C_alloc ?_ _) | (with_reducible refine Kd.C_drewN ?_ _) | (with_reducible refine Kd.C_drew ?_))); (case side2 => exact HC1.out); rintro e w16 ⟨v325, rfl, ho0, hb⟩; refine ⟨_, rfl, ?_⟩; have n0_ := Aside0.mk (Kd.R_below (upR HO323.out) hb); have n1_ := Aside0.mk (Kd.R_lower ho0 (below_size (upB HB.out))); have n2_ := Aside0.mk (below_step (upB HB.out) hb); clear HO323; clear HB; have HO323 := n0_; have HO326 := n1_; have HB := n2_; clear n0_ n1_ n2_; (try clear hb); (try clear hk); (try clear ho0); obtain ⟨Ao17, co17, eo17⟩ := Kd.R_slice HO323.out; subst eo17; obtain ⟨Ao18, co18, eo18⟩ := Kd.R_slice HO326.out; subst eo18) | ((with_reducible refine gate_callee (f := 33) rfl ?_); refine goesL_ (some 35) rfl rfl Try.func33 (by kernel_rfl) rfl #[.slice Ao17 t321.length co17, .slice Ao18 t324.length co18, .int .i64 a2] rfl argsB ?_; (with_reducible refine (spec_VersionAt.calls k _ _ t321 _ _ t324 a2 t327 t328 _ ?side1 ?side2 ?side3 ?side4 A10.out).mono ?_); (case side1 => repeat (first | exact (Kd.R_reads' HO323.out).2.2 | (with_reducible refine Kd.C_alloc ?_ _) | (with_reducible refine Kd.C_drewN ?_ _) | (with_reducible refine Kd.C_drew ?_))); (case side2 => exact (Kd.R_reads' HO323.out).2.1); (case side3 => repeat (first | exact (Kd.R_reads' HO326.out).2.2 | (with_reducible refine Kd.C_alloc ?_ _) | (with_reducible refine Kd.C_drewN ?_ _) | (with_reducible refine Kd.C_drew ?_))); (case side4 => exact (Kd.R_reads' HO326.out).2.1); rintro e w19 ⟨v329, rfl, ho0, hb⟩; refine ⟨_, rfl, ?_⟩; have n0_ := Aside0.mk (Kd.R_elder' (upR HO323.out) (Kd.R_base ho0) hb); have n1_ := Aside0.mk (Kd.R_below (upR HO326.out) hb); have n2_ := Aside0.mk (Kd.R_lower (Kd.R_new' ho0 (Kd.R_lt (upR HO323.out))) (below_size (upB HB.out))); have n3_ := Aside0.mk (below_step (upB HB.out) hb); clear HO323; clear HO326; clear HB; have HO323 := n0_; have HO326 := n1_; have HO330 := n2_; have HB := n3_; clear n0_ n1_ n2_ n3_; (try clear hb); (try clear hk); (try clear ho0)) | ((with_reducible refine gate_callee (f := 19) rfl ?_); refine goesL_ (some 39) rfl rfl Try.func19 (by kernel_rfl) rfl #[.slice A0 l0.length c0] rfl argsB ?_; (with_reducible refine (laws_toLegS.calls k _ _ l0 t331 _ ?side1 ?side2 A11.out).mono ?_); (case side1 => repeat (first | exact (Kd.C_below HR0.out HB.out) | (with_reducible refine Kd.C_alloc ?_ _) | (with_reducible refine Kd.C_drewN ?_ _) | (with_reducible refine Kd.C_drew ?_))); (case side2 => exact HC0.out); rintro e w20 ⟨v332, rfl, ho0, hb⟩; refine ⟨_, rfl, ?_⟩; have n0_ := Aside0.mk (Kd.R_elder' (upR HO323.out) (Kd.R_base ho0) hb); have n1_ := Aside0.mk (Kd.R_below (upR HO326.out) hb); have n2_ := Aside0.mk (Kd.R_elder' (upR HO330.out) (Kd.R_base ho0) hb); have n3_ := Aside0.mk (Kd.R_lower (Kd.R_new' (Kd.R_new' ho0 (Kd.R_lt (upR HO323.out))) (Kd.R_lt (upR HO330.out))) (below_size (upB HB.out))); have n4_ := Aside0.mk (below_step (upB HB.out) hb); clear HO323; clear HO326; clear HO330; clear HB; have HO323 := n0_; have HO326 := n1_; have HO330 := n2_; have HO333 := n3_; have HB := n4_; clear n0_ n1_ n2_ n3_ n4_; (try clear hb); (try clear hk); (try clear ho0)) | ((with_reducible refine gate_callee (f := 31) rfl ?_); refine goesL_ (some 41) rfl rfl Try.func31 (by kernel_rfl) rfl #[.slice A1 l1.length c1] rfl argsB ?_; (with_reducible refine (laws_toEditS.calls k _ _ l1 t334 _ ?side1 ?side2 A12.out).mono ?_); (case side1 => repeat (first | exact (Kd.C_below HR1.out HB.out) | (with_reducible refine Kd.C_alloc ?_ _) | (with_reducible refine Kd.C_drewN ?_ _) | (with_reducible refine Kd.C_drew ?_))); (case side2 => exact HC1.out); rintro e w21 ⟨v335, rfl, ho0, hb⟩; refine ⟨_, rfl, ?_⟩; have n0_ := Aside0.mk (Kd.R_below (upR HO323.out) hb); have n1_ := Aside0.mk (Kd.R_elder' (upR HO326.out) (Kd.R_base ho0) hb); have n2_ := Aside0.mk (Kd.R_below (upR HO330.out) hb); have n3_ := Aside0.mk (Kd.R_below (upR HO333.out) hb); have n4_ := Aside0.mk (Kd.R_lower (Kd.R_new' ho0 (Kd.R_lt (upR HO326.out))) (below_size (upB HB.out))); have n5_ := Aside0.mk (below_step (upB HB.out) hb); clear HO323; clear HO326; clear HO330; clear HO333; clear HB; have HO323 := n0_; have HO326 := n1_; have HO330 := n2_; have HO333 := n3_; have HO336 := n4_; have HB := n5_; clear n0_ n1_ n2_ n3_ n4_ n5_; (try clear hb); (try clear hk); (try clear ho0); obtain ⟨Ao22, co22, eo22⟩ := Kd.R_slice HO333.out; subst eo22; obtain ⟨Ao23, co23, eo23⟩ := Kd.R_slice HO336.out; subst eo23) | ((with_reducible refine gate_callee (f := 34) rfl ?_); refine goesL_ (some 46) rfl rfl Try.func34 (by kernel_rfl) rfl #[.slice Ao22 t331.length co22, .slice Ao23 t334.length co23, .int .i64 a2] rfl argsB ?_; (with_reducible refine (impl_VersionAt.calls k _ _ t331 _ _ t334 a2 t337 t338 _ ?side1 ?side2 ?side3 ?side4 A13.out).mono ?_); (case side1 => repeat (first | exact (Kd.R_reads' HO333.out).2.2 | (with_reducible refine Kd.C_alloc ?_ _) | (with_reducible refine Kd.C_drewN ?_ _) | (with_reducible refine Kd.C_drew ?_))); (case side2 => exact (Kd.R_reads' HO333.out).2.1); (case side3 => repeat (first | exact (Kd.R_reads' HO336.out).2.2 | (with_reducible refine Kd.C_alloc ?_ _) | (with_reducible refine Kd.C_drewN ?_ _) | (with_reducible refine Kd.C_drew ?_))); (case side4 => exact (Kd.R_reads' HO336.out).2.1); rintro e w24 ⟨v339, rfl, ho0, hb⟩; refine ⟨_, rfl, ?_⟩; have n0_ := Aside0.mk (Kd.R_elder' (upR HO323.out) (Kd.R_base ho0) hb); have n1_ := Aside0.mk (Kd.R_below (upR HO326.out) hb); have n2_ := Aside0.mk (Kd.R_elder' (upR HO330.out) (Kd.R_base ho0) hb); have n3_ := Aside0.mk (Kd.R_elder' (upR HO333.out) (Kd.R_base ho0) hb); have n4_ := Aside0.mk (Kd.R_below (upR HO336.out) hb); have n5_ := Aside0.mk (Kd.R_lower (Kd.R_new' (Kd.R_new' (Kd.R_new' ho0 (Kd.R_lt (upR HO323.out))) (Kd.R_lt (upR HO330.out))) (Kd.R_lt (upR HO333.out))) (below_size (upB HB.out))); have n6_ := Aside0.mk (below_step (upB HB.out) hb); clear HO323; clear HO326; clear HO330; clear HO333; clear HO336; clear HB; have HO323 := n0_; have HO326 := n1_; have HO330 := n2_; have HO333 := n3_; have HO336 := n4_; have HO340 := n5_; have HB := n6_; clear n0_ n1_ n2_ n3_ n4_ n5_ n6_; (try clear hb); (try clear hk); (try clear ho0)))
      (try simp only [Act.put, List.setIfInBounds_toArray, List.set_cons_zero, List.set_cons_succ])
      go_cut [57] (fun v57 wc => ∃ (kq : Nat) (x57_13 : Bool), v57 = .bool x57_13 ∧ Aside0 (laws_FnExactVersionAt.j0 kq l0 l1 a2 t327 t328 t331 t334 t337 t338 x57_13 = some r) ∧ Aside0 (kq ≤ k) ∧ Aside0 (Kd.R k26 26 wc w.heap.size (fun k_ => some k_ ≠ ((.slice Ao22 t331.length co22) : Value).ownBlock ∧ some k_ ≠ (v339 : Value).ownBlock) v329 t327) ∧ Aside0 (Kd.R k26 26 wc w.heap.size (fun k_ => some k_ ≠ (v329 : Value).ownBlock ∧ some k_ ≠ (v339 : Value).ownBlock) (.slice Ao22 t331.length co22) t331) ∧ Aside0 (Kd.R k28 28 wc w.heap.size (fun _ => True) (.slice Ao23 t334.length co23) t334) ∧ Aside0 (Kd.R k26 26 wc w.heap.size (fun k_ => some k_ ≠ (v329 : Value).ownBlock ∧ some k_ ≠ ((.slice Ao22 t331.length co22) : Value).ownBlock) v339 t337) ∧ Aside0 (Below w.heap.size w wc))
      case first =>
        have H := HC14.out
        clear HC14
        replace H := Option.bind_eq_some_iff.mp H
        obtain ⟨t341, A250, H⟩ := H
        replace H : (if t341 = true then (laws_FnExactVersionAt.j0 k l0 l1 a2 t327 t328 t331 t334 t337 t338 (t338 != t328)) else (laws_FnExactVersionAt.j0 k l0 l1 a2 t327 t328 t331 t334 t337 t338 true)) = some r := H
        have A25 := Aside0.mk A250
        clear A250
        by_cases c26 : t341 = true
        · subst c26
          have H1 : (laws_FnExactVersionAt.j0 k l0 l1 a2 t327 t328 t331 t334 t337 t338 (t338 != t328)) = some r := by rw [if_pos rfl] at H; exact H
          clear H
          have H := H1
          clear H1
          have H' := Aside0.mk H
          clear H
          obtain ⟨Ao27, co27, eo27⟩ := Kd.R_slice HO340.out
          subst eo27
          obtain ⟨Ao28, co28, eo28⟩ := Kd.R_slice HO330.out
          subst eo28
          go_wp2_with (first | ((with_reducible refine gate_callee (f := 22) rfl ?_); refine goesL_ (some 51) rfl rfl Try.func22 (by kernel_rfl) rfl #[.slice Ao27 t337.length co27, .slice Ao28 t327.length co28] rfl argsB ?_; (with_reducible refine (laws_eqLegS.calls k _ _ t337 _ _ t327 true _ ?side1 ?side2 ?side3 ?side4 A25.out).mono ?_); (case side1 => repeat (first | exact (Kd.R_reads' HO340.out).2.2 | (with_reducible refine Kd.C_alloc ?_ _) | (with_reducible refine Kd.C_drewN ?_ _) | (with_reducible refine Kd.C_drew ?_))); (case side2 => exact (Kd.R_reads' HO340.out).2.1); (case side3 => repeat (first | exact (Kd.R_reads' HO330.out).2.2 | (with_reducible refine Kd.C_alloc ?_ _) | (with_reducible refine Kd.C_drewN ?_ _) | (with_reducible refine Kd.C_drew ?_))); (case side4 => exact (Kd.R_reads' HO330.out).2.1); rintro e w29 ⟨rfl, hb⟩; refine ⟨_, rfl, ?_⟩; have n0_ := Aside0.mk (Kd.R_below (upR HO323.out) hb); have n1_ := Aside0.mk (Kd.R_below (upR HO326.out) hb); have n2_ := Aside0.mk (Kd.R_below (upR HO330.out) hb); have n3_ := Aside0.mk (Kd.R_below (upR HO333.out) hb); have n4_ := Aside0.mk (Kd.R_below (upR HO336.out) hb); have n5_ := Aside0.mk (Kd.R_below (upR HO340.out) hb); have n6_ := Aside0.mk (below_step (upB HB.out) hb); clear HO323; clear HO326; clear HO330; clear HO333; clear HO336; clear HO340; clear HB; have HO323 := n0_; have HO326 := n1_; have HO330 := n2_; have HO333 := n3_; have HO336 := n4_; have HO340 := n5_; have HB := n6_; clear n0_ n1_ n2_ n3_ n4_ n5_ n6_; (try clear hb); (try clear hk)))
          go_meet
          case rel => exact ⟨_, ((t338 != t328)), (by first | rfl | (simp; done) | (simp [*]; done)), H', ⟨by first | omega | exact Nat.le_refl _⟩, ⟨by (with_reducible repeat (first | apply Kd.R_alloc | apply Kd.R_drewN | apply Kd.R_drew)); exact Kd.R_mono HO330.out (fun _ hk => ⟨hk.1.2, hk.2⟩)⟩, ⟨by (with_reducible repeat (first | apply Kd.R_alloc | apply Kd.R_drewN | apply Kd.R_drew)); exact Kd.R_mono HO333.out (fun _ hk => ⟨hk.1.2, hk.2⟩)⟩, ⟨by (with_reducible repeat (first | apply Kd.R_alloc | apply Kd.R_drewN | apply Kd.R_drew)); exact Kd.R_mono HO336.out (fun _ hk => trivial)⟩, ⟨by (with_reducible repeat (first | apply Kd.R_alloc | apply Kd.R_drewN | apply Kd.R_drew)); exact Kd.R_mono HO340.out (fun _ hk => ⟨hk.1.2, hk.2⟩)⟩, ⟨(upB HB.out)⟩⟩
        · replace c26 := Bool.eq_false_iff.mpr c26
          subst c26
          have H1 : (laws_FnExactVersionAt.j0 k l0 l1 a2 t327 t328 t331 t334 t337 t338 true) = some r := by rw [if_neg (show ¬ (false = true) by decide)] at H; exact H
          clear H
          have H := H1
          clear H1
          have H' := Aside0.mk H
          clear H
          obtain ⟨Ao30, co30, eo30⟩ := Kd.R_slice HO340.out
          subst eo30
          obtain ⟨Ao31, co31, eo31⟩ := Kd.R_slice HO330.out
          subst eo31
          go_wp2_with (first | ((with_reducible refine gate_callee (f := 22) rfl ?_); refine goesL_ (some 51) rfl rfl Try.func22 (by kernel_rfl) rfl #[.slice Ao30 t337.length co30, .slice Ao31 t327.length co31] rfl argsB ?_; (with_reducible refine (laws_eqLegS.calls k _ _ t337 _ _ t327 false _ ?side1 ?side2 ?side3 ?side4 A25.out).mono ?_); (case side1 => repeat (first | exact (Kd.R_reads' HO340.out).2.2 | (with_reducible refine Kd.C_alloc ?_ _) | (with_reducible refine Kd.C_drewN ?_ _) | (with_reducible refine Kd.C_drew ?_))); (case side2 => exact (Kd.R_reads' HO340.out).2.1); (case side3 => repeat (first | exact (Kd.R_reads' HO330.out).2.2 | (with_reducible refine Kd.C_alloc ?_ _) | (with_reducible refine Kd.C_drewN ?_ _) | (with_reducible refine Kd.C_drew ?_))); (case side4 => exact (Kd.R_reads' HO330.out).2.1); rintro e w32 ⟨rfl, hb⟩; refine ⟨_, rfl, ?_⟩; have n0_ := Aside0.mk (Kd.R_below (upR HO323.out) hb); have n1_ := Aside0.mk (Kd.R_below (upR HO326.out) hb); have n2_ := Aside0.mk (Kd.R_below (upR HO330.out) hb); have n3_ := Aside0.mk (Kd.R_below (upR HO333.out) hb); have n4_ := Aside0.mk (Kd.R_below (upR HO336.out) hb); have n5_ := Aside0.mk (Kd.R_below (upR HO340.out) hb); have n6_ := Aside0.mk (below_step (upB HB.out) hb); clear HO323; clear HO326; clear HO330; clear HO333; clear HO336; clear HO340; clear HB; have HO323 := n0_; have HO326 := n1_; have HO330 := n2_; have HO333 := n3_; have HO336 := n4_; have HO340 := n5_; have HB := n6_; clear n0_ n1_ n2_ n3_ n4_ n5_ n6_; (try clear hb); (try clear hk)))
          go_meet
          case rel => exact ⟨_, (true), (by first | rfl | (simp; done) | (simp [*]; done)), H', ⟨by first | omega | exact Nat.le_refl _⟩, ⟨by (with_reducible repeat (first | apply Kd.R_alloc | apply Kd.R_drewN | apply Kd.R_drew)); exact Kd.R_mono HO330.out (fun _ hk => ⟨hk.1.2, hk.2⟩)⟩, ⟨by (with_reducible repeat (first | apply Kd.R_alloc | apply Kd.R_drewN | apply Kd.R_drew)); exact Kd.R_mono HO333.out (fun _ hk => ⟨hk.1.2, hk.2⟩)⟩, ⟨by (with_reducible repeat (first | apply Kd.R_alloc | apply Kd.R_drewN | apply Kd.R_drew)); exact Kd.R_mono HO336.out (fun _ hk => trivial)⟩, ⟨by (with_reducible repeat (first | apply Kd.R_alloc | apply Kd.R_drewN | apply Kd.R_drew)); exact Kd.R_mono HO340.out (fun _ hk => ⟨hk.1.2, hk.2⟩)⟩, ⟨(upB HB.out)⟩⟩
      case rest =>
        clear HC14
        try clear c1
        try clear c5
        try clear c5b0
        try clear c7
        try clear c7b0
        try clear c26
        obtain ⟨kq, x57_13, rfl, HA, HJ13, HO_8, HO_10, HO_11, HO_12, HB⟩ := hcut
        cases kq with
        | zero => exact absurd HA.out (by simp [laws_FnExactVersionAt.j0])
        | succ kj13 =>
          have H := HA.out
          clear HA
          simp only [laws_FnExactVersionAt.j0] at H
          by_cases c33 : x57_13 = true
          · subst c33
            have H1 : (some false) = some r := by rw [if_pos rfl] at H; exact H
            clear H
            have H := H1
            clear H1
            exact absurd (Option.some.inj H) (by rw [hT]; decide)
          · replace c33 := Bool.eq_false_iff.mpr c33
            subst c33
            have H1 : ((laws_toLegS.f kj13 l0).bind fun t342 => ((laws_eqLegS.f kj13 t331 t342).bind fun t345 => (if t345 = true then ((laws_toEditS.f kj13 l1).bind fun t346 => ((laws_eqEditS.f kj13 t334 t346).bind fun t349 => (if t349 = true then ((laws_markLegS.f kj13 t331 1).bind fun bt350 => ((laws_markEditS.f kj13 t334 bt350.1).bind fun bt352 => (if bt352.1 < 0 then (laws_FnExactVersionAt.j1 kj13 l0 l1 a2 t327 t328 t337 true) else ((laws_eqLegS.f kj13 t337 t327).bind fun t354 => (if t354 = true then (laws_FnExactVersionAt.j1 kj13 l0 l1 a2 t327 t328 t337 (t338 != t328)) else (laws_FnExactVersionAt.j1 kj13 l0 l1 a2 t327 t328 t337 true)))))) else (some false)))) else (some false)))) = some r := by rw [if_neg (show ¬ (false = true) by decide)] at H; exact H
            clear H
            have H := H1
            clear H1
            replace H := Option.bind_eq_some_iff.mp H
            obtain ⟨t342, A340, H⟩ := H
            replace H : ((laws_eqLegS.f kj13 t331 t342).bind fun t345 => (if t345 = true then ((laws_toEditS.f kj13 l1).bind fun t346 => ((laws_eqEditS.f kj13 t334 t346).bind fun t349 => (if t349 = true then ((laws_markLegS.f kj13 t331 1).bind fun bt350 => ((laws_markEditS.f kj13 t334 bt350.1).bind fun bt352 => (if bt352.1 < 0 then (laws_FnExactVersionAt.j1 kj13 l0 l1 a2 t327 t328 t337 true) else ((laws_eqLegS.f kj13 t337 t327).bind fun t354 => (if t354 = true then (laws_FnExactVersionAt.j1 kj13 l0 l1 a2 t327 t328 t337 (t338 != t328)) else (laws_FnExactVersionAt.j1 kj13 l0 l1 a2 t327 t328 t337 true)))))) else (some false)))) else (some false))) = some r := H
            have A34 := Aside0.mk A340
            clear A340
            replace H := Option.bind_eq_some_iff.mp H
            obtain ⟨t345, A350, H⟩ := H
            replace H : (if t345 = true then ((laws_toEditS.f kj13 l1).bind fun t346 => ((laws_eqEditS.f kj13 t334 t346).bind fun t349 => (if t349 = true then ((laws_markLegS.f kj13 t331 1).bind fun bt350 => ((laws_markEditS.f kj13 t334 bt350.1).bind fun bt352 => (if bt352.1 < 0 then (laws_FnExactVersionAt.j1 kj13 l0 l1 a2 t327 t328 t337 true) else ((laws_eqLegS.f kj13 t337 t327).bind fun t354 => (if t354 = true then (laws_FnExactVersionAt.j1 kj13 l0 l1 a2 t327 t328 t337 (t338 != t328)) else (laws_FnExactVersionAt.j1 kj13 l0 l1 a2 t327 t328 t337 true)))))) else (some false)))) else (some false)) = some r := H
            have A35 := Aside0.mk A350
            clear A350
            by_cases c36 : t345 = true
            · subst c36
              have H1 : ((laws_toEditS.f kj13 l1).bind fun t346 => ((laws_eqEditS.f kj13 t334 t346).bind fun t349 => (if t349 = true then ((laws_markLegS.f kj13 t331 1).bind fun bt350 => ((laws_markEditS.f kj13 t334 bt350.1).bind fun bt352 => (if bt352.1 < 0 then (laws_FnExactVersionAt.j1 kj13 l0 l1 a2 t327 t328 t337 true) else ((laws_eqLegS.f kj13 t337 t327).bind fun t354 => (if t354 = true then (laws_FnExactVersionAt.j1 kj13 l0 l1 a2 t327 t328 t337 (t338 != t328)) else (laws_FnExactVersionAt.j1 kj13 l0 l1 a2 t327 t328 t337 true)))))) else (some false)))) = some r := by rw [if_pos rfl] at H; exact H
              clear H
              have H := H1
              clear H1
              replace H := Option.bind_eq_some_iff.mp H
              obtain ⟨t346, A370, H⟩ := H
              replace H : ((laws_eqEditS.f kj13 t334 t346).bind fun t349 => (if t349 = true then ((laws_markLegS.f kj13 t331 1).bind fun bt350 => ((laws_markEditS.f kj13 t334 bt350.1).bind fun bt352 => (if bt352.1 < 0 then (laws_FnExactVersionAt.j1 kj13 l0 l1 a2 t327 t328 t337 true) else ((laws_eqLegS.f kj13 t337 t327).bind fun t354 => (if t354 = true then (laws_FnExactVersionAt.j1 kj13 l0 l1 a2 t327 t328 t337 (t338 != t328)) else (laws_FnExactVersionAt.j1 kj13 l0 l1 a2 t327 t328 t337 true)))))) else (some false))) = some r := H
              have A37 := Aside0.mk A370
              clear A370
              replace H := Option.bind_eq_some_iff.mp H
              obtain ⟨t349, A380, H⟩ := H
              replace H : (if t349 = true then ((laws_markLegS.f kj13 t331 1).bind fun bt350 => ((laws_markEditS.f kj13 t334 bt350.1).bind fun bt352 => (if bt352.1 < 0 then (laws_FnExactVersionAt.j1 kj13 l0 l1 a2 t327 t328 t337 true) else ((laws_eqLegS.f kj13 t337 t327).bind fun t354 => (if t354 = true then (laws_FnExactVersionAt.j1 kj13 l0 l1 a2 t327 t328 t337 (t338 != t328)) else (laws_FnExactVersionAt.j1 kj13 l0 l1 a2 t327 t328 t337 true)))))) else (some false)) = some r := H
              have A38 := Aside0.mk A380
              clear A380
              by_cases c39 : t349 = true
              · subst c39
                have H1 : ((laws_markLegS.f kj13 t331 1).bind fun bt350 => ((laws_markEditS.f kj13 t334 bt350.1).bind fun bt352 => (if bt352.1 < 0 then (laws_FnExactVersionAt.j1 kj13 l0 l1 a2 t327 t328 t337 true) else ((laws_eqLegS.f kj13 t337 t327).bind fun t354 => (if t354 = true then (laws_FnExactVersionAt.j1 kj13 l0 l1 a2 t327 t328 t337 (t338 != t328)) else (laws_FnExactVersionAt.j1 kj13 l0 l1 a2 t327 t328 t337 true)))))) = some r := by rw [if_pos rfl] at H; exact H
                clear H
                have H := H1
                clear H1
                replace H := Option.bind_eq_some_iff.mp H
                obtain ⟨⟨t350, t351⟩, A400, H⟩ := H
                replace H : ((laws_markEditS.f kj13 t334 t350).bind fun bt352 => (if bt352.1 < 0 then (laws_FnExactVersionAt.j1 kj13 l0 l1 a2 t327 t328 t337 true) else ((laws_eqLegS.f kj13 t337 t327).bind fun t354 => (if t354 = true then (laws_FnExactVersionAt.j1 kj13 l0 l1 a2 t327 t328 t337 (t338 != t328)) else (laws_FnExactVersionAt.j1 kj13 l0 l1 a2 t327 t328 t337 true))))) = some r := H
                have A40 := Aside0.mk A400
                clear A400
                replace H := Option.bind_eq_some_iff.mp H
                obtain ⟨⟨t352, t353⟩, A410, H⟩ := H
                replace H : (if t352 < 0 then (laws_FnExactVersionAt.j1 kj13 l0 l1 a2 t327 t328 t337 true) else ((laws_eqLegS.f kj13 t337 t327).bind fun t354 => (if t354 = true then (laws_FnExactVersionAt.j1 kj13 l0 l1 a2 t327 t328 t337 (t338 != t328)) else (laws_FnExactVersionAt.j1 kj13 l0 l1 a2 t327 t328 t337 true)))) = some r := H
                have A41 := Aside0.mk A410
                clear A410
                have HC42 := Aside0.mk H
                clear H
                go_upto_region 21 with (first | ((with_reducible refine gate_callee (f := 19) rfl ?_); refine goesL_ (some 60) rfl rfl Try.func19 (by kernel_rfl) rfl #[.slice A0 l0.length c0] rfl argsB ?_; (with_reducible refine (laws_toLegS.calls kj13 _ _ l0 t342 _ ?side1 ?side2 A34.out).mono ?_); (case side1 => repeat (first | exact (Kd.C_below HR0.out HB.out) | (with_reducible refine Kd.C_alloc ?_ _) | (with_reducible refine Kd.C_drewN ?_ _) | (with_reducible refine Kd.C_drew ?_))); (case side2 => exact HC0.out); rintro e w43 ⟨v343, rfl, ho0, hb⟩; refine ⟨_, rfl, ?_⟩; have n0_ := Aside0.mk (Kd.R_elder' (upR HO_8.out) (Kd.R_base ho0) hb); have n1_ := Aside0.mk (Kd.R_elder' (upR HO_10.out) (Kd.R_base ho0) hb); have n2_ := Aside0.mk (Kd.R_below (upR HO_11.out) hb); have n3_ := Aside0.mk (Kd.R_elder' (upR HO_12.out) (Kd.R_base ho0) hb); have n4_ := Aside0.mk (Kd.R_lower (Kd.R_new' (Kd.R_new' (Kd.R_new' ho0 (Kd.R_lt (upR HO_8.out))) (Kd.R_lt (upR HO_10.out))) (Kd.R_lt (upR HO_12.out))) (below_size (upB HB.out))); have n5_ := Aside0.mk (below_step (upB HB.out) hb); clear HO_8; clear HO_10; clear HO_11; clear HO_12; clear HB; have HO_8 := n0_; have HO_10 := n1_; have HO_11 := n2_; have HO_12 := n3_; have HO344 := n4_; have HB := n5_; clear n0_ n1_ n2_ n3_ n4_ n5_; (try clear hb); (try clear hk); (try clear ho0); obtain ⟨Ao44, co44, eo44⟩ := Kd.R_slice HO344.out; subst eo44) | ((with_reducible refine gate_callee (f := 22) rfl ?_); refine goesL_ (some 61) rfl rfl Try.func22 (by kernel_rfl) rfl #[.slice Ao22 t331.length co22, .slice Ao44 t342.length co44] rfl argsB ?_; (with_reducible refine (laws_eqLegS.calls kj13 _ _ t331 _ _ t342 true _ ?side1 ?side2 ?side3 ?side4 A35.out).mono ?_); (case side1 => repeat (first | exact (Kd.R_reads' HO_10.out).2.2 | (with_reducible refine Kd.C_alloc ?_ _) | (with_reducible refine Kd.C_drewN ?_ _) | (with_reducible refine Kd.C_drew ?_))); (case side2 => exact (Kd.R_reads' HO_10.out).2.1); (case side3 => repeat (first | exact (Kd.R_reads' HO344.out).2.2 | (with_reducible refine Kd.C_alloc ?_ _) | (with_reducible refine Kd.C_drewN ?_ _) | (with_reducible refine Kd.C_drew ?_))); (case side4 => exact (Kd.R_reads' HO344.out).2.1); rintro e w45 ⟨rfl, hb⟩; refine ⟨_, rfl, ?_⟩; have n0_ := Aside0.mk (Kd.R_below (upR HO_8.out) hb); have n1_ := Aside0.mk (Kd.R_below (upR HO_10.out) hb); have n2_ := Aside0.mk (Kd.R_below (upR HO_11.out) hb); have n3_ := Aside0.mk (Kd.R_below (upR HO_12.out) hb); have n4_ := Aside0.mk (Kd.R_below (upR HO344.out) hb); have n5_ := Aside0.mk (below_step (upB HB.out) hb); clear HO_8; clear HO_10; clear HO_11; clear HO_12; clear HO344; clear HB; have HO_8 := n0_; have HO_10 := n1_; have HO_11 := n2_; have HO_12 := n3_; have HO344 := n4_; have HB := n5_; clear n0_ n1_ n2_ n3_ n4_ n5_; (try clear hb); (try clear hk)) | ((with_reducible refine gate_callee (f := 31) rfl ?_); refine goesL_ (some 65) rfl rfl Try.func31 (by kernel_rfl) rfl #[.slice A1 l1.length c1] rfl argsB ?_; (with_reducible refine (laws_toEditS.calls kj13 _ _ l1 t346 _ ?side1 ?side2 A37.out).mono ?_); (case side1 => repeat (first | exact (Kd.C_below HR1.out HB.out) | (with_reducible refine Kd.C_alloc ?_ _) | (with_reducible refine Kd.C_drewN ?_ _) | (with_reducible refine Kd.C_drew ?_))); (case side2 => exact HC1.out); rintro e w46 ⟨v347, rfl, ho0, hb⟩; refine ⟨_, rfl, ?_⟩; have n0_ := Aside0.mk (Kd.R_below (upR HO_8.out) hb); have n1_ := Aside0.mk (Kd.R_below (upR HO_10.out) hb); have n2_ := Aside0.mk (Kd.R_elder' (upR HO_11.out) (Kd.R_base ho0) hb); have n3_ := Aside0.mk (Kd.R_below (upR HO_12.out) hb); have n4_ := Aside0.mk (Kd.R_below (upR HO344.out) hb); have n5_ := Aside0.mk (Kd.R_lower (Kd.R_new' ho0 (Kd.R_lt (upR HO_11.out))) (below_size (upB HB.out))); have n6_ := Aside0.mk (below_step (upB HB.out) hb); clear HO_8; clear HO_10; clear HO_11; clear HO_12; clear HO344; clear HB; have HO_8 := n0_; have HO_10 := n1_; have HO_11 := n2_; have HO_12 := n3_; have HO344 := n4_; have HO348 := n5_; have HB := n6_; clear n0_ n1_ n2_ n3_ n4_ n5_ n6_; (try clear hb); (try clear hk); (try clear ho0); obtain ⟨Ao47, co47, eo47⟩ := Kd.R_slice HO348.out; subst eo47) | ((with_reducible refine gate_callee (f := 21) rfl ?_); refine goesL_ (some 66) rfl rfl Try.func21 (by kernel_rfl) rfl #[.slice Ao23 t334.length co23, .slice Ao47 t346.length co47] rfl argsB ?_; (with_reducible refine (laws_eqEditS.calls kj13 _ _ t334 _ _ t346 true _ ?side1 ?side2 ?side3 ?side4 A38.out).mono ?_); (case side1 => repeat (first | exact (Kd.R_reads' HO_11.out).2.2 | (with_reducible refine Kd.C_alloc ?_ _) | (with_reducible refine Kd.C_drewN ?_ _) | (with_reducible refine Kd.C_drew ?_))); (case side2 => exact (Kd.R_reads' HO_11.out).2.1); (case side3 => repeat (first | exact (Kd.R_reads' HO348.out).2.2 | (with_reducible refine Kd.C_alloc ?_ _) | (with_reducible refine Kd.C_drewN ?_ _) | (with_reducible refine Kd.C_drew ?_))); (case side4 => exact (Kd.R_reads' HO348.out).2.1); rintro e w48 ⟨rfl, hb⟩; refine ⟨_, rfl, ?_⟩; have n0_ := Aside0.mk (Kd.R_below (upR HO_8.out) hb); have n1_ := Aside0.mk (Kd.R_below (upR HO_10.out) hb); have n2_ := Aside0.mk (Kd.R_below (upR HO_11.out) hb); have n3_ := Aside0.mk (Kd.R_below (upR HO_12.out) hb); have n4_ := Aside0.mk (Kd.R_below (upR HO344.out) hb); have n5_ := Aside0.mk (Kd.R_below (upR HO348.out) hb); have n6_ := Aside0.mk (below_step (upB HB.out) hb); clear HO_8; clear HO_10; clear HO_11; clear HO_12; clear HO344; clear HO348; clear HB; have HO_8 := n0_; have HO_10 := n1_; have HO_11 := n2_; have HO_12 := n3_; have HO344 := n4_; have HO348 := n5_; have HB := n6_; clear n0_ n1_ n2_ n3_ n4_ n5_ n6_; (try clear hb); (try clear hk)) | ((with_reducible refine gate_callee (f := 23) rfl ?_); refine goesL_ (some 70) rfl rfl Try.func23 (by kernel_rfl) rfl #[.slice Ao22 t331.length co22, .int .i64 1] rfl argsB ?_; (with_reducible refine (laws_markLegS.calls kj13 (fun k_ => some k_ = (.slice Ao22 t331.length co22 : Value).ownBlock) (.slice Ao22 t331.length co22) t331 1 t350 t351 w _ ?side1 ?side2 A40.out).mono ?_); (case side1 => repeat (first | (with_reducible first | exact HB.out | apply below_alloc | apply pw_below_drewN | apply below_drew1) | exact HB.out)); (case side2 => exact Kd.R_tight rfl HO_10.out); rintro e w49 ⟨rfl, hy0, hb, hkp⟩; refine ⟨_, rfl, ?_⟩; have n0_ := Aside0.mk (Kd.R_mono (ok' := fun k_ => some k_ ≠ (.slice Ao22 t331.length co22 : Value).ownBlock ∧ some k_ ≠ (v339 : Value).ownBlock ∧ some k_ ≠ (.slice Ao44 t342.length co44 : Value).ownBlock) (Kd.R_keptB (HO_8.out) hkp (fun k_ hk_ hs_ => (hk_.1.1) hs_)) (fun k_ hk_ => ⟨hk_.1.1.1, hk_.1.1.2, hk_.1.2⟩)); have n1_ := Aside0.mk (Kd.R_reok rfl hy0 (fun k_ e_ => HO_10.out.1 k_ e_)); have n2_ := Aside0.mk (Kd.R_mono (ok' := fun k_ => some k_ ≠ (.slice Ao47 t346.length co47 : Value).ownBlock) (Kd.R_keptB ((Kd.R_apart' HO_11.out (Kd.R_typed HO_10.out) (by decide))) hkp (fun k_ hk_ hs_ => (hk_.2) hs_)) (fun k_ hk_ => hk_.1.1.2)); have n3_ := Aside0.mk (Kd.R_mono (ok' := fun k_ => some k_ ≠ (v329 : Value).ownBlock ∧ some k_ ≠ (.slice Ao22 t331.length co22 : Value).ownBlock ∧ some k_ ≠ (.slice Ao44 t342.length co44 : Value).ownBlock) (Kd.R_keptB (HO_12.out) hkp (fun k_ hk_ hs_ => (hk_.1.2) hs_)) (fun k_ hk_ => ⟨hk_.1.1.1, hk_.1.1.2, hk_.1.2⟩)); have n4_ := Aside0.mk (Kd.R_mono (ok' := fun k_ => some k_ ≠ (v329 : Value).ownBlock ∧ some k_ ≠ (.slice Ao22 t331.length co22 : Value).ownBlock ∧ some k_ ≠ (v339 : Value).ownBlock) (Kd.R_keptB (HO344.out) hkp (fun k_ hk_ hs_ => (hk_.1.2) hs_)) (fun k_ hk_ => ⟨hk_.1.1.1.2, hk_.1.1.2, hk_.1.2⟩)); have n5_ := Aside0.mk (Kd.R_mono (ok' := fun k_ => some k_ ≠ (.slice Ao23 t334.length co23 : Value).ownBlock) (Kd.R_keptB ((Kd.R_apart' HO348.out (Kd.R_typed HO_10.out) (by decide))) hkp (fun k_ hk_ hs_ => (hk_.2) hs_)) (fun k_ hk_ => hk_.1.1.2)); have n6_ := Aside0.mk (hb); clear HO_8; clear HO_10; clear HO_11; clear HO_12; clear HO344; clear HO348; clear HB; have HO_8 := n0_; have HO_10 := n1_; have HO_11 := n2_; have HO_12 := n3_; have HO344 := n4_; have HO348 := n5_; have HB := n6_; clear n0_ n1_ n2_ n3_ n4_ n5_ n6_; (try clear hb); (try clear hkp); (try clear hy0)) | ((with_reducible refine gate_callee (f := 24) rfl ?_); refine goesL_ (some 73) rfl rfl Try.func24 (by kernel_rfl) rfl #[.slice Ao23 t334.length co23, .int .i64 t350] rfl argsB ?_; (with_reducible refine (laws_markEditS.calls kj13 (fun k_ => some k_ = (.slice Ao23 t334.length co23 : Value).ownBlock) (.slice Ao23 t334.length co23) t334 t350 t352 t353 w _ ?side1 ?side2 A41.out).mono ?_); (case side1 => repeat (first | (with_reducible first | exact HB.out | apply below_alloc | apply pw_below_drewN | apply below_drew1) | exact HB.out)); (case side2 => exact Kd.R_tight rfl HO_11.out); rintro e w50 ⟨rfl, hy0, hb, hkp⟩; refine ⟨_, rfl, ?_⟩; have n0_ := Aside0.mk (Kd.R_mono (ok' := fun k_ => some k_ ≠ (.slice Ao22 t331.length co22 : Value).ownBlock ∧ some k_ ≠ (v339 : Value).ownBlock ∧ some k_ ≠ (.slice Ao44 t342.length co44 : Value).ownBlock) (Kd.R_keptB ((Kd.R_apart' HO_8.out (Kd.R_typed HO_11.out) (by decide))) hkp (fun k_ hk_ hs_ => (hk_.2) hs_)) (fun k_ hk_ => ⟨hk_.1.1.1, hk_.1.1.2.1, hk_.1.1.2.2⟩)); have n1_ := Aside0.mk (Kd.R_mono (ok' := fun k_ => some k_ ≠ (v329 : Value).ownBlock ∧ some k_ ≠ (v339 : Value).ownBlock ∧ some k_ ≠ (.slice Ao44 t342.length co44 : Value).ownBlock) (Kd.R_keptB ((Kd.R_apart' HO_10.out (Kd.R_typed HO_11.out) (by decide))) hkp (fun k_ hk_ hs_ => (hk_.2) hs_)) (fun k_ hk_ => ⟨hk_.1.1.1.1, hk_.1.1.1.2, hk_.1.1.2⟩)); have n2_ := Aside0.mk (Kd.R_reok rfl hy0 (fun k_ e_ => HO_11.out.1 k_ e_)); have n3_ := Aside0.mk (Kd.R_mono (ok' := fun k_ => some k_ ≠ (v329 : Value).ownBlock ∧ some k_ ≠ (.slice Ao22 t331.length co22 : Value).ownBlock ∧ some k_ ≠ (.slice Ao44 t342.length co44 : Value).ownBlock) (Kd.R_keptB ((Kd.R_apart' HO_12.out (Kd.R_typed HO_11.out) (by decide))) hkp (fun k_ hk_ hs_ => (hk_.2) hs_)) (fun k_ hk_ => ⟨hk_.1.1.1, hk_.1.1.2.1, hk_.1.1.2.2⟩)); have n4_ := Aside0.mk (Kd.R_mono (ok' := fun k_ => some k_ ≠ (v329 : Value).ownBlock ∧ some k_ ≠ (.slice Ao22 t331.length co22 : Value).ownBlock ∧ some k_ ≠ (v339 : Value).ownBlock) (Kd.R_keptB ((Kd.R_apart' HO344.out (Kd.R_typed HO_11.out) (by decide))) hkp (fun k_ hk_ hs_ => (hk_.2) hs_)) (fun k_ hk_ => ⟨hk_.1.1.1, hk_.1.1.2.1, hk_.1.1.2.2⟩)); have n5_ := Aside0.mk (Kd.R_mono (ok' := fun k_ => some k_ ≠ (.slice Ao23 t334.length co23 : Value).ownBlock) (Kd.R_keptB (HO348.out) hkp (fun k_ hk_ hs_ => (hk_) hs_)) (fun k_ hk_ => hk_.1)); have n6_ := Aside0.mk (hb); clear HO_8; clear HO_10; clear HO_11; clear HO_12; clear HO344; clear HO348; clear HB; have HO_8 := n0_; have HO_10 := n1_; have HO_11 := n2_; have HO_12 := n3_; have HO344 := n4_; have HO348 := n5_; have HB := n6_; clear n0_ n1_ n2_ n3_ n4_ n5_ n6_; (try clear hb); (try clear hkp); (try clear hy0)))
                (try simp only [Act.put, List.setIfInBounds_toArray, List.set_cons_zero, List.set_cons_succ])
                go_cut [86] (fun v86 wc => ∃ (kq : Nat) (x86_41 : Bool), v86 = .bool x86_41 ∧ Aside0 (laws_FnExactVersionAt.j1 kq l0 l1 a2 t327 t328 t337 x86_41 = some r) ∧ Aside0 (kq ≤ kj13) ∧ Aside0 (Kd.R k26 26 wc w.heap.size (fun k_ => some k_ ≠ (v339 : Value).ownBlock) v329 t327) ∧ Aside0 (Kd.R k26 26 wc w.heap.size (fun k_ => some k_ ≠ (v329 : Value).ownBlock) v339 t337) ∧ Aside0 (Below w.heap.size w wc))
                case first =>
                  have H := HC42.out
                  clear HC42
                  by_cases c51 : t352 < 0
                  · rw [if_pos c51] at H
                    have c51b0 : decide (t352 < 0) = true := decide_eq_true c51
                    clear c51
                    (first | rw [c51b0] | (simp only [i64_w, i32_w]; rw [c51b0]) | skip)
                    have H' := Aside0.mk H
                    clear H
                    go_wp2
                    go_meet
                    case rel => exact ⟨_, (true), (by first | rfl | (simp; done) | (simp [*]; done)), H', ⟨by have := HJ13.out; first | omega | exact Nat.le_refl _⟩, ⟨by (with_reducible repeat (first | apply Kd.R_alloc | apply Kd.R_drewN | apply Kd.R_drew)); exact Kd.R_mono HO_8.out (fun _ hk => hk.2.1)⟩, ⟨by (with_reducible repeat (first | apply Kd.R_alloc | apply Kd.R_drewN | apply Kd.R_drew)); exact Kd.R_mono HO_12.out (fun _ hk => hk.1)⟩, ⟨(upB HB.out)⟩⟩
                  · rw [if_neg c51] at H
                    have c51b0 : decide (t352 < 0) = false := decide_eq_false c51
                    clear c51
                    (first | rw [c51b0] | (simp only [i64_w, i32_w]; rw [c51b0]) | skip)
                    replace H := Option.bind_eq_some_iff.mp H
                    obtain ⟨t354, A520, H⟩ := H
                    replace H : (if t354 = true then (laws_FnExactVersionAt.j1 kj13 l0 l1 a2 t327 t328 t337 (t338 != t328)) else (laws_FnExactVersionAt.j1 kj13 l0 l1 a2 t327 t328 t337 true)) = some r := H
                    have A52 := Aside0.mk A520
                    clear A520
                    by_cases c53 : t354 = true
                    · subst c53
                      have H1 : (laws_FnExactVersionAt.j1 kj13 l0 l1 a2 t327 t328 t337 (t338 != t328)) = some r := by rw [if_pos rfl] at H; exact H
                      clear H
                      have H := H1
                      clear H1
                      have H' := Aside0.mk H
                      clear H
                      obtain ⟨Ao54, co54, eo54⟩ := Kd.R_slice HO_12.out
                      subst eo54
                      obtain ⟨Ao55, co55, eo55⟩ := Kd.R_slice HO_8.out
                      subst eo55
                      go_wp2_with (first | (go_at_call 22; (with_reducible refine (laws_eqLegS.calls kj13 _ _ t337 _ _ t327 true _ ?side1 ?side2 ?side3 ?side4 A52.out).mono ?_); (case side1 => repeat (first | exact (Kd.R_reads' HO_12.out).2.2 | (with_reducible refine Kd.C_alloc ?_ _) | (with_reducible refine Kd.C_drewN ?_ _) | (with_reducible refine Kd.C_drew ?_))); (case side2 => exact (Kd.R_reads' HO_12.out).2.1); (case side3 => repeat (first | exact (Kd.R_reads' HO_8.out).2.2 | (with_reducible refine Kd.C_alloc ?_ _) | (with_reducible refine Kd.C_drewN ?_ _) | (with_reducible refine Kd.C_drew ?_))); (case side4 => exact (Kd.R_reads' HO_8.out).2.1); rintro e w56 ⟨rfl, hb⟩; have n0_ := Aside0.mk (Kd.R_below (upR HO_8.out) hb); have n1_ := Aside0.mk (Kd.R_below (upR HO_10.out) hb); have n2_ := Aside0.mk (Kd.R_below (upR HO_11.out) hb); have n3_ := Aside0.mk (Kd.R_below (upR HO_12.out) hb); have n4_ := Aside0.mk (Kd.R_below (upR HO344.out) hb); have n5_ := Aside0.mk (Kd.R_below (upR HO348.out) hb); have n6_ := Aside0.mk (below_step (upB HB.out) hb); clear HO_8; clear HO_10; clear HO_11; clear HO_12; clear HO344; clear HO348; clear HB; have HO_8 := n0_; have HO_10 := n1_; have HO_11 := n2_; have HO_12 := n3_; have HO344 := n4_; have HO348 := n5_; have HB := n6_; clear n0_ n1_ n2_ n3_ n4_ n5_ n6_; (try clear hb); (try clear hk)))
                      go_meet
                      case rel => exact ⟨_, ((t338 != t328)), (by first | rfl | (simp; done) | (simp [*]; done)), H', ⟨by have := HJ13.out; first | omega | exact Nat.le_refl _⟩, ⟨by (with_reducible repeat (first | apply Kd.R_alloc | apply Kd.R_drewN | apply Kd.R_drew)); exact Kd.R_mono HO_8.out (fun _ hk => hk.2.1)⟩, ⟨by (with_reducible repeat (first | apply Kd.R_alloc | apply Kd.R_drewN | apply Kd.R_drew)); exact Kd.R_mono HO_12.out (fun _ hk => hk.1)⟩, ⟨(upB HB.out)⟩⟩
                    · replace c53 := Bool.eq_false_iff.mpr c53
                      subst c53
                      have H1 : (laws_FnExactVersionAt.j1 kj13 l0 l1 a2 t327 t328 t337 true) = some r := by rw [if_neg (show ¬ (false = true) by decide)] at H; exact H
                      clear H
                      have H := H1
                      clear H1
                      have H' := Aside0.mk H
                      clear H
                      obtain ⟨Ao57, co57, eo57⟩ := Kd.R_slice HO_12.out
                      subst eo57
                      obtain ⟨Ao58, co58, eo58⟩ := Kd.R_slice HO_8.out
                      subst eo58
                      go_wp2_with (first | (go_at_call 22; (with_reducible refine (laws_eqLegS.calls kj13 _ _ t337 _ _ t327 false _ ?side1 ?side2 ?side3 ?side4 A52.out).mono ?_); (case side1 => repeat (first | exact (Kd.R_reads' HO_12.out).2.2 | (with_reducible refine Kd.C_alloc ?_ _) | (with_reducible refine Kd.C_drewN ?_ _) | (with_reducible refine Kd.C_drew ?_))); (case side2 => exact (Kd.R_reads' HO_12.out).2.1); (case side3 => repeat (first | exact (Kd.R_reads' HO_8.out).2.2 | (with_reducible refine Kd.C_alloc ?_ _) | (with_reducible refine Kd.C_drewN ?_ _) | (with_reducible refine Kd.C_drew ?_))); (case side4 => exact (Kd.R_reads' HO_8.out).2.1); rintro e w59 ⟨rfl, hb⟩; have n0_ := Aside0.mk (Kd.R_below (upR HO_8.out) hb); have n1_ := Aside0.mk (Kd.R_below (upR HO_10.out) hb); have n2_ := Aside0.mk (Kd.R_below (upR HO_11.out) hb); have n3_ := Aside0.mk (Kd.R_below (upR HO_12.out) hb); have n4_ := Aside0.mk (Kd.R_below (upR HO344.out) hb); have n5_ := Aside0.mk (Kd.R_below (upR HO348.out) hb); have n6_ := Aside0.mk (below_step (upB HB.out) hb); clear HO_8; clear HO_10; clear HO_11; clear HO_12; clear HO344; clear HO348; clear HB; have HO_8 := n0_; have HO_10 := n1_; have HO_11 := n2_; have HO_12 := n3_; have HO344 := n4_; have HO348 := n5_; have HB := n6_; clear n0_ n1_ n2_ n3_ n4_ n5_ n6_; (try clear hb); (try clear hk)))
                      go_meet
                      case rel => exact ⟨_, (true), (by first | rfl | (simp; done) | (simp [*]; done)), H', ⟨by have := HJ13.out; first | omega | exact Nat.le_refl _⟩, ⟨by (with_reducible repeat (first | apply Kd.R_alloc | apply Kd.R_drewN | apply Kd.R_drew)); exact Kd.R_mono HO_8.out (fun _ hk => hk.2.1)⟩, ⟨by (with_reducible repeat (first | apply Kd.R_alloc | apply Kd.R_drewN | apply Kd.R_drew)); exact Kd.R_mono HO_12.out (fun _ hk => hk.1)⟩, ⟨(upB HB.out)⟩⟩
                case rest =>
                  clear HC42
                  try clear c1
                  try clear c5
                  try clear c5b0
                  try clear c7
                  try clear c7b0
                  try clear c26
                  try clear c33
                  try clear c36
                  try clear c39
                  try clear c51
                  try clear c51b0
                  try clear c53
                  obtain ⟨kq, x86_41, rfl, HA, HJ41, HO_8, HO_12, HB⟩ := hcut
                  cases kq with
                  | zero => exact absurd HA.out (by simp [laws_FnExactVersionAt.j1])
                  | succ kj41 =>
                    have H := HA.out
                    clear HA
                    simp only [laws_FnExactVersionAt.j1] at H
                    by_cases c60 : x86_41 = true
                    · subst c60
                      have H1 : (some false) = some r := by rw [if_pos rfl] at H; exact H
                      clear H
                      have H := H1
                      clear H1
                      exact absurd (Option.some.inj H) (by rw [hT]; decide)
                    · replace c60 := Bool.eq_false_iff.mpr c60
                      subst c60
                      have H1 : ((laws_markLegS.f kj41 t337 1).bind fun bt355 => ((laws_heldLegS.f kj41 bt355.2 1).bind fun t357 => (if t357 < 0 then (some false) else (if t357 = bt355.1 then ((laws_toLegS.f kj41 l0).bind fun t358 => ((laws_toEditS.f kj41 l1).bind fun t361 => ((impl_VersionAt.f kj41 t358 t361 a2).bind fun bt364 => ((laws_eqLegS.f kj41 bt364.1 t327).bind fun t368 => (if t368 = true then (laws_FnExactVersionAt.j2 kj41 bt355.2 bt355.1 (bt364.2 != t328)) else (laws_FnExactVersionAt.j2 kj41 bt355.2 bt355.1 true)))))) else (some false))))) = some r := by rw [if_neg (show ¬ (false = true) by decide)] at H; exact H
                      clear H
                      have H := H1
                      clear H1
                      replace H := Option.bind_eq_some_iff.mp H
                      obtain ⟨⟨t355, t356⟩, A610, H⟩ := H
                      replace H : ((laws_heldLegS.f kj41 t356 1).bind fun t357 => (if t357 < 0 then (some false) else (if t357 = t355 then ((laws_toLegS.f kj41 l0).bind fun t358 => ((laws_toEditS.f kj41 l1).bind fun t361 => ((impl_VersionAt.f kj41 t358 t361 a2).bind fun bt364 => ((laws_eqLegS.f kj41 bt364.1 t327).bind fun t368 => (if t368 = true then (laws_FnExactVersionAt.j2 kj41 t356 t355 (bt364.2 != t328)) else (laws_FnExactVersionAt.j2 kj41 t356 t355 true)))))) else (some false)))) = some r := H
                      have A61 := Aside0.mk A610
                      clear A610
                      replace H := Option.bind_eq_some_iff.mp H
                      obtain ⟨t357, A620, H⟩ := H
                      replace H : (if t357 < 0 then (some false) else (if t357 = t355 then ((laws_toLegS.f kj41 l0).bind fun t358 => ((laws_toEditS.f kj41 l1).bind fun t361 => ((impl_VersionAt.f kj41 t358 t361 a2).bind fun bt364 => ((laws_eqLegS.f kj41 bt364.1 t327).bind fun t368 => (if t368 = true then (laws_FnExactVersionAt.j2 kj41 t356 t355 (bt364.2 != t328)) else (laws_FnExactVersionAt.j2 kj41 t356 t355 true)))))) else (some false))) = some r := H
                      have A62 := Aside0.mk A620
                      clear A620
                      by_cases c63 : t357 < 0
                      · rw [if_pos c63] at H
                        have c63b0 : decide (t357 < 0) = true := decide_eq_true c63
                        clear c63
                        exact absurd (Option.some.inj H) (by rw [hT]; decide)
                      · rw [if_neg c63] at H
                        have c63b0 : decide (t357 < 0) = false := decide_eq_false c63
                        clear c63
                        by_cases c66 : t357 = t355
                        · rw [if_pos c66] at H
                          have c66b0 : (t357 == t355) = true := beq_iff_eq.mpr c66
                          have c66b1 : (t357 != t355) = false := bne_eq_false_iff_eq.mpr c66
                          clear c66
                          replace H := Option.bind_eq_some_iff.mp H
                          obtain ⟨t358, A670, H⟩ := H
                          replace H : ((laws_toEditS.f kj41 l1).bind fun t361 => ((impl_VersionAt.f kj41 t358 t361 a2).bind fun bt364 => ((laws_eqLegS.f kj41 bt364.1 t327).bind fun t368 => (if t368 = true then (laws_FnExactVersionAt.j2 kj41 t356 t355 (bt364.2 != t328)) else (laws_FnExactVersionAt.j2 kj41 t356 t355 true))))) = some r := H
                          have A67 := Aside0.mk A670
                          clear A670
                          replace H := Option.bind_eq_some_iff.mp H
                          obtain ⟨t361, A680, H⟩ := H
                          replace H : ((impl_VersionAt.f kj41 t358 t361 a2).bind fun bt364 => ((laws_eqLegS.f kj41 bt364.1 t327).bind fun t368 => (if t368 = true then (laws_FnExactVersionAt.j2 kj41 t356 t355 (bt364.2 != t328)) else (laws_FnExactVersionAt.j2 kj41 t356 t355 true)))) = some r := H
                          have A68 := Aside0.mk A680
                          clear A680
                          replace H := Option.bind_eq_some_iff.mp H
                          obtain ⟨⟨t364, t365⟩, A690, H⟩ := H
                          replace H : ((laws_eqLegS.f kj41 t364 t327).bind fun t368 => (if t368 = true then (laws_FnExactVersionAt.j2 kj41 t356 t355 (t365 != t328)) else (laws_FnExactVersionAt.j2 kj41 t356 t355 true))) = some r := H
                          have A69 := Aside0.mk A690
                          clear A690
                          have HC70 := Aside0.mk H
                          clear H
                          obtain ⟨Ao71, co71, eo71⟩ := Kd.R_slice HO_12.out
                          subst eo71
                          go_upto_region 32 with (first | ((with_reducible refine gate_callee (f := 23) rfl ?_); refine goesL_ (some 89) rfl rfl Try.func23 (by kernel_rfl) rfl #[.slice Ao71 t337.length co71, .int .i64 1] rfl argsB ?_; (with_reducible refine (laws_markLegS.calls kj41 (fun k_ => some k_ = (.slice Ao71 t337.length co71 : Value).ownBlock) (.slice Ao71 t337.length co71) t337 1 t355 t356 w _ ?side1 ?side2 A61.out).mono ?_); (case side1 => repeat (first | (with_reducible first | exact HB.out | apply below_alloc | apply pw_below_drewN | apply below_drew1) | exact HB.out)); (case side2 => exact Kd.R_tight rfl HO_12.out); rintro e w72 ⟨rfl, hy0, hb, hkp⟩; refine ⟨_, rfl, ?_⟩; have n0_ := Aside0.mk (Kd.R_mono (ok' := fun k_ => some k_ ≠ (.slice Ao71 t337.length co71 : Value).ownBlock) (Kd.R_keptB (HO_8.out) hkp (fun k_ hk_ hs_ => (hk_) hs_)) (fun k_ hk_ => hk_.1)); have n1_ := Aside0.mk (Kd.R_reok rfl hy0 (fun k_ e_ => HO_12.out.1 k_ e_)); have n2_ := Aside0.mk (hb); clear HO_8; clear HO_12; clear HB; have HO_8 := n0_; have HO_12 := n1_; have HB := n2_; clear n0_ n1_ n2_; (try clear hb); (try clear hkp); (try clear hy0)) | ((with_reducible refine gate_callee (f := 28) rfl ?_); refine goesL_ (some 92) rfl rfl Try.func28 (by kernel_rfl) rfl #[.slice Ao71 t356.length co71, .int .i64 1] rfl (by (try simp only [List.map_toArray, List.map_cons, List.map_nil]); first | done | (rw [show t356.length = t337.length from (Kd.R_reads' HO_12.out).1.symm] <;> rfl) | rfl | (simp only [List.length_drop, List.length_take]; rfl)) ?_; (with_reducible refine (laws_heldLegS.calls kj41 _ _ t356 1 t357 _ ?side1 ?side2 A62.out).mono ?_); (case side1 => repeat (first | exact (Kd.R_reads' HO_12.out).2.2 | (with_reducible refine Kd.C_alloc ?_ _) | (with_reducible refine Kd.C_drewN ?_ _) | (with_reducible refine Kd.C_drew ?_))); (case side2 => rw [show t356.length = t337.length from (Kd.R_reads' HO_12.out).1.symm]; exact (Kd.R_reads' HO_12.out).2.1); rintro e w' ⟨rfl, ⟨nd, rfl⟩⟩; refine ⟨_, rfl, ?_⟩) | ((with_reducible refine gate_callee (f := 19) rfl ?_); refine goesL_ (some 100) rfl rfl Try.func19 (by kernel_rfl) rfl #[.slice A0 l0.length c0] rfl argsB ?_; (with_reducible refine (laws_toLegS.calls kj41 _ _ l0 t358 _ ?side1 ?side2 A67.out).mono ?_); (case side1 => repeat (first | exact (Kd.C_below HR0.out (upB HB.out)) | (with_reducible refine Kd.C_alloc ?_ _) | (with_reducible refine Kd.C_drewN ?_ _) | (with_reducible refine Kd.C_drew ?_))); (case side2 => exact HC0.out); rintro e w73 ⟨v359, rfl, ho0, hb⟩; refine ⟨_, rfl, ?_⟩; have n0_ := Aside0.mk (Kd.R_elder' (upR HO_8.out) (Kd.R_base ho0) hb); have n1_ := Aside0.mk (Kd.R_elder' (upR HO_12.out) (Kd.R_base ho0) hb); have n2_ := Aside0.mk (Kd.R_lower (Kd.R_new' (Kd.R_new' ho0 (Kd.R_lt (upR HO_8.out))) (Kd.R_lt (upR HO_12.out))) (below_size (upB HB.out))); have n3_ := Aside0.mk (below_step (upB HB.out) hb); clear HO_8; clear HO_12; clear HB; have HO_8 := n0_; have HO_12 := n1_; have HO360 := n2_; have HB := n3_; clear n0_ n1_ n2_ n3_; (try clear hb); (try clear hk); (try clear ho0)) | ((with_reducible refine gate_callee (f := 31) rfl ?_); refine goesL_ (some 102) rfl rfl Try.func31 (by kernel_rfl) rfl #[.slice A1 l1.length c1] rfl argsB ?_; (with_reducible refine (laws_toEditS.calls kj41 _ _ l1 t361 _ ?side1 ?side2 A68.out).mono ?_); (case side1 => repeat (first | exact (Kd.C_below HR1.out HB.out) | (with_reducible refine Kd.C_alloc ?_ _) | (with_reducible refine Kd.C_drewN ?_ _) | (with_reducible refine Kd.C_drew ?_))); (case side2 => exact HC1.out); rintro e w74 ⟨v362, rfl, ho0, hb⟩; refine ⟨_, rfl, ?_⟩; have n0_ := Aside0.mk (Kd.R_below (upR HO_8.out) hb); have n1_ := Aside0.mk (Kd.R_below (upR HO_12.out) hb); have n2_ := Aside0.mk (Kd.R_below (upR HO360.out) hb); have n3_ := Aside0.mk (Kd.R_lower ho0 (below_size (upB HB.out))); have n4_ := Aside0.mk (below_step (upB HB.out) hb); clear HO_8; clear HO_12; clear HO360; clear HB; have HO_8 := n0_; have HO_12 := n1_; have HO360 := n2_; have HO363 := n3_; have HB := n4_; clear n0_ n1_ n2_ n3_ n4_; (try clear hb); (try clear hk); (try clear ho0); obtain ⟨Ao75, co75, eo75⟩ := Kd.R_slice HO360.out; subst eo75; obtain ⟨Ao76, co76, eo76⟩ := Kd.R_slice HO363.out; subst eo76) | ((with_reducible refine gate_callee (f := 34) rfl ?_); refine goesL_ (some 104) rfl rfl Try.func34 (by kernel_rfl) rfl #[.slice Ao75 t358.length co75, .slice Ao76 t361.length co76, .int .i64 a2] rfl argsB ?_; (with_reducible refine (impl_VersionAt.calls kj41 _ _ t358 _ _ t361 a2 t364 t365 _ ?side1 ?side2 ?side3 ?side4 A69.out).mono ?_); (case side1 => repeat (first | exact (Kd.R_reads' HO360.out).2.2 | (with_reducible refine Kd.C_alloc ?_ _) | (with_reducible refine Kd.C_drewN ?_ _) | (with_reducible refine Kd.C_drew ?_))); (case side2 => exact (Kd.R_reads' HO360.out).2.1); (case side3 => repeat (first | exact (Kd.R_reads' HO363.out).2.2 | (with_reducible refine Kd.C_alloc ?_ _) | (with_reducible refine Kd.C_drewN ?_ _) | (with_reducible refine Kd.C_drew ?_))); (case side4 => exact (Kd.R_reads' HO363.out).2.1); rintro e w77 ⟨v366, rfl, ho0, hb⟩; refine ⟨_, rfl, ?_⟩; have n0_ := Aside0.mk (Kd.R_elder' (upR HO_8.out) (Kd.R_base ho0) hb); have n1_ := Aside0.mk (Kd.R_elder' (upR HO_12.out) (Kd.R_base ho0) hb); have n2_ := Aside0.mk (Kd.R_elder' (upR HO360.out) (Kd.R_base ho0) hb); have n3_ := Aside0.mk (Kd.R_below (upR HO363.out) hb); have n4_ := Aside0.mk (Kd.R_lower (Kd.R_new' (Kd.R_new' (Kd.R_new' ho0 (Kd.R_lt (upR HO_8.out))) (Kd.R_lt (upR HO_12.out))) (Kd.R_lt (upR HO360.out))) (below_size (upB HB.out))); have n5_ := Aside0.mk (below_step (upB HB.out) hb); clear HO_8; clear HO_12; clear HO360; clear HO363; clear HB; have HO_8 := n0_; have HO_12 := n1_; have HO360 := n2_; have HO363 := n3_; have HO367 := n4_; have HB := n5_; clear n0_ n1_ n2_ n3_ n4_ n5_; (try clear hb); (try clear hk); (try clear ho0)))
                          (try simp only [Act.put, List.setIfInBounds_toArray, List.set_cons_zero, List.set_cons_succ])
                          go_cut [115] (fun v115 wc => ∃ (kq : Nat) (x115_69 : Bool), v115 = .bool x115_69 ∧ Aside0 (laws_FnExactVersionAt.j2 kq t356 t355 x115_69 = some r) ∧ Aside0 (kq ≤ kj41) ∧ Aside0 (Kd.R k26 26 wc w.heap.size (fun _ => True) (.slice Ao71 t337.length co71) t356) ∧ Aside0 (Below w.heap.size w wc))
                          case first =>
                            have H := HC70.out
                            clear HC70
                            replace H := Option.bind_eq_some_iff.mp H
                            obtain ⟨t368, A780, H⟩ := H
                            replace H : (if t368 = true then (laws_FnExactVersionAt.j2 kj41 t356 t355 (t365 != t328)) else (laws_FnExactVersionAt.j2 kj41 t356 t355 true)) = some r := H
                            have A78 := Aside0.mk A780
                            clear A780
                            by_cases c79 : t368 = true
                            · subst c79
                              have H1 : (laws_FnExactVersionAt.j2 kj41 t356 t355 (t365 != t328)) = some r := by rw [if_pos rfl] at H; exact H
                              clear H
                              have H := H1
                              clear H1
                              have H' := Aside0.mk H
                              clear H
                              obtain ⟨Ao80, co80, eo80⟩ := Kd.R_slice HO367.out
                              subst eo80
                              obtain ⟨Ao81, co81, eo81⟩ := Kd.R_slice HO_8.out
                              subst eo81
                              go_wp2_with (first | ((with_reducible refine gate_callee (f := 22) rfl ?_); refine goesL_ (some 109) rfl rfl Try.func22 (by kernel_rfl) rfl #[.slice Ao80 t364.length co80, .slice Ao81 t327.length co81] rfl argsB ?_; (with_reducible refine (laws_eqLegS.calls kj41 _ _ t364 _ _ t327 true _ ?side1 ?side2 ?side3 ?side4 A78.out).mono ?_); (case side1 => repeat (first | exact (Kd.R_reads' HO367.out).2.2 | (with_reducible refine Kd.C_alloc ?_ _) | (with_reducible refine Kd.C_drewN ?_ _) | (with_reducible refine Kd.C_drew ?_))); (case side2 => exact (Kd.R_reads' HO367.out).2.1); (case side3 => repeat (first | exact (Kd.R_reads' HO_8.out).2.2 | (with_reducible refine Kd.C_alloc ?_ _) | (with_reducible refine Kd.C_drewN ?_ _) | (with_reducible refine Kd.C_drew ?_))); (case side4 => exact (Kd.R_reads' HO_8.out).2.1); rintro e w82 ⟨rfl, hb⟩; refine ⟨_, rfl, ?_⟩; have n0_ := Aside0.mk (Kd.R_below (upR HO_8.out) hb); have n1_ := Aside0.mk (Kd.R_below (upR HO_12.out) hb); have n2_ := Aside0.mk (Kd.R_below (upR HO360.out) hb); have n3_ := Aside0.mk (Kd.R_below (upR HO363.out) hb); have n4_ := Aside0.mk (Kd.R_below (upR HO367.out) hb); have n5_ := Aside0.mk (below_step (upB HB.out) hb); clear HO_8; clear HO_12; clear HO360; clear HO363; clear HO367; clear HB; have HO_8 := n0_; have HO_12 := n1_; have HO360 := n2_; have HO363 := n3_; have HO367 := n4_; have HB := n5_; clear n0_ n1_ n2_ n3_ n4_ n5_; (try clear hb); (try clear hk)))
                              go_meet
                              case rel => exact ⟨_, ((t365 != t328)), (by first | rfl | (simp; done) | (simp [*]; done)), H', ⟨by have := HJ13.out; have := HJ41.out; first | omega | exact Nat.le_refl _⟩, ⟨by (with_reducible repeat (first | apply Kd.R_alloc | apply Kd.R_drewN | apply Kd.R_drew)); exact Kd.R_mono HO_12.out (fun _ hk => trivial)⟩, ⟨(upB HB.out)⟩⟩
                            · replace c79 := Bool.eq_false_iff.mpr c79
                              subst c79
                              have H1 : (laws_FnExactVersionAt.j2 kj41 t356 t355 true) = some r := by rw [if_neg (show ¬ (false = true) by decide)] at H; exact H
                              clear H
                              have H := H1
                              clear H1
                              have H' := Aside0.mk H
                              clear H
                              obtain ⟨Ao83, co83, eo83⟩ := Kd.R_slice HO367.out
                              subst eo83
                              obtain ⟨Ao84, co84, eo84⟩ := Kd.R_slice HO_8.out
                              subst eo84
                              go_wp2_with (first | ((with_reducible refine gate_callee (f := 22) rfl ?_); refine goesL_ (some 109) rfl rfl Try.func22 (by kernel_rfl) rfl #[.slice Ao83 t364.length co83, .slice Ao84 t327.length co84] rfl argsB ?_; (with_reducible refine (laws_eqLegS.calls kj41 _ _ t364 _ _ t327 false _ ?side1 ?side2 ?side3 ?side4 A78.out).mono ?_); (case side1 => repeat (first | exact (Kd.R_reads' HO367.out).2.2 | (with_reducible refine Kd.C_alloc ?_ _) | (with_reducible refine Kd.C_drewN ?_ _) | (with_reducible refine Kd.C_drew ?_))); (case side2 => exact (Kd.R_reads' HO367.out).2.1); (case side3 => repeat (first | exact (Kd.R_reads' HO_8.out).2.2 | (with_reducible refine Kd.C_alloc ?_ _) | (with_reducible refine Kd.C_drewN ?_ _) | (with_reducible refine Kd.C_drew ?_))); (case side4 => exact (Kd.R_reads' HO_8.out).2.1); rintro e w85 ⟨rfl, hb⟩; refine ⟨_, rfl, ?_⟩; have n0_ := Aside0.mk (Kd.R_below (upR HO_8.out) hb); have n1_ := Aside0.mk (Kd.R_below (upR HO_12.out) hb); have n2_ := Aside0.mk (Kd.R_below (upR HO360.out) hb); have n3_ := Aside0.mk (Kd.R_below (upR HO363.out) hb); have n4_ := Aside0.mk (Kd.R_below (upR HO367.out) hb); have n5_ := Aside0.mk (below_step (upB HB.out) hb); clear HO_8; clear HO_12; clear HO360; clear HO363; clear HO367; clear HB; have HO_8 := n0_; have HO_12 := n1_; have HO360 := n2_; have HO363 := n3_; have HO367 := n4_; have HB := n5_; clear n0_ n1_ n2_ n3_ n4_ n5_; (try clear hb); (try clear hk)))
                              go_meet
                              case rel => exact ⟨_, (true), (by first | rfl | (simp; done) | (simp [*]; done)), H', ⟨by have := HJ13.out; have := HJ41.out; first | omega | exact Nat.le_refl _⟩, ⟨by (with_reducible repeat (first | apply Kd.R_alloc | apply Kd.R_drewN | apply Kd.R_drew)); exact Kd.R_mono HO_12.out (fun _ hk => trivial)⟩, ⟨(upB HB.out)⟩⟩
                          case rest =>
                            clear HC70
                            try clear c1
                            try clear c5
                            try clear c5b0
                            try clear c7
                            try clear c7b0
                            try clear c26
                            try clear c33
                            try clear c36
                            try clear c39
                            try clear c51
                            try clear c51b0
                            try clear c53
                            try clear c60
                            try clear c63
                            try clear c63b0
                            try clear c66
                            try clear c66b0
                            try clear c66b1
                            try clear c79
                            obtain ⟨kq, x115_69, rfl, HA, HJ69, HO_12, HB⟩ := hcut
                            have hl12_69 := (Kd.R_reads' HO_12.out).1
                            rw [hl12_69] at HO_12
                            (try simp only [hl12_69])
                            cases kq with
                            | zero => exact absurd HA.out (by simp [laws_FnExactVersionAt.j2])
                            | succ kj69 =>
                              have H := HA.out
                              clear HA
                              simp only [laws_FnExactVersionAt.j2] at H
                              by_cases c86 : x115_69 = true
                              · subst c86
                                have H1 : (some false) = some r := by rw [if_pos rfl] at H; exact H
                                clear H
                                have H := H1
                                clear H1
                                exact absurd (Option.some.inj H) (by rw [hT]; decide)
                              · replace c86 := Bool.eq_false_iff.mpr c86
                                subst c86
                                have H1 : ((laws_heldLegS.f kj69 t356 1).bind fun t369 => (if t369 < 0 then (some false) else (if t369 = t355 then (some true) else (some false)))) = some r := by rw [if_neg (show ¬ (false = true) by decide)] at H; exact H
                                clear H
                                have H := H1
                                clear H1
                                replace H := Option.bind_eq_some_iff.mp H
                                obtain ⟨t369, A870, H⟩ := H
                                replace H : (if t369 < 0 then (some false) else (if t369 = t355 then (some true) else (some false))) = some r := H
                                have A87 := Aside0.mk A870
                                clear A870
                                by_cases c88 : t369 < 0
                                · rw [if_pos c88] at H
                                  have c88b0 : decide (t369 < 0) = true := decide_eq_true c88
                                  clear c88
                                  exact absurd (Option.some.inj H) (by rw [hT]; decide)
                                · rw [if_neg c88] at H
                                  have c88b0 : decide (t369 < 0) = false := decide_eq_false c88
                                  clear c88
                                  by_cases c89 : t369 = t355
                                  · rw [if_pos c89] at H
                                    have c89b0 : (t369 == t355) = true := beq_iff_eq.mpr c89
                                    have c89b1 : (t369 != t355) = false := bne_eq_false_iff_eq.mpr c89
                                    clear c89
                                    obtain rfl := (Option.some.inj H)
                                    go_wp2_with (first | ((with_reducible refine gate_callee (f := 28) rfl ?_); refine goesL_ (some 118) rfl rfl Try.func28 (by kernel_rfl) rfl #[.slice Ao71 t356.length co71, .int .i64 1] rfl argsB ?_; (with_reducible refine (laws_heldLegS.calls kj69 _ _ t356 1 t369 _ ?side1 ?side2 A87.out).mono ?_); (case side1 => repeat (first | exact (Kd.R_reads' HO_12.out).2.2 | (with_reducible refine Kd.C_alloc ?_ _) | (with_reducible refine Kd.C_drewN ?_ _) | (with_reducible refine Kd.C_drew ?_))); (case side2 => exact (Kd.R_reads' HO_12.out).2.1); rintro e w' ⟨rfl, ⟨nd, rfl⟩⟩; refine ⟨_, rfl, ?_⟩))
                                    go_ret
                                    exact ⟨by first | rfl | (simp [errW_none, errW_some] <;> rfl) | (simp [*, errW_none, errW_some] <;> rfl), (upB HB.out)⟩
                                  · rw [if_neg c89] at H
                                    have c89b0 : (t369 == t355) = false := beq_eq_false_iff_ne.mpr c89
                                    have c89b1 : (t369 != t355) = true := bne_iff_ne.mpr c89
                                    obtain rfl := (Option.some.inj H)
                                    go_wp2_with (first | ((with_reducible refine gate_callee (f := 28) rfl ?_); refine goesL_ (some 118) rfl rfl Try.func28 (by kernel_rfl) rfl #[.slice Ao71 t356.length co71, .int .i64 1] rfl argsB ?_; (with_reducible refine (laws_heldLegS.calls kj69 _ _ t356 1 t369 _ ?side1 ?side2 A87.out).mono ?_); (case side1 => repeat (first | exact (Kd.R_reads' HO_12.out).2.2 | (with_reducible refine Kd.C_alloc ?_ _) | (with_reducible refine Kd.C_drewN ?_ _) | (with_reducible refine Kd.C_drew ?_))); (case side2 => exact (Kd.R_reads' HO_12.out).2.1); rintro e w' ⟨rfl, ⟨nd, rfl⟩⟩; refine ⟨_, rfl, ?_⟩))
                                    go_ret
                                    exact ⟨by first | rfl | (simp [errW_none, errW_some] <;> rfl) | (simp [*, errW_none, errW_some] <;> rfl), (upB HB.out)⟩
                        · rw [if_neg c66] at H
                          have c66b0 : (t357 == t355) = false := beq_eq_false_iff_ne.mpr c66
                          have c66b1 : (t357 != t355) = true := bne_iff_ne.mpr c66
                          obtain rfl := (Option.some.inj H)
                          obtain ⟨Ao90, co90, eo90⟩ := Kd.R_slice HO_12.out
                          subst eo90
                          go_wp2_with (first | ((with_reducible refine gate_callee (f := 23) rfl ?_); refine goesL_ (some 89) rfl rfl Try.func23 (by kernel_rfl) rfl #[.slice Ao90 t337.length co90, .int .i64 1] rfl argsB ?_; (with_reducible refine (laws_markLegS.calls kj41 (fun k_ => some k_ = (.slice Ao90 t337.length co90 : Value).ownBlock) (.slice Ao90 t337.length co90) t337 1 t355 t356 w _ ?side1 ?side2 A61.out).mono ?_); (case side1 => repeat (first | (with_reducible first | exact HB.out | apply below_alloc | apply pw_below_drewN | apply below_drew1) | exact HB.out)); (case side2 => exact Kd.R_tight rfl HO_12.out); rintro e w91 ⟨rfl, hy0, hb, hkp⟩; refine ⟨_, rfl, ?_⟩; have n0_ := Aside0.mk (Kd.R_mono (ok' := fun k_ => some k_ ≠ (.slice Ao90 t337.length co90 : Value).ownBlock) (Kd.R_keptB (HO_8.out) hkp (fun k_ hk_ hs_ => (hk_) hs_)) (fun k_ hk_ => hk_.1)); have n1_ := Aside0.mk (Kd.R_reok rfl hy0 (fun k_ e_ => HO_12.out.1 k_ e_)); have n2_ := Aside0.mk (hb); clear HO_8; clear HO_12; clear HB; have HO_8 := n0_; have HO_12 := n1_; have HB := n2_; clear n0_ n1_ n2_; (try clear hb); (try clear hkp); (try clear hy0)) | ((with_reducible refine gate_callee (f := 28) rfl ?_); refine goesL_ (some 92) rfl rfl Try.func28 (by kernel_rfl) rfl #[.slice Ao90 t356.length co90, .int .i64 1] rfl (by (try simp only [List.map_toArray, List.map_cons, List.map_nil]); first | done | (rw [show t356.length = t337.length from (Kd.R_reads' HO_12.out).1.symm] <;> rfl) | rfl | (simp only [List.length_drop, List.length_take]; rfl)) ?_; (with_reducible refine (laws_heldLegS.calls kj41 _ _ t356 1 t357 _ ?side1 ?side2 A62.out).mono ?_); (case side1 => repeat (first | exact (Kd.R_reads' HO_12.out).2.2 | (with_reducible refine Kd.C_alloc ?_ _) | (with_reducible refine Kd.C_drewN ?_ _) | (with_reducible refine Kd.C_drew ?_))); (case side2 => rw [show t356.length = t337.length from (Kd.R_reads' HO_12.out).1.symm]; exact (Kd.R_reads' HO_12.out).2.1); rintro e w' ⟨rfl, ⟨nd, rfl⟩⟩; refine ⟨_, rfl, ?_⟩))
                          go_ret
                          exact ⟨by first | rfl | (simp [errW_none, errW_some] <;> rfl) | (simp [*, errW_none, errW_some] <;> rfl), (upB HB.out)⟩
              · replace c39 := Bool.eq_false_iff.mpr c39
                subst c39
                have H1 : (some false) = some r := by rw [if_neg (show ¬ (false = true) by decide)] at H; exact H
                clear H
                have H := H1
                clear H1
                exact absurd (Option.some.inj H) (by rw [hT]; decide)
            · replace c36 := Bool.eq_false_iff.mpr c36
              subst c36
              have H1 : (some false) = some r := by rw [if_neg (show ¬ (false = true) by decide)] at H; exact H
              clear H
              have H := H1
              clear H1
              exact absurd (Option.some.inj H) (by rw [hT]; decide)

end Go.Proofs.Ytinelmmnajelaaa.QFnExactVersionAt
