/- Contracts of Go functions that FnExactSameVersions reaches: the call computes what the plain function says. No condition. -/
import Derived.Test.YtinelmmnajelaaaQFnExactSameVersionsx0
import Derived.Test.YtinelmmnajelaaaQFnExactSameVersionsx2
import Derived.Test.YtinelmmnajelaaaQFnExactSameVersionsx3
import Derived.Test.YtinelmmnajelaaaQFnExactSameVersionsx4
import Derived.Test.YtinelmmnajelaaaQFnExactSameVersionsx6
import Derived.Test.YtinelmmnajelaaaQFnExactSameVersionsx10
namespace Go.Proofs.Ytinelmmnajelaaa.QFnExactSameVersions
open Go.RowKit Go.Proofs.YtinelmmnajelaaaW.PrintWords Go.Proofs.YtinelmmnajelaaaW.PrintLast Go.Proofs.YtinelmmnajelaaaW.PrintMore
attribute [local go_sem] max2_int min2_int max_two min_two max_three min_three max_four min_four   -- for this text's walks alone
set_option linter.unusedVariables false
set_option linter.unusedSimpArgs false

/-! ### laws_heldIntA2S: function 44 -/
def laws_heldIntA2S.l0 : Nat → List (S77) → Int → Int → Option (Int)
  | 0, _, _, _ => none
  | k + 1, x0, x1, x5 => if x5 < (x0.length : Int) then (if 0 ≤ x5 then (if ((rd_T77 x0 x5).f0) = x1 then (if ((rd_T77 x0 x5).f1) = (wrap64 (x1 + 1)) then (laws_heldIntA2S.l0 k x0 (wrap64 ((wrap64 (x1 + 1)) + 1)) (wrap64 (x5 + 1))) else (some (-1))) else (some (-1))) else (none)) else (some x1)
def laws_heldIntA2S.f (k : Nat) (l0 : List (S77)) (a1 : Int) : Option (Int) := laws_heldIntA2S.l0 k l0 a1 0
theorem laws_heldIntA2S.mono_l : ∀ k, (∀ y0 y1 y2, LeO (laws_heldIntA2S.l0 k y0 y1 y2) (laws_heldIntA2S.l0 (k + 1) y0 y1 y2))
  | 0 => fun _ _ _ r h => by simp [laws_heldIntA2S.l0] at h
  | k + 1 => by
    have ih0 := laws_heldIntA2S.mono_l k
    · intro y0 y1 y2
      unfold laws_heldIntA2S.l0
      repeat' first
      | (with_reducible exact ih0 _ _ _)
      | (with_reducible exact LeO.refl _)
      | (with_reducible exact LeO.none _)
      | (with_reducible refine LeO.ite ?_ ?_)
      | (with_reducible refine LeO.bind ?_ (fun _ => ?_))
      | exact ih0 _ _ _
      | exact LeO.none _
      | refine LeO.ite ?_ ?_
      | refine LeO.bind ?_ (fun _ => ?_)
theorem laws_heldIntA2S.mono : ∀ a0 a1 k, LeO (laws_heldIntA2S.f k a0 a1) (laws_heldIntA2S.f (k + 1) a0 a1) := by
  intro a0 a1 k
  have ih0 := laws_heldIntA2S.mono_l k
  unfold laws_heldIntA2S.f
  repeat' first
      | (with_reducible exact ih0 _ _ _)
      | (with_reducible exact LeO.refl _)
      | (with_reducible exact LeO.none _)
      | (with_reducible refine LeO.ite ?_ ?_)
      | (with_reducible refine LeO.bind ?_ (fun _ => ?_))
      | exact ih0 _ _ _
      | exact LeO.none _
      | refine LeO.ite ?_ ?_
      | refine LeO.bind ?_ (fun _ => ?_)
set_option maxHeartbeats 8000000 in
set_option maxRecDepth 100000 in
theorem laws_heldIntA2S.calls (k : Nat) (A0 : Option Addr) (c0 : Nat) (l0 : List (S77)) (a1 : Int) (r : Int) (w : World) (hr0 : Kd.C k77 w A0 l0.length l0) (hc0 : l0.length ≤ c0) (h : laws_heldIntA2S.f k l0 a1 = some r) :
    Calls Try.prog 44 #[.slice A0 l0.length c0, .int .i64 a1] w fun e w' => e = .returned (.int .i64 r) ∧ Drawn0 w w' := by
  have HR0 := Aside0.mk hr0
  have HC0 := Aside0.mk hc0
  clear hr0 hc0
  have H : (laws_heldIntA2S.l0 k l0 a1 0) = some r := h
  clear h
  have H' := Aside0.mk H
  clear H
  go_enter Try.func44, Try.ntmps44
  go_wp2
  go_loopg [1, 5] k (fun kq v1 v5 w' => ∃ (x1_1 : Int) (x5_1 : Int), v1 = .int .i64 x1_1 ∧ v5 = .int .i64 x5_1 ∧ Aside0 (laws_heldIntA2S.l0 kq l0 x1_1 x5_1 = some r) ∧ Aside0 (kq ≤ k) ∧ Drawn0 w w')
  case atStart => exact ⟨(a1), (0), (by first | rfl | (simp; done) | (simp [*]; done)), (by first | rfl | (simp; done) | (simp [*]; done)), H', ⟨Nat.le_refl _⟩, by repeat (first | exact Drawn0.refl _ | apply Drawn0.step)⟩
  case round =>
    clear H'
    obtain ⟨x1_1, x5_1, rfl, rfl, HA, HK1, ⟨m1, rfl⟩⟩ := hrel
    cases gk with
    | zero => exact absurd HA.out (by simp [laws_heldIntA2S.l0])
    | succ k1 =>
      have H := HA.out
      clear HA
      simp only [laws_heldIntA2S.l0] at H
      by_cases c3 : x5_1 < (l0.length : Int)
      · rw [if_pos c3] at H
        have c3b0 : decide (x5_1 < (l0.length : Int)) = true := decide_eq_true c3
        clear c3
        by_cases c4 : 0 ≤ x5_1
        · rw [if_pos c4] at H
          have c4b0 : decide (0 ≤ x5_1) = true := decide_eq_true c4
          clear c4
          by_cases c5 : ((rd_T77 l0 x5_1).f0) = x1_1
          · rw [if_pos c5] at H
            have c5b0 : (((rd_T77 l0 x5_1).f0) == x1_1) = true := beq_iff_eq.mpr c5
            have c5b1 : (((rd_T77 l0 x5_1).f0) != x1_1) = false := bne_eq_false_iff_eq.mpr c5
            clear c5
            by_cases c6 : ((rd_T77 l0 x5_1).f1) = (wrap64 (x1_1 + 1))
            · rw [if_pos c6] at H
              have c6b0 : (((rd_T77 l0 x5_1).f1) == (wrap64 (x1_1 + 1))) = true := beq_iff_eq.mpr c6
              have c6b1 : (((rd_T77 l0 x5_1).f1) != (wrap64 (x1_1 + 1))) = false := bne_eq_false_iff_eq.mpr c6
              clear c6
              have H' := Aside0.mk H
              clear H
              have p331 : 0 ≤ (x5_1 : Int) := of_decide_eq_true asmB
              have q331 : x5_1 < (l0.length : Int) := of_decide_eq_true asmB
              obtain ⟨ad331, e331, hx331_0, hx331_1⟩ := at_T77 HR0.out x5_1 p331 q331
              cases e331
              replace p331 := eq_true p331
              replace q331 := eq_true q331
              have p332 : 0 ≤ (x5_1 : Int) := of_decide_eq_true asmB
              have q332 : x5_1 < (l0.length : Int) := of_decide_eq_true asmB
              obtain ⟨ad332, e332, hx332_0, hx332_1⟩ := at_T77 HR0.out x5_1 p332 q332
              obtain rfl : ad331 = ad332 := (by injection e332)
              replace p332 := eq_true p332
              replace q332 := eq_true q332
              go_wp2_with (first | ((with_reducible refine wp_loop_rounds 3 ?_); (with_reducible rw [rounds_succ])) | (with_reducible rw [rounds_succ]))
              go_roundg k1
              case measure => have := HK1.out; omega
              case rel => exact ⟨(wrap64 ((wrap64 (x1_1 + 1)) + 1)), (wrap64 (x5_1 + 1)), (by first | rfl | (simp; done) | (simp [*]; done)), (by first | rfl | (simp; done) | (simp [*]; done)), H', ⟨by have := HK1.out; omega⟩, by repeat (first | exact Drawn0.refl _ | apply Drawn0.step)⟩
            · rw [if_neg c6] at H
              have c6b0 : (((rd_T77 l0 x5_1).f1) == (wrap64 (x1_1 + 1))) = false := beq_eq_false_iff_ne.mpr c6
              have c6b1 : (((rd_T77 l0 x5_1).f1) != (wrap64 (x1_1 + 1))) = true := bne_iff_ne.mpr c6
              obtain rfl := Option.some.inj H
              have p331 : 0 ≤ (x5_1 : Int) := of_decide_eq_true asmB
              have q331 : x5_1 < (l0.length : Int) := of_decide_eq_true asmB
              obtain ⟨ad331, e331, hx331_0, hx331_1⟩ := at_T77 HR0.out x5_1 p331 q331
              cases e331
              replace p331 := eq_true p331
              replace q331 := eq_true q331
              have p332 : 0 ≤ (x5_1 : Int) := of_decide_eq_true asmB
              have q332 : x5_1 < (l0.length : Int) := of_decide_eq_true asmB
              obtain ⟨ad332, e332, hx332_0, hx332_1⟩ := at_T77 HR0.out x5_1 p332 q332
              obtain rfl : ad331 = ad332 := (by injection e332)
              replace p332 := eq_true p332
              replace q332 := eq_true q332
              go_wp2_with (first | ((with_reducible refine wp_loop_rounds 3 ?_); (with_reducible rw [rounds_succ])) | (with_reducible rw [rounds_succ]))
              go_ret
              exact ⟨by first | rfl | (simp; done) | (simp [*]; done), by repeat (first | exact Drawn0.refl _ | apply Drawn0.step)⟩
          · rw [if_neg c5] at H
            have c5b0 : (((rd_T77 l0 x5_1).f0) == x1_1) = false := beq_eq_false_iff_ne.mpr c5
            have c5b1 : (((rd_T77 l0 x5_1).f0) != x1_1) = true := bne_iff_ne.mpr c5
            obtain rfl := Option.some.inj H
            have p331 : 0 ≤ (x5_1 : Int) := of_decide_eq_true asmB
            have q331 : x5_1 < (l0.length : Int) := of_decide_eq_true asmB
            obtain ⟨ad331, e331, hx331_0, hx331_1⟩ := at_T77 HR0.out x5_1 p331 q331
            cases e331
            replace p331 := eq_true p331
            replace q331 := eq_true q331
            go_wp2_with (first | ((with_reducible refine wp_loop_rounds 3 ?_); (with_reducible rw [rounds_succ])) | (with_reducible rw [rounds_succ]))
            go_ret
            exact ⟨by first | rfl | (simp; done) | (simp [*]; done), by repeat (first | exact Drawn0.refl _ | apply Drawn0.step)⟩
        · rw [if_neg c4] at H
          exact absurd H (by simp)
      · rw [if_neg c3] at H
        have c3b0 : decide (x5_1 < (l0.length : Int)) = false := decide_eq_false c3
        clear c3
        obtain rfl := Option.some.inj H
        go_wp2_with (first | ((with_reducible refine wp_loop_rounds 3 ?_); (with_reducible rw [rounds_succ])) | (with_reducible rw [rounds_succ]))
        go_ret
        exact ⟨by first | rfl | (simp; done) | (simp [*]; done), by repeat (first | exact Drawn0.refl _ | apply Drawn0.step)⟩

/-! ### laws_FnExactSameVersions: function 9 -/
mutual
def laws_FnExactSameVersions.j0 : Nat → List (S23) → List (S25) → List (S77) → Bool → List (S26) → List (S28) → List (S77) → Bool → Bool → Option (Bool)
  | 0, _, _, _, _, _, _, _, _, _ => none
  | k + 1, x0, x1, x6, x7, x8, x9, x10, x11, x53 => if x53 = true then (some false) else ((laws_toLegS.f k x0).bind fun t356 => ((laws_eqLegS.f k x8 t356).bind fun t359 => (if t359 = true then ((laws_toEditS.f k x1).bind fun t360 => ((laws_eqEditS.f k x9 t360).bind fun t363 => (if t363 = true then ((laws_markLegS.f k x8 1).bind fun bt364 => ((laws_markEditS.f k x9 bt364.1).bind fun bt366 => (if bt366.1 < 0 then (laws_FnExactSameVersions.j1 k x0 x1 x6 x7 x10 true) else ((laws_eqIntA2S.f k x10 x6).bind fun t368 => (if t368 = true then (laws_FnExactSameVersions.j1 k x0 x1 x6 x7 x10 (x11 != x7)) else (laws_FnExactSameVersions.j1 k x0 x1 x6 x7 x10 true)))))) else (some false)))) else (some false))))
def laws_FnExactSameVersions.j1 : Nat → List (S23) → List (S25) → List (S77) → Bool → List (S77) → Bool → Option (Bool)
  | 0, _, _, _, _, _, _ => none
  | k + 1, x0, x1, x6, x7, x10, x82 => if x82 = true then (some false) else ((laws_markIntA2S.f k x10 1).bind fun bt369 => ((laws_heldIntA2S.f k bt369.2 1).bind fun t371 => (if t371 < 0 then (some false) else (if t371 = bt369.1 then ((laws_toLegS.f k x0).bind fun t372 => ((laws_toEditS.f k x1).bind fun t375 => ((impl_SameVersions.f k t372 t375).bind fun bt378 => ((laws_eqIntA2S.f k bt378.1 x6).bind fun t382 => (if t382 = true then (laws_FnExactSameVersions.j2 k bt369.2 bt369.1 (bt378.2 != x7)) else (laws_FnExactSameVersions.j2 k bt369.2 bt369.1 true)))))) else (some false)))))
def laws_FnExactSameVersions.j2 : Nat → List (S77) → Int → Bool → Option (Bool)
  | 0, _, _, _ => none
  | k + 1, x10, x13, x110 => if x110 = true then (some false) else ((laws_heldIntA2S.f k x10 1).bind fun t383 => (if t383 < 0 then (some false) else (if t383 = x13 then (some true) else (some false))))
end
def laws_FnExactSameVersions.f (k : Nat) (l0 : List (S23)) (l1 : List (S25)) : Option (Bool) := (laws_szLegS.f l0 1048576).bind fun t333 => (if t333 < 0 then (some true) else ((laws_szEditS.f l1 t333).bind fun t334 => (if t334 < 0 then (some true) else ((laws_toLegS.f k l0).bind fun t335 => ((laws_toEditS.f k l1).bind fun t338 => ((spec_SameVersions.f k t335 t338).bind fun bt341 => ((laws_toLegS.f k l0).bind fun t345 => ((laws_toEditS.f k l1).bind fun t348 => ((impl_SameVersions.f k t345 t348).bind fun bt351 => ((laws_eqIntA2S.f k bt351.1 bt341.1).bind fun t355 => (if t355 = true then (laws_FnExactSameVersions.j0 k l0 l1 bt341.1 bt341.2 t345 t348 bt351.1 bt351.2 (bt351.2 != bt341.2)) else (laws_FnExactSameVersions.j0 k l0 l1 bt341.1 bt341.2 t345 t348 bt351.1 bt351.2 true))))))))))))
theorem laws_FnExactSameVersions.mono_l : ∀ k, (∀ y0 y1 y2 y3 y4 y5 y6 y7 y8, LeO (laws_FnExactSameVersions.j0 k y0 y1 y2 y3 y4 y5 y6 y7 y8) (laws_FnExactSameVersions.j0 (k + 1) y0 y1 y2 y3 y4 y5 y6 y7 y8)) ∧ (∀ y0 y1 y2 y3 y4 y5, LeO (laws_FnExactSameVersions.j1 k y0 y1 y2 y3 y4 y5) (laws_FnExactSameVersions.j1 (k + 1) y0 y1 y2 y3 y4 y5)) ∧ (∀ y0 y1 y2, LeO (laws_FnExactSameVersions.j2 k y0 y1 y2) (laws_FnExactSameVersions.j2 (k + 1) y0 y1 y2))
  | 0 => ⟨fun _ _ _ _ _ _ _ _ _ r h => by simp [laws_FnExactSameVersions.j0] at h, fun _ _ _ _ _ _ r h => by simp [laws_FnExactSameVersions.j1] at h, fun _ _ _ r h => by simp [laws_FnExactSameVersions.j2] at h⟩
  | k + 1 => by
    obtain ⟨ih0, ih1, ih2⟩ := laws_FnExactSameVersions.mono_l k
    refine ⟨?_, ?_, ?_⟩
    · intro y0 y1 y2 y3 y4 y5 y6 y7 y8
      unfold laws_FnExactSameVersions.j0
      repeat' first
      | (with_reducible exact ih0 _ _ _ _ _ _ _ _ _)
      | (with_reducible exact ih1 _ _ _ _ _ _)
      | (with_reducible exact ih2 _ _ _)
      | (with_reducible exact impl_SameVersions.mono _ _ _)
      | (with_reducible exact laws_eqEditS.mono _ _ _)
      | (with_reducible exact laws_eqIntA2S.mono _ _ _)
      | (with_reducible exact laws_eqLegS.mono _ _ _)
      | (with_reducible exact laws_heldIntA2S.mono _ _ _)
      | (with_reducible exact laws_markEditS.mono _ _ _)
      | (with_reducible exact laws_markIntA2S.mono _ _ _)
      | (with_reducible exact laws_markLegS.mono _ _ _)
      | (with_reducible exact laws_toEditS.mono _ _)
      | (with_reducible exact laws_toLegS.mono _ _)
      | (with_reducible exact spec_SameVersions.mono _ _ _)
      | (with_reducible exact LeO.refl _)
      | (with_reducible exact LeO.none _)
      | (with_reducible refine LeO.ite ?_ ?_)
      | (with_reducible refine LeO.bind ?_ (fun _ => ?_))
      | exact ih0 _ _ _ _ _ _ _ _ _
      | exact ih1 _ _ _ _ _ _
      | exact ih2 _ _ _
      | exact impl_SameVersions.mono _ _ _
      | exact laws_eqEditS.mono _ _ _
      | exact laws_eqIntA2S.mono _ _ _
      | exact laws_eqLegS.mono _ _ _
      | exact laws_heldIntA2S.mono _ _ _
      | exact laws_markEditS.mono _ _ _
      | exact laws_markIntA2S.mono _ _ _
      | exact laws_markLegS.mono _ _ _
      | exact laws_toEditS.mono _ _
      | exact laws_toLegS.mono _ _
      | exact spec_SameVersions.mono _ _ _
      | exact LeO.none _
      | refine LeO.ite ?_ ?_
      | refine LeO.bind ?_ (fun _ => ?_)
    · intro y0 y1 y2 y3 y4 y5
      unfold laws_FnExactSameVersions.j1
      repeat' first
      | (with_reducible exact ih0 _ _ _ _ _ _ _ _ _)
      | (with_reducible exact ih1 _ _ _ _ _ _)
      | (with_reducible exact ih2 _ _ _)
      | (with_reducible exact impl_SameVersions.mono _ _ _)
      | (with_reducible exact laws_eqEditS.mono _ _ _)
      | (with_reducible exact laws_eqIntA2S.mono _ _ _)
      | (with_reducible exact laws_eqLegS.mono _ _ _)
      | (with_reducible exact laws_heldIntA2S.mono _ _ _)
      | (with_reducible exact laws_markEditS.mono _ _ _)
      | (with_reducible exact laws_markIntA2S.mono _ _ _)
      | (with_reducible exact laws_markLegS.mono _ _ _)
      | (with_reducible exact laws_toEditS.mono _ _)
      | (with_reducible exact laws_toLegS.mono _ _)
      | (with_reducible exact spec_SameVersions.mono _ _ _)
      | (with_reducible exact LeO.refl _)
      | (with_reducible exact LeO.none _)
      | (with_reducible refine LeO.ite ?_ ?_)
      | (with_reducible refine LeO.bind ?_ (fun _ => ?_))
      | exact ih0 _ _ _ _ _ _ _ _ _
      | exact ih1 _ _ _ _ _ _
      | exact ih2 _ _ _
      | exact impl_SameVersions.mono _ _ _
      | exact laws_eqEditS.mono _ _ _
      | exact laws_eqIntA2S.mono _ _ _
      | exact laws_eqLegS.mono _ _ _
      | exact laws_heldIntA2S.mono _ _ _
      | exact laws_markEditS.mono _ _ _
      | exact laws_markIntA2S.mono _ _ _
      | exact laws_markLegS.mono _ _ _
      | exact laws_toEditS.mono _ _
      | exact laws_toLegS.mono _ _
      | exact spec_SameVersions.mono _ _ _
      | exact LeO.none _
      | refine LeO.ite ?_ ?_
      | refine LeO.bind ?_ (fun _ => ?_)
    · intro y0 y1 y2
      unfold laws_FnExactSameVersions.j2
      repeat' first
      | (with_reducible exact ih0 _ _ _ _ _ _ _ _ _)
      | (with_reducible exact ih1 _ _ _ _ _ _)
      | (with_reducible exact ih2 _ _ _)
      | (with_reducible exact impl_SameVersions.mono _ _ _)
      | (with_reducible exact laws_eqEditS.mono _ _ _)
      | (with_reducible exact laws_eqIntA2S.mono _ _ _)
      | (with_reducible exact laws_eqLegS.mono _ _ _)
      | (with_reducible exact laws_heldIntA2S.mono _ _ _)
      | (with_reducible exact laws_markEditS.mono _ _ _)
      | (with_reducible exact laws_markIntA2S.mono _ _ _)
      | (with_reducible exact laws_markLegS.mono _ _ _)
      | (with_reducible exact laws_toEditS.mono _ _)
      | (with_reducible exact laws_toLegS.mono _ _)
      | (with_reducible exact spec_SameVersions.mono _ _ _)
      | (with_reducible exact LeO.refl _)
      | (with_reducible exact LeO.none _)
      | (with_reducible refine LeO.ite ?_ ?_)
      | (with_reducible refine LeO.bind ?_ (fun _ => ?_))
      | exact ih0 _ _ _ _ _ _ _ _ _
      | exact ih1 _ _ _ _ _ _
      | exact ih2 _ _ _
      | exact impl_SameVersions.mono _ _ _
      | exact laws_eqEditS.mono _ _ _
      | exact laws_eqIntA2S.mono _ _ _
      | exact laws_eqLegS.mono _ _ _
      | exact laws_heldIntA2S.mono _ _ _
      | exact laws_markEditS.mono _ _ _
      | exact laws_markIntA2S.mono _ _ _
      | exact laws_markLegS.mono _ _ _
      | exact laws_toEditS.mono _ _
      | exact laws_toLegS.mono _ _
      | exact spec_SameVersions.mono _ _ _
      | exact LeO.none _
      | refine LeO.ite ?_ ?_
      | refine LeO.bind ?_ (fun _ => ?_)
theorem laws_FnExactSameVersions.mono : ∀ a0 a1 k, LeO (laws_FnExactSameVersions.f k a0 a1) (laws_FnExactSameVersions.f (k + 1) a0 a1) := by
  intro a0 a1 k
  obtain ⟨ih0, ih1, ih2⟩ := laws_FnExactSameVersions.mono_l k
  unfold laws_FnExactSameVersions.f
  repeat' first
      | (with_reducible exact ih0 _ _ _ _ _ _ _ _ _)
      | (with_reducible exact ih1 _ _ _ _ _ _)
      | (with_reducible exact ih2 _ _ _)
      | (with_reducible exact impl_SameVersions.mono _ _ _)
      | (with_reducible exact laws_eqEditS.mono _ _ _)
      | (with_reducible exact laws_eqIntA2S.mono _ _ _)
      | (with_reducible exact laws_eqLegS.mono _ _ _)
      | (with_reducible exact laws_heldIntA2S.mono _ _ _)
      | (with_reducible exact laws_markEditS.mono _ _ _)
      | (with_reducible exact laws_markIntA2S.mono _ _ _)
      | (with_reducible exact laws_markLegS.mono _ _ _)
      | (with_reducible exact laws_toEditS.mono _ _)
      | (with_reducible exact laws_toLegS.mono _ _)
      | (with_reducible exact spec_SameVersions.mono _ _ _)
      | (with_reducible exact LeO.refl _)
      | (with_reducible exact LeO.none _)
      | (with_reducible refine LeO.ite ?_ ?_)
      | (with_reducible refine LeO.bind ?_ (fun _ => ?_))
      | exact ih0 _ _ _ _ _ _ _ _ _
      | exact ih1 _ _ _ _ _ _
      | exact ih2 _ _ _
      | exact impl_SameVersions.mono _ _ _
      | exact laws_eqEditS.mono _ _ _
      | exact laws_eqIntA2S.mono _ _ _
      | exact laws_eqLegS.mono _ _ _
      | exact laws_heldIntA2S.mono _ _ _
      | exact laws_markEditS.mono _ _ _
      | exact laws_markIntA2S.mono _ _ _
      | exact laws_markLegS.mono _ _ _
      | exact laws_toEditS.mono _ _
      | exact laws_toLegS.mono _ _
      | exact spec_SameVersions.mono _ _ _
      | exact LeO.none _
      | refine LeO.ite ?_ ?_
      | refine LeO.bind ?_ (fun _ => ?_)
set_option maxHeartbeats 8000000 in
set_option maxRecDepth 100000 in
theorem laws_FnExactSameVersions.calls (k : Nat) (A0 : Option Addr) (c0 : Nat) (l0 : List (S23)) (A1 : Option Addr) (c1 : Nat) (l1 : List (S25)) (r : Bool) (w : World) (hr0 : Kd.C k23 w A0 l0.length l0) (hc0 : l0.length ≤ c0) (hr1 : Kd.C k25 w A1 l1.length l1) (hc1 : l1.length ≤ c1) (h : laws_FnExactSameVersions.f k l0 l1 = some r) (hT : r = true) :
    Calls Try.prog 9 #[.slice A0 l0.length c0, .slice A1 l1.length c1] w fun e w' => e = .returned (.bool r) ∧ Below w.heap.size w w' := by
  have HR0 := Aside0.mk hr0
  have HC0 := Aside0.mk hc0
  clear hr0 hc0
  have HR1 := Aside0.mk hr1
  have HC1 := Aside0.mk hc1
  clear hr1 hc1
  have HB := Aside0.mk (Below.refl w.heap.size w)
  have H : ((laws_szLegS.f l0 1048576).bind fun t333 => (if t333 < 0 then (some true) else ((laws_szEditS.f l1 t333).bind fun t334 => (if t334 < 0 then (some true) else ((laws_toLegS.f k l0).bind fun t335 => ((laws_toEditS.f k l1).bind fun t338 => ((spec_SameVersions.f k t335 t338).bind fun bt341 => ((laws_toLegS.f k l0).bind fun t345 => ((laws_toEditS.f k l1).bind fun t348 => ((impl_SameVersions.f k t345 t348).bind fun bt351 => ((laws_eqIntA2S.f k bt351.1 bt341.1).bind fun t355 => (if t355 = true then (laws_FnExactSameVersions.j0 k l0 l1 bt341.1 bt341.2 t345 t348 bt351.1 bt351.2 (bt351.2 != bt341.2)) else (laws_FnExactSameVersions.j0 k l0 l1 bt341.1 bt341.2 t345 t348 bt351.1 bt351.2 true))))))))))))) = some r := h
  clear h
  replace H := Option.bind_eq_some_iff.mp H
  obtain ⟨t333, A30, H⟩ := H
  replace H : (if t333 < 0 then (some true) else ((laws_szEditS.f l1 t333).bind fun t334 => (if t334 < 0 then (some true) else ((laws_toLegS.f k l0).bind fun t335 => ((laws_toEditS.f k l1).bind fun t338 => ((spec_SameVersions.f k t335 t338).bind fun bt341 => ((laws_toLegS.f k l0).bind fun t345 => ((laws_toEditS.f k l1).bind fun t348 => ((impl_SameVersions.f k t345 t348).bind fun bt351 => ((laws_eqIntA2S.f k bt351.1 bt341.1).bind fun t355 => (if t355 = true then (laws_FnExactSameVersions.j0 k l0 l1 bt341.1 bt341.2 t345 t348 bt351.1 bt351.2 (bt351.2 != bt341.2)) else (laws_FnExactSameVersions.j0 k l0 l1 bt341.1 bt341.2 t345 t348 bt351.1 bt351.2 true)))))))))))) = some r := H
  have A3 := Aside0.mk A30
  clear A30
  by_cases c4 : t333 < 0
  · rw [if_pos c4] at H
    have c4b0 : decide (t333 < 0) = true := decide_eq_true c4
    clear c4
    obtain rfl := (Option.some.inj H)
    go_enter Try.func9, Try.ntmps9
    go_wp2_with (first | ((with_reducible refine gate_callee (f := 17) rfl ?_); refine goesL_ (some 19) rfl rfl Try.func17 (by kernel_rfl) rfl #[.slice A0 l0.length c0, .int .i64 1048576] rfl argsB ?_; (with_reducible refine (laws_szLegS.calls _ _ l0 1048576 t333 _ ?side1 ?side2 A3.out).mono ?_); (case side1 => repeat (first | exact HR0.out | (with_reducible refine Kd.C_alloc ?_ _) | (with_reducible refine Kd.C_drewN ?_ _) | (with_reducible refine Kd.C_drew ?_))); (case side2 => exact HC0.out); rintro e w' ⟨rfl, ⟨nd, rfl⟩⟩; refine ⟨_, rfl, ?_⟩))
    go_ret
    exact ⟨by first | rfl | (simp [errW_none, errW_some] <;> rfl) | (simp [*, errW_none, errW_some] <;> rfl), (upB HB.out)⟩
  · rw [if_neg c4] at H
    have c4b0 : decide (t333 < 0) = false := decide_eq_false c4
    clear c4
    replace H := Option.bind_eq_some_iff.mp H
    obtain ⟨t334, A50, H⟩ := H
    replace H : (if t334 < 0 then (some true) else ((laws_toLegS.f k l0).bind fun t335 => ((laws_toEditS.f k l1).bind fun t338 => ((spec_SameVersions.f k t335 t338).bind fun bt341 => ((laws_toLegS.f k l0).bind fun t345 => ((laws_toEditS.f k l1).bind fun t348 => ((impl_SameVersions.f k t345 t348).bind fun bt351 => ((laws_eqIntA2S.f k bt351.1 bt341.1).bind fun t355 => (if t355 = true then (laws_FnExactSameVersions.j0 k l0 l1 bt341.1 bt341.2 t345 t348 bt351.1 bt351.2 (bt351.2 != bt341.2)) else (laws_FnExactSameVersions.j0 k l0 l1 bt341.1 bt341.2 t345 t348 bt351.1 bt351.2 true)))))))))) = some r := H
    have A5 := Aside0.mk A50
    clear A50
    by_cases c6 : t334 < 0
    · rw [if_pos c6] at H
      have c6b0 : decide (t334 < 0) = true := decide_eq_true c6
      clear c6
      obtain rfl := (Option.some.inj H)
      go_enter Try.func9, Try.ntmps9
      go_wp2_with (first | ((with_reducible refine gate_callee (f := 17) rfl ?_); refine goesL_ (some 19) rfl rfl Try.func17 (by kernel_rfl) rfl #[.slice A0 l0.length c0, .int .i64 1048576] rfl argsB ?_; (with_reducible refine (laws_szLegS.calls _ _ l0 1048576 t333 _ ?side1 ?side2 A3.out).mono ?_); (case side1 => repeat (first | exact HR0.out | (with_reducible refine Kd.C_alloc ?_ _) | (with_reducible refine Kd.C_drewN ?_ _) | (with_reducible refine Kd.C_drew ?_))); (case side2 => exact HC0.out); rintro e w' ⟨rfl, ⟨nd, rfl⟩⟩; refine ⟨_, rfl, ?_⟩) | ((with_reducible refine gate_callee (f := 29) rfl ?_); refine goesL_ (some 24) rfl rfl Try.func29 (by kernel_rfl) rfl #[.slice A1 l1.length c1, .int .i64 t333] rfl argsB ?_; (with_reducible refine (laws_szEditS.calls _ _ l1 t333 t334 _ ?side1 ?side2 A5.out).mono ?_); (case side1 => repeat (first | exact HR1.out | (with_reducible refine Kd.C_alloc ?_ _) | (with_reducible refine Kd.C_drewN ?_ _) | (with_reducible refine Kd.C_drew ?_))); (case side2 => exact HC1.out); rintro e w' ⟨rfl, ⟨nd, rfl⟩⟩; refine ⟨_, rfl, ?_⟩))
      go_ret
      exact ⟨by first | rfl | (simp [errW_none, errW_some] <;> rfl) | (simp [*, errW_none, errW_some] <;> rfl), (upB HB.out)⟩
    · rw [if_neg c6] at H
      have c6b0 : decide (t334 < 0) = false := decide_eq_false c6
      clear c6
      replace H := Option.bind_eq_some_iff.mp H
      obtain ⟨t335, A70, H⟩ := H
      replace H : ((laws_toEditS.f k l1).bind fun t338 => ((spec_SameVersions.f k t335 t338).bind fun bt341 => ((laws_toLegS.f k l0).bind fun t345 => ((laws_toEditS.f k l1).bind fun t348 => ((impl_SameVersions.f k t345 t348).bind fun bt351 => ((laws_eqIntA2S.f k bt351.1 bt341.1).bind fun t355 => (if t355 = true then (laws_FnExactSameVersions.j0 k l0 l1 bt341.1 bt341.2 t345 t348 bt351.1 bt351.2 (bt351.2 != bt341.2)) else (laws_FnExactSameVersions.j0 k l0 l1 bt341.1 bt341.2 t345 t348 bt351.1 bt351.2 true)))))))) = some r := H
      have A7 := Aside0.mk A70
      clear A70
      replace H := Option.bind_eq_some_iff.mp H
      obtain ⟨t338, A80, H⟩ := H
      replace H : ((spec_SameVersions.f k t335 t338).bind fun bt341 => ((laws_toLegS.f k l0).bind fun t345 => ((laws_toEditS.f k l1).bind fun t348 => ((impl_SameVersions.f k t345 t348).bind fun bt351 => ((laws_eqIntA2S.f k bt351.1 bt341.1).bind fun t355 => (if t355 = true then (laws_FnExactSameVersions.j0 k l0 l1 bt341.1 bt341.2 t345 t348 bt351.1 bt351.2 (bt351.2 != bt341.2)) else (laws_FnExactSameVersions.j0 k l0 l1 bt341.1 bt341.2 t345 t348 bt351.1 bt351.2 true))))))) = some r := H
      have A8 := Aside0.mk A80
      clear A80
      replace H := Option.bind_eq_some_iff.mp H
      obtain ⟨⟨t341, t342⟩, A90, H⟩ := H
      replace H : ((laws_toLegS.f k l0).bind fun t345 => ((laws_toEditS.f k l1).bind fun t348 => ((impl_SameVersions.f k t345 t348).bind fun bt351 => ((laws_eqIntA2S.f k bt351.1 t341).bind fun t355 => (if t355 = true then (laws_FnExactSameVersions.j0 k l0 l1 t341 t342 t345 t348 bt351.1 bt351.2 (bt351.2 != t342)) else (laws_FnExactSameVersions.j0 k l0 l1 t341 t342 t345 t348 bt351.1 bt351.2 true)))))) = some r := H
      have A9 := Aside0.mk A90
      clear A90
      replace H := Option.bind_eq_some_iff.mp H
      obtain ⟨t345, A100, H⟩ := H
      replace H : ((laws_toEditS.f k l1).bind fun t348 => ((impl_SameVersions.f k t345 t348).bind fun bt351 => ((laws_eqIntA2S.f k bt351.1 t341).bind fun t355 => (if t355 = true then (laws_FnExactSameVersions.j0 k l0 l1 t341 t342 t345 t348 bt351.1 bt351.2 (bt351.2 != t342)) else (laws_FnExactSameVersions.j0 k l0 l1 t341 t342 t345 t348 bt351.1 bt351.2 true))))) = some r := H
      have A10 := Aside0.mk A100
      clear A100
      replace H := Option.bind_eq_some_iff.mp H
      obtain ⟨t348, A110, H⟩ := H
      replace H : ((impl_SameVersions.f k t345 t348).bind fun bt351 => ((laws_eqIntA2S.f k bt351.1 t341).bind fun t355 => (if t355 = true then (laws_FnExactSameVersions.j0 k l0 l1 t341 t342 t345 t348 bt351.1 bt351.2 (bt351.2 != t342)) else (laws_FnExactSameVersions.j0 k l0 l1 t341 t342 t345 t348 bt351.1 bt351.2 true)))) = some r := H
      have A11 := Aside0.mk A110
      clear A110
      replace H := Option.bind_eq_some_iff.mp H
      obtain ⟨⟨t351, t352⟩, A120, H⟩ := H
      replace H : ((laws_eqIntA2S.f k t351 t341).bind fun t355 => (if t355 = true then (laws_FnExactSameVersions.j0 k l0 l1 t341 t342 t345 t348 t351 t352 (t352 != t342)) else (laws_FnExactSameVersions.j0 k l0 l1 t341 t342 t345 t348 t351 t352 true))) = some r := H
      have A12 := Aside0.mk A120
      clear A120
      have HC13 := Aside0.mk H
      clear H
      go_enter Try.func9, Try.ntmps9
      go_upto_region 12 with (first | ((with_reducible refine gate_callee (f := 17) rfl ?_); refine goesL_ (some 19) rfl rfl Try.func17 (by kernel_rfl) rfl #[.slice A0 l0.length c0, .int .i64 1048576] rfl argsB ?_; (with_reducible refine (laws_szLegS.calls _ _ l0 1048576 t333 _ ?side1 ?side2 A3.out).mono ?_); (case side1 => repeat (first | exact HR0.out | (with_reducible refine Kd.C_alloc ?_ _) | (with_reducible refine Kd.C_drewN ?_ _) | (with_reducible refine Kd.C_drew ?_))); (case side2 => exact HC0.out); rintro e w' ⟨rfl, ⟨nd, rfl⟩⟩; refine ⟨_, rfl, ?_⟩) | ((with_reducible refine gate_callee (f := 29) rfl ?_); refine goesL_ (some 24) rfl rfl Try.func29 (by kernel_rfl) rfl #[.slice A1 l1.length c1, .int .i64 t333] rfl argsB ?_; (with_reducible refine (laws_szEditS.calls _ _ l1 t333 t334 _ ?side1 ?side2 A5.out).mono ?_); (case side1 => repeat (first | exact HR1.out | (with_reducible refine Kd.C_alloc ?_ _) | (with_reducible refine Kd.C_drewN ?_ _) | (with_reducible refine Kd.C_drew ?_))); (case side2 => exact HC1.out); rintro e w' ⟨rfl, ⟨nd, rfl⟩⟩; refine ⟨_, rfl, ?_⟩) | ((with_reducible refine gate_callee (f := 19) rfl ?_); refine goesL_ (some 29) rfl rfl Try.func19 (by kernel_rfl) rfl #[.slice A0 l0.length c0] rfl argsB ?_; (with_reducible refine (laws_toLegS.calls k _ _ l0 t335 _ ?side1 ?side2 A7.out).mono ?_); (case side1 => repeat (first | exact HR0.out | (with_reducible refine Kd.C_alloc ?_ _) | (with_reducible refine Kd.C_drewN ?_ _) | (with_reducible refine Kd.C_drew ?_))); (case side2 => exact HC0.out); rintro e w14 ⟨v336, rfl, ho0, hb⟩; refine ⟨_, rfl, ?_⟩; have n0_ := Aside0.mk (Kd.R_lower ho0 (below_size (upB HB.out))); have n1_ := Aside0.mk (below_step (upB HB.out) hb); clear HB; have HO337 := n0_; have HB := n1_; clear n0_ n1_; (try clear hb); (try clear hk); (try clear ho0)) | ((with_reducible refine gate_callee (f := 31) rfl ?_); refine goesL_ (some 31) rfl rfl Try.func31 (by kernel_rfl) rfl #[.slice A1 l1.length c1] rfl argsB ?_; (with_reducible refine (laws_toEditS.calls k _ _ l1 t338 _ ?side1 ?side2 A8.out).mono ?_); (case side1 => repeat (first | exact (Kd.C_below HR1.out HB.out) | (with_reducible refine Kd.C_alloc ?_ _) | (with_reducible refine Kd.C_drewN ?_ _) | (with_reducible refine Kd.C_drew ?_))); (case side2 => exact HC1.out); rintro e w15 ⟨v339, rfl, ho0, hb⟩; refine ⟨_, rfl, ?_⟩; have n0_ := Aside0.mk (Kd.R_below (upR HO337.out) hb); have n1_ := Aside0.mk (Kd.R_lower ho0 (below_size (upB HB.out))); have n2_ := Aside0.mk (below_step (upB HB.out) hb); clear HO337; clear HB; have HO337 := n0_; have HO340 := n1_; have HB := n2_; clear n0_ n1_ n2_; (try clear hb); (try clear hk); (try clear ho0); obtain ⟨Ao16, co16, eo16⟩ := Kd.R_slice HO337.out; subst eo16; obtain ⟨Ao17, co17, eo17⟩ := Kd.R_slice HO340.out; subst eo17) | ((with_reducible refine gate_callee (f := 40) rfl ?_); refine goesL_ (some 32) rfl rfl Try.func40 (by kernel_rfl) rfl #[.slice Ao16 t335.length co16, .slice Ao17 t338.length co17] rfl argsB ?_; (with_reducible refine (spec_SameVersions.calls k _ _ t335 _ _ t338 t341 t342 _ ?side1 ?side2 ?side3 ?side4 A9.out).mono ?_); (case side1 => repeat (first | exact (Kd.R_reads' HO337.out).2.2 | (with_reducible refine Kd.C_alloc ?_ _) | (with_reducible refine Kd.C_drewN ?_ _) | (with_reducible refine Kd.C_drew ?_))); (case side2 => exact (Kd.R_reads' HO337.out).2.1); (case side3 => repeat (first | exact (Kd.R_reads' HO340.out).2.2 | (with_reducible refine Kd.C_alloc ?_ _) | (with_reducible refine Kd.C_drewN ?_ _) | (with_reducible refine Kd.C_drew ?_))); (case side4 => exact (Kd.R_reads' HO340.out).2.1); rintro e w18 ⟨v343, rfl, ho0, hb⟩; refine ⟨_, rfl, ?_⟩; have n0_ := Aside0.mk (Kd.R_below (upR HO337.out) hb); have n1_ := Aside0.mk (Kd.R_below (upR HO340.out) hb); have n2_ := Aside0.mk (Kd.R_lower ho0 (below_size (upB HB.out))); have n3_ := Aside0.mk (below_step (upB HB.out) hb); clear HO337; clear HO340; clear HB; have HO337 := n0_; have HO340 := n1_; have HO344 := n2_; have HB := n3_; clear n0_ n1_ n2_ n3_; (try clear hb); (try clear hk); (try clear ho0)) | ((with_reducible refine gate_callee (f := 19) rfl ?_); refine goesL_ (some 36) rfl rfl Try.func19 (by kernel_rfl) rfl #[.slice A0 l0.length c0] rfl argsB ?_; (with_reducible refine (laws_toLegS.calls k _ _ l0 t345 _ ?side1 ?side2 A10.out).mono ?_); (case side1 => repeat (first | exact (Kd.C_below HR0.out HB.out) | (with_reducible refine Kd.C_alloc ?_ _) | (with_reducible refine Kd.C_drewN ?_ _) | (with_reducible refine Kd.C_drew ?_))); (case side2 => exact HC0.out); rintro e w19 ⟨v346, rfl, ho0, hb⟩; refine ⟨_, rfl, ?_⟩; have n0_ := Aside0.mk (Kd.R_elder' (upR HO337.out) (Kd.R_base ho0) hb); have n1_ := Aside0.mk (Kd.R_below (upR HO340.out) hb); have n2_ := Aside0.mk (Kd.R_below (upR HO344.out) hb); have n3_ := Aside0.mk (Kd.R_lower (Kd.R_new' ho0 (Kd.R_lt (upR HO337.out))) (below_size (upB HB.out))); have n4_ := Aside0.mk (below_step (upB HB.out) hb); clear HO337; clear HO340; clear HO344; clear HB; have HO337 := n0_; have HO340 := n1_; have HO344 := n2_; have HO347 := n3_; have HB := n4_; clear n0_ n1_ n2_ n3_ n4_; (try clear hb); (try clear hk); (try clear ho0)) | ((with_reducible refine gate_callee (f := 31) rfl ?_); refine goesL_ (some 38) rfl rfl Try.func31 (by kernel_rfl) rfl #[.slice A1 l1.length c1] rfl argsB ?_; (with_reducible refine (laws_toEditS.calls k _ _ l1 t348 _ ?side1 ?side2 A11.out).mono ?_); (case side1 => repeat (first | exact (Kd.C_below HR1.out HB.out) | (with_reducible refine Kd.C_alloc ?_ _) | (with_reducible refine Kd.C_drewN ?_ _) | (with_reducible refine Kd.C_drew ?_))); (case side2 => exact HC1.out); rintro e w20 ⟨v349, rfl, ho0, hb⟩; refine ⟨_, rfl, ?_⟩; have n0_ := Aside0.mk (Kd.R_below (upR HO337.out) hb); have n1_ := Aside0.mk (Kd.R_elder' (upR HO340.out) (Kd.R_base ho0) hb); have n2_ := Aside0.mk (Kd.R_below (upR HO344.out) hb); have n3_ := Aside0.mk (Kd.R_below (upR HO347.out) hb); have n4_ := Aside0.mk (Kd.R_lower (Kd.R_new' ho0 (Kd.R_lt (upR HO340.out))) (below_size (upB HB.out))); have n5_ := Aside0.mk (below_step (upB HB.out) hb); clear HO337; clear HO340; clear HO344; clear HO347; clear HB; have HO337 := n0_; have HO340 := n1_; have HO344 := n2_; have HO347 := n3_; have HO350 := n4_; have HB := n5_; clear n0_ n1_ n2_ n3_ n4_ n5_; (try clear hb); (try clear hk); (try clear ho0); obtain ⟨Ao21, co21, eo21⟩ := Kd.R_slice HO347.out; subst eo21; obtain ⟨Ao22, co22, eo22⟩ := Kd.R_slice HO350.out; subst eo22) | ((with_reducible refine gate_callee (f := 41) rfl ?_); refine goesL_ (some 42) rfl rfl Try.func41 (by kernel_rfl) rfl #[.slice Ao21 t345.length co21, .slice Ao22 t348.length co22] rfl argsB ?_; (with_reducible refine (impl_SameVersions.calls k _ _ t345 _ _ t348 t351 t352 _ ?side1 ?side2 ?side3 ?side4 A12.out).mono ?_); (case side1 => repeat (first | exact (Kd.R_reads' HO347.out).2.2 | (with_reducible refine Kd.C_alloc ?_ _) | (with_reducible refine Kd.C_drewN ?_ _) | (with_reducible refine Kd.C_drew ?_))); (case side2 => exact (Kd.R_reads' HO347.out).2.1); (case side3 => repeat (first | exact (Kd.R_reads' HO350.out).2.2 | (with_reducible refine Kd.C_alloc ?_ _) | (with_reducible refine Kd.C_drewN ?_ _) | (with_reducible refine Kd.C_drew ?_))); (case side4 => exact (Kd.R_reads' HO350.out).2.1); rintro e w23 ⟨v353, rfl, ho0, hb⟩; refine ⟨_, rfl, ?_⟩; have n0_ := Aside0.mk (Kd.R_below (upR HO337.out) hb); have n1_ := Aside0.mk (Kd.R_below (upR HO340.out) hb); have n2_ := Aside0.mk (Kd.R_elder' (upR HO344.out) (Kd.R_base ho0) hb); have n3_ := Aside0.mk (Kd.R_below (upR HO347.out) hb); have n4_ := Aside0.mk (Kd.R_below (upR HO350.out) hb); have n5_ := Aside0.mk (Kd.R_lower (Kd.R_new' ho0 (Kd.R_lt (upR HO344.out))) (below_size (upB HB.out))); have n6_ := Aside0.mk (below_step (upB HB.out) hb); clear HO337; clear HO340; clear HO344; clear HO347; clear HO350; clear HB; have HO337 := n0_; have HO340 := n1_; have HO344 := n2_; have HO347 := n3_; have HO350 := n4_; have HO354 := n5_; have HB := n6_; clear n0_ n1_ n2_ n3_ n4_ n5_ n6_; (try clear hb); (try clear hk); (try clear ho0)))
      (try simp only [Act.put, List.setIfInBounds_toArray, List.set_cons_zero, List.set_cons_succ])
      go_cut [53] (fun v53 wc => ∃ (kq : Nat) (x53_12 : Bool), v53 = .bool x53_12 ∧ Aside0 (laws_FnExactSameVersions.j0 kq l0 l1 t341 t342 t345 t348 t351 t352 x53_12 = some r) ∧ Aside0 (kq ≤ k) ∧ Aside0 (Kd.R k77 77 wc w.heap.size (fun k_ => some k_ ≠ (v353 : Value).ownBlock) v343 t341) ∧ Aside0 (Kd.R k26 26 wc w.heap.size (fun _ => True) (.slice Ao21 t345.length co21) t345) ∧ Aside0 (Kd.R k28 28 wc w.heap.size (fun _ => True) (.slice Ao22 t348.length co22) t348) ∧ Aside0 (Kd.R k77 77 wc w.heap.size (fun k_ => some k_ ≠ (v343 : Value).ownBlock) v353 t351) ∧ Aside0 (Below w.heap.size w wc))
      case first =>
        have H := HC13.out
        clear HC13
        replace H := Option.bind_eq_some_iff.mp H
        obtain ⟨t355, A240, H⟩ := H
        replace H : (if t355 = true then (laws_FnExactSameVersions.j0 k l0 l1 t341 t342 t345 t348 t351 t352 (t352 != t342)) else (laws_FnExactSameVersions.j0 k l0 l1 t341 t342 t345 t348 t351 t352 true)) = some r := H
        have A24 := Aside0.mk A240
        clear A240
        by_cases c25 : t355 = true
        · subst c25
          have H1 : (laws_FnExactSameVersions.j0 k l0 l1 t341 t342 t345 t348 t351 t352 (t352 != t342)) = some r := by rw [if_pos rfl] at H; exact H
          clear H
          have H := H1
          clear H1
          have H' := Aside0.mk H
          clear H
          obtain ⟨Ao26, co26, eo26⟩ := Kd.R_slice HO354.out
          subst eo26
          obtain ⟨Ao27, co27, eo27⟩ := Kd.R_slice HO344.out
          subst eo27
          go_wp2_with (first | ((with_reducible refine gate_callee (f := 42) rfl ?_); refine goesL_ (some 47) rfl rfl Try.func42 (by kernel_rfl) rfl #[.slice Ao26 t351.length co26, .slice Ao27 t341.length co27] rfl argsB ?_; (with_reducible refine (laws_eqIntA2S.calls k _ _ t351 _ _ t341 true _ ?side1 ?side2 ?side3 ?side4 A24.out).mono ?_); (case side1 => repeat (first | exact (Kd.R_reads' HO354.out).2.2 | (with_reducible refine Kd.C_alloc ?_ _) | (with_reducible refine Kd.C_drewN ?_ _) | (with_reducible refine Kd.C_drew ?_))); (case side2 => exact (Kd.R_reads' HO354.out).2.1); (case side3 => repeat (first | exact (Kd.R_reads' HO344.out).2.2 | (with_reducible refine Kd.C_alloc ?_ _) | (with_reducible refine Kd.C_drewN ?_ _) | (with_reducible refine Kd.C_drew ?_))); (case side4 => exact (Kd.R_reads' HO344.out).2.1); rintro e w28 ⟨rfl, hb⟩; refine ⟨_, rfl, ?_⟩; have n0_ := Aside0.mk (Kd.R_below (upR HO337.out) hb); have n1_ := Aside0.mk (Kd.R_below (upR HO340.out) hb); have n2_ := Aside0.mk (Kd.R_below (upR HO344.out) hb); have n3_ := Aside0.mk (Kd.R_below (upR HO347.out) hb); have n4_ := Aside0.mk (Kd.R_below (upR HO350.out) hb); have n5_ := Aside0.mk (Kd.R_below (upR HO354.out) hb); have n6_ := Aside0.mk (below_step (upB HB.out) hb); clear HO337; clear HO340; clear HO344; clear HO347; clear HO350; clear HO354; clear HB; have HO337 := n0_; have HO340 := n1_; have HO344 := n2_; have HO347 := n3_; have HO350 := n4_; have HO354 := n5_; have HB := n6_; clear n0_ n1_ n2_ n3_ n4_ n5_ n6_; (try clear hb); (try clear hk)))
          go_meet
          case rel => exact ⟨_, ((t352 != t342)), (by first | rfl | (simp; done) | (simp [*]; done)), H', ⟨by first | omega | exact Nat.le_refl _⟩, ⟨by (with_reducible repeat (first | apply Kd.R_alloc | apply Kd.R_drewN | apply Kd.R_drew)); exact Kd.R_mono HO344.out (fun _ hk => hk.2)⟩, ⟨by (with_reducible repeat (first | apply Kd.R_alloc | apply Kd.R_drewN | apply Kd.R_drew)); exact Kd.R_mono HO347.out (fun _ hk => trivial)⟩, ⟨by (with_reducible repeat (first | apply Kd.R_alloc | apply Kd.R_drewN | apply Kd.R_drew)); exact Kd.R_mono HO350.out (fun _ hk => trivial)⟩, ⟨by (with_reducible repeat (first | apply Kd.R_alloc | apply Kd.R_drewN | apply Kd.R_drew)); exact Kd.R_mono HO354.out (fun _ hk => hk.2)⟩, ⟨(upB HB.out)⟩⟩
        · replace c25 := Bool.eq_false_iff.mpr c25
          subst c25
          have H1 : (laws_FnExactSameVersions.j0 k l0 l1 t341 t342 t345 t348 t351 t352 true) = some r := by rw [if_neg (show ¬ (false = true) by decide)] at H; exact H
          clear H
          have H := H1
          clear H1
          have H' := Aside0.mk H
          clear H
          obtain ⟨Ao29, co29, eo29⟩ := Kd.R_slice HO354.out
          subst eo29
          obtain ⟨Ao30, co30, eo30⟩ := Kd.R_slice HO344.out
          subst eo30
          go_wp2_with (first | ((with_reducible refine gate_callee (f := 42) rfl ?_); refine goesL_ (some 47) rfl rfl Try.func42 (by kernel_rfl) rfl #[.slice Ao29 t351.length co29, .slice Ao30 t341.length co30] rfl argsB ?_; (with_reducible refine (laws_eqIntA2S.calls k _ _ t351 _ _ t341 false _ ?side1 ?side2 ?side3 ?side4 A24.out).mono ?_); (case side1 => repeat (first | exact (Kd.R_reads' HO354.out).2.2 | (with_reducible refine Kd.C_alloc ?_ _) | (with_reducible refine Kd.C_drewN ?_ _) | (with_reducible refine Kd.C_drew ?_))); (case side2 => exact (Kd.R_reads' HO354.out).2.1); (case side3 => repeat (first | exact (Kd.R_reads' HO344.out).2.2 | (with_reducible refine Kd.C_alloc ?_ _) | (with_reducible refine Kd.C_drewN ?_ _) | (with_reducible refine Kd.C_drew ?_))); (case side4 => exact (Kd.R_reads' HO344.out).2.1); rintro e w31 ⟨rfl, hb⟩; refine ⟨_, rfl, ?_⟩; have n0_ := Aside0.mk (Kd.R_below (upR HO337.out) hb); have n1_ := Aside0.mk (Kd.R_below (upR HO340.out) hb); have n2_ := Aside0.mk (Kd.R_below (upR HO344.out) hb); have n3_ := Aside0.mk (Kd.R_below (upR HO347.out) hb); have n4_ := Aside0.mk (Kd.R_below (upR HO350.out) hb); have n5_ := Aside0.mk (Kd.R_below (upR HO354.out) hb); have n6_ := Aside0.mk (below_step (upB HB.out) hb); clear HO337; clear HO340; clear HO344; clear HO347; clear HO350; clear HO354; clear HB; have HO337 := n0_; have HO340 := n1_; have HO344 := n2_; have HO347 := n3_; have HO350 := n4_; have HO354 := n5_; have HB := n6_; clear n0_ n1_ n2_ n3_ n4_ n5_ n6_; (try clear hb); (try clear hk)))
          go_meet
          case rel => exact ⟨_, (true), (by first | rfl | (simp; done) | (simp [*]; done)), H', ⟨by first | omega | exact Nat.le_refl _⟩, ⟨by (with_reducible repeat (first | apply Kd.R_alloc | apply Kd.R_drewN | apply Kd.R_drew)); exact Kd.R_mono HO344.out (fun _ hk => hk.2)⟩, ⟨by (with_reducible repeat (first | apply Kd.R_alloc | apply Kd.R_drewN | apply Kd.R_drew)); exact Kd.R_mono HO347.out (fun _ hk => trivial)⟩, ⟨by (with_reducible repeat (first | apply Kd.R_alloc | apply Kd.R_drewN | apply Kd.R_drew)); exact Kd.R_mono HO350.out (fun _ hk => trivial)⟩, ⟨by (with_reducible repeat (first | apply Kd.R_alloc | apply Kd.R_drewN | apply Kd.R_drew)); exact Kd.R_mono HO354.out (fun _ hk => hk.2)⟩, ⟨(upB HB.out)⟩⟩
      case rest =>
        clear HC13
        try clear c1
        try clear c4
        try clear c4b0
        try clear c6
        try clear c6b0
        try clear c25
        obtain ⟨kq, x53_12, rfl, HA, HJ12, HO_6, HO_8, HO_9, HO_10, HB⟩ := hcut
        cases kq with
        | zero => exact absurd HA.out (by simp [laws_FnExactSameVersions.j0])
        | succ kj12 =>
          have H := HA.out
          clear HA
          simp only [laws_FnExactSameVersions.j0] at H
          by_cases c32 : x53_12 = true
          · subst c32
            have H1 : (some false) = some r := by rw [if_pos rfl] at H; exact H
            clear H
            have H := H1
            clear H1
            exact absurd (Option.some.inj H) (by rw [hT]; decide)
          · replace c32 := Bool.eq_false_iff.mpr c32
            subst c32
            have H1 : ((laws_toLegS.f kj12 l0).bind fun t356 => ((laws_eqLegS.f kj12 t345 t356).bind fun t359 => (if t359 = true then ((laws_toEditS.f kj12 l1).bind fun t360 => ((laws_eqEditS.f kj12 t348 t360).bind fun t363 => (if t363 = true then ((laws_markLegS.f kj12 t345 1).bind fun bt364 => ((laws_markEditS.f kj12 t348 bt364.1).bind fun bt366 => (if bt366.1 < 0 then (laws_FnExactSameVersions.j1 kj12 l0 l1 t341 t342 t351 true) else ((laws_eqIntA2S.f kj12 t351 t341).bind fun t368 => (if t368 = true then (laws_FnExactSameVersions.j1 kj12 l0 l1 t341 t342 t351 (t352 != t342)) else (laws_FnExactSameVersions.j1 kj12 l0 l1 t341 t342 t351 true)))))) else (some false)))) else (some false)))) = some r := by rw [if_neg (show ¬ (false = true) by decide)] at H; exact H
            clear H
            have H := H1
            clear H1
            replace H := Option.bind_eq_some_iff.mp H
            obtain ⟨t356, A330, H⟩ := H
            replace H : ((laws_eqLegS.f kj12 t345 t356).bind fun t359 => (if t359 = true then ((laws_toEditS.f kj12 l1).bind fun t360 => ((laws_eqEditS.f kj12 t348 t360).bind fun t363 => (if t363 = true then ((laws_markLegS.f kj12 t345 1).bind fun bt364 => ((laws_markEditS.f kj12 t348 bt364.1).bind fun bt366 => (if bt366.1 < 0 then (laws_FnExactSameVersions.j1 kj12 l0 l1 t341 t342 t351 true) else ((laws_eqIntA2S.f kj12 t351 t341).bind fun t368 => (if t368 = true then (laws_FnExactSameVersions.j1 kj12 l0 l1 t341 t342 t351 (t352 != t342)) else (laws_FnExactSameVersions.j1 kj12 l0 l1 t341 t342 t351 true)))))) else (some false)))) else (some false))) = some r := H
            have A33 := Aside0.mk A330
            clear A330
            replace H := Option.bind_eq_some_iff.mp H
            obtain ⟨t359, A340, H⟩ := H
            replace H : (if t359 = true then ((laws_toEditS.f kj12 l1).bind fun t360 => ((laws_eqEditS.f kj12 t348 t360).bind fun t363 => (if t363 = true then ((laws_markLegS.f kj12 t345 1).bind fun bt364 => ((laws_markEditS.f kj12 t348 bt364.1).bind fun bt366 => (if bt366.1 < 0 then (laws_FnExactSameVersions.j1 kj12 l0 l1 t341 t342 t351 true) else ((laws_eqIntA2S.f kj12 t351 t341).bind fun t368 => (if t368 = true then (laws_FnExactSameVersions.j1 kj12 l0 l1 t341 t342 t351 (t352 != t342)) else (laws_FnExactSameVersions.j1 kj12 l0 l1 t341 t342 t351 true)))))) else (some false)))) else (some false)) = some r := H
            have A34 := Aside0.mk A340
            clear A340
            by_cases c35 : t359 = true
            · subst c35
              have H1 : ((laws_toEditS.f kj12 l1).bind fun t360 => ((laws_eqEditS.f kj12 t348 t360).bind fun t363 => (if t363 = true then ((laws_markLegS.f kj12 t345 1).bind fun bt364 => ((laws_markEditS.f kj12 t348 bt364.1).bind fun bt366 => (if bt366.1 < 0 then (laws_FnExactSameVersions.j1 kj12 l0 l1 t341 t342 t351 true) else ((laws_eqIntA2S.f kj12 t351 t341).bind fun t368 => (if t368 = true then (laws_FnExactSameVersions.j1 kj12 l0 l1 t341 t342 t351 (t352 != t342)) else (laws_FnExactSameVersions.j1 kj12 l0 l1 t341 t342 t351 true)))))) else (some false)))) = some r := by rw [if_pos rfl] at H; exact H
              clear H
              have H := H1
              clear H1
              replace H := Option.bind_eq_some_iff.mp H
              obtain ⟨t360, A360, H⟩ := H
              replace H : ((laws_eqEditS.f kj12 t348 t360).bind fun t363 => (if t363 = true then ((laws_markLegS.f kj12 t345 1).bind fun bt364 => ((laws_markEditS.f kj12 t348 bt364.1).bind fun bt366 => (if bt366.1 < 0 then (laws_FnExactSameVersions.j1 kj12 l0 l1 t341 t342 t351 true) else ((laws_eqIntA2S.f kj12 t351 t341).bind fun t368 => (if t368 = true then (laws_FnExactSameVersions.j1 kj12 l0 l1 t341 t342 t351 (t352 != t342)) else (laws_FnExactSameVersions.j1 kj12 l0 l1 t341 t342 t351 true)))))) else (some false))) = some r := H
              have A36 := Aside0.mk A360
              clear A360
              replace H := Option.bind_eq_some_iff.mp H
              obtain ⟨t363, A370, H⟩ := H
              replace H : (if t363 = true then ((laws_markLegS.f kj12 t345 1).bind fun bt364 => ((laws_markEditS.f kj12 t348 bt364.1).bind fun bt366 => (if bt366.1 < 0 then (laws_FnExactSameVersions.j1 kj12 l0 l1 t341 t342 t351 true) else ((laws_eqIntA2S.f kj12 t351 t341).bind fun t368 => (if t368 = true then (laws_FnExactSameVersions.j1 kj12 l0 l1 t341 t342 t351 (t352 != t342)) else (laws_FnExactSameVersions.j1 kj12 l0 l1 t341 t342 t351 true)))))) else (some false)) = some r := H
              have A37 := Aside0.mk A370
              clear A370
              by_cases c38 : t363 = true
              · subst c38
                have H1 : ((laws_markLegS.f kj12 t345 1).bind fun bt364 => ((laws_markEditS.f kj12 t348 bt364.1).bind fun bt366 => (if bt366.1 < 0 then (laws_FnExactSameVersions.j1 kj12 l0 l1 t341 t342 t351 true) else ((laws_eqIntA2S.f kj12 t351 t341).bind fun t368 => (if t368 = true then (laws_FnExactSameVersions.j1 kj12 l0 l1 t341 t342 t351 (t352 != t342)) else (laws_FnExactSameVersions.j1 kj12 l0 l1 t341 t342 t351 true)))))) = some r := by rw [if_pos rfl] at H; exact H
                clear H
                have H := H1
                clear H1
                replace H := Option.bind_eq_some_iff.mp H
                obtain ⟨⟨t364, t365⟩, A390, H⟩ := H
                replace H : ((laws_markEditS.f kj12 t348 t364).bind fun bt366 => (if bt366.1 < 0 then (laws_FnExactSameVersions.j1 kj12 l0 l1 t341 t342 t351 true) else ((laws_eqIntA2S.f kj12 t351 t341).bind fun t368 => (if t368 = true then (laws_FnExactSameVersions.j1 kj12 l0 l1 t341 t342 t351 (t352 != t342)) else (laws_FnExactSameVersions.j1 kj12 l0 l1 t341 t342 t351 true))))) = some r := H
                have A39 := Aside0.mk A390
                clear A390
                replace H := Option.bind_eq_some_iff.mp H
                obtain ⟨⟨t366, t367⟩, A400, H⟩ := H
                replace H : (if t366 < 0 then (laws_FnExactSameVersions.j1 kj12 l0 l1 t341 t342 t351 true) else ((laws_eqIntA2S.f kj12 t351 t341).bind fun t368 => (if t368 = true then (laws_FnExactSameVersions.j1 kj12 l0 l1 t341 t342 t351 (t352 != t342)) else (laws_FnExactSameVersions.j1 kj12 l0 l1 t341 t342 t351 true)))) = some r := H
                have A40 := Aside0.mk A400
                clear A400
                have HC41 := Aside0.mk H
                clear H
                go_upto_region 21 with (first | ((with_reducible refine gate_callee (f := 19) rfl ?_); refine goesL_ (some 56) rfl rfl Try.func19 (by kernel_rfl) rfl #[.slice A0 l0.length c0] rfl argsB ?_; (with_reducible refine (laws_toLegS.calls kj12 _ _ l0 t356 _ ?side1 ?side2 A33.out).mono ?_); (case side1 => repeat (first | exact (Kd.C_below HR0.out HB.out) | (with_reducible refine Kd.C_alloc ?_ _) | (with_reducible refine Kd.C_drewN ?_ _) | (with_reducible refine Kd.C_drew ?_))); (case side2 => exact HC0.out); rintro e w42 ⟨v357, rfl, ho0, hb⟩; refine ⟨_, rfl, ?_⟩; have n0_ := Aside0.mk (Kd.R_below (upR HO_6.out) hb); have n1_ := Aside0.mk (Kd.R_elder' (upR HO_8.out) (Kd.R_base ho0) hb); have n2_ := Aside0.mk (Kd.R_below (upR HO_9.out) hb); have n3_ := Aside0.mk (Kd.R_below (upR HO_10.out) hb); have n4_ := Aside0.mk (Kd.R_lower (Kd.R_new' ho0 (Kd.R_lt (upR HO_8.out))) (below_size (upB HB.out))); have n5_ := Aside0.mk (below_step (upB HB.out) hb); clear HO_6; clear HO_8; clear HO_9; clear HO_10; clear HB; have HO_6 := n0_; have HO_8 := n1_; have HO_9 := n2_; have HO_10 := n3_; have HO358 := n4_; have HB := n5_; clear n0_ n1_ n2_ n3_ n4_ n5_; (try clear hb); (try clear hk); (try clear ho0); obtain ⟨Ao43, co43, eo43⟩ := Kd.R_slice HO358.out; subst eo43) | ((with_reducible refine gate_callee (f := 22) rfl ?_); refine goesL_ (some 57) rfl rfl Try.func22 (by kernel_rfl) rfl #[.slice Ao21 t345.length co21, .slice Ao43 t356.length co43] rfl argsB ?_; (with_reducible refine (laws_eqLegS.calls kj12 _ _ t345 _ _ t356 true _ ?side1 ?side2 ?side3 ?side4 A34.out).mono ?_); (case side1 => repeat (first | exact (Kd.R_reads' HO_8.out).2.2 | (with_reducible refine Kd.C_alloc ?_ _) | (with_reducible refine Kd.C_drewN ?_ _) | (with_reducible refine Kd.C_drew ?_))); (case side2 => exact (Kd.R_reads' HO_8.out).2.1); (case side3 => repeat (first | exact (Kd.R_reads' HO358.out).2.2 | (with_reducible refine Kd.C_alloc ?_ _) | (with_reducible refine Kd.C_drewN ?_ _) | (with_reducible refine Kd.C_drew ?_))); (case side4 => exact (Kd.R_reads' HO358.out).2.1); rintro e w44 ⟨rfl, hb⟩; refine ⟨_, rfl, ?_⟩; have n0_ := Aside0.mk (Kd.R_below (upR HO_6.out) hb); have n1_ := Aside0.mk (Kd.R_below (upR HO_8.out) hb); have n2_ := Aside0.mk (Kd.R_below (upR HO_9.out) hb); have n3_ := Aside0.mk (Kd.R_below (upR HO_10.out) hb); have n4_ := Aside0.mk (Kd.R_below (upR HO358.out) hb); have n5_ := Aside0.mk (below_step (upB HB.out) hb); clear HO_6; clear HO_8; clear HO_9; clear HO_10; clear HO358; clear HB; have HO_6 := n0_; have HO_8 := n1_; have HO_9 := n2_; have HO_10 := n3_; have HO358 := n4_; have HB := n5_; clear n0_ n1_ n2_ n3_ n4_ n5_; (try clear hb); (try clear hk)) | ((with_reducible refine gate_callee (f := 31) rfl ?_); refine goesL_ (some 61) rfl rfl Try.func31 (by kernel_rfl) rfl #[.slice A1 l1.length c1] rfl argsB ?_; (with_reducible refine (laws_toEditS.calls kj12 _ _ l1 t360 _ ?side1 ?side2 A36.out).mono ?_); (case side1 => repeat (first | exact (Kd.C_below HR1.out HB.out) | (with_reducible refine Kd.C_alloc ?_ _) | (with_reducible refine Kd.C_drewN ?_ _) | (with_reducible refine Kd.C_drew ?_))); (case side2 => exact HC1.out); rintro e w45 ⟨v361, rfl, ho0, hb⟩; refine ⟨_, rfl, ?_⟩; have n0_ := Aside0.mk (Kd.R_below (upR HO_6.out) hb); have n1_ := Aside0.mk (Kd.R_below (upR HO_8.out) hb); have n2_ := Aside0.mk (Kd.R_elder' (upR HO_9.out) (Kd.R_base ho0) hb); have n3_ := Aside0.mk (Kd.R_below (upR HO_10.out) hb); have n4_ := Aside0.mk (Kd.R_below (upR HO358.out) hb); have n5_ := Aside0.mk (Kd.R_lower (Kd.R_new' ho0 (Kd.R_lt (upR HO_9.out))) (below_size (upB HB.out))); have n6_ := Aside0.mk (below_step (upB HB.out) hb); clear HO_6; clear HO_8; clear HO_9; clear HO_10; clear HO358; clear HB; have HO_6 := n0_; have HO_8 := n1_; have HO_9 := n2_; have HO_10 := n3_; have HO358 := n4_; have HO362 := n5_; have HB := n6_; clear n0_ n1_ n2_ n3_ n4_ n5_ n6_; (try clear hb); (try clear hk); (try clear ho0); obtain ⟨Ao46, co46, eo46⟩ := Kd.R_slice HO362.out; subst eo46) | ((with_reducible refine gate_callee (f := 21) rfl ?_); refine goesL_ (some 62) rfl rfl Try.func21 (by kernel_rfl) rfl #[.slice Ao22 t348.length co22, .slice Ao46 t360.length co46] rfl argsB ?_; (with_reducible refine (laws_eqEditS.calls kj12 _ _ t348 _ _ t360 true _ ?side1 ?side2 ?side3 ?side4 A37.out).mono ?_); (case side1 => repeat (first | exact (Kd.R_reads' HO_9.out).2.2 | (with_reducible refine Kd.C_alloc ?_ _) | (with_reducible refine Kd.C_drewN ?_ _) | (with_reducible refine Kd.C_drew ?_))); (case side2 => exact (Kd.R_reads' HO_9.out).2.1); (case side3 => repeat (first | exact (Kd.R_reads' HO362.out).2.2 | (with_reducible refine Kd.C_alloc ?_ _) | (with_reducible refine Kd.C_drewN ?_ _) | (with_reducible refine Kd.C_drew ?_))); (case side4 => exact (Kd.R_reads' HO362.out).2.1); rintro e w47 ⟨rfl, hb⟩; refine ⟨_, rfl, ?_⟩; have n0_ := Aside0.mk (Kd.R_below (upR HO_6.out) hb); have n1_ := Aside0.mk (Kd.R_below (upR HO_8.out) hb); have n2_ := Aside0.mk (Kd.R_below (upR HO_9.out) hb); have n3_ := Aside0.mk (Kd.R_below (upR HO_10.out) hb); have n4_ := Aside0.mk (Kd.R_below (upR HO358.out) hb); have n5_ := Aside0.mk (Kd.R_below (upR HO362.out) hb); have n6_ := Aside0.mk (below_step (upB HB.out) hb); clear HO_6; clear HO_8; clear HO_9; clear HO_10; clear HO358; clear HO362; clear HB; have HO_6 := n0_; have HO_8 := n1_; have HO_9 := n2_; have HO_10 := n3_; have HO358 := n4_; have HO362 := n5_; have HB := n6_; clear n0_ n1_ n2_ n3_ n4_ n5_ n6_; (try clear hb); (try clear hk)) | ((with_reducible refine gate_callee (f := 23) rfl ?_); refine goesL_ (some 66) rfl rfl Try.func23 (by kernel_rfl) rfl #[.slice Ao21 t345.length co21, .int .i64 1] rfl argsB ?_; (with_reducible refine (laws_markLegS.calls kj12 (fun k_ => some k_ = (.slice Ao21 t345.length co21 : Value).ownBlock) (.slice Ao21 t345.length co21) t345 1 t364 t365 w _ ?side1 ?side2 A39.out).mono ?_); (case side1 => repeat (first | (with_reducible first | exact HB.out | apply below_alloc | apply pw_below_drewN | apply below_drew1) | exact HB.out)); (case side2 => exact Kd.R_tight rfl HO_8.out); rintro e w48 ⟨rfl, hy0, hb, hkp⟩; refine ⟨_, rfl, ?_⟩; have n0_ := Aside0.mk (Kd.R_mono (ok' := fun k_ => some k_ ≠ (v353 : Value).ownBlock) (Kd.R_keptB ((Kd.R_apart' HO_6.out (Kd.R_typed HO_8.out) (by decide))) hkp (fun k_ hk_ hs_ => (hk_.2) hs_)) (fun k_ hk_ => hk_.1.1)); have n1_ := Aside0.mk (Kd.R_reok rfl hy0 (fun k_ e_ => HO_8.out.1 k_ e_)); have n2_ := Aside0.mk (Kd.R_mono (ok' := fun k_ => some k_ ≠ (.slice Ao46 t360.length co46 : Value).ownBlock) (Kd.R_keptB ((Kd.R_apart' HO_9.out (Kd.R_typed HO_8.out) (by decide))) hkp (fun k_ hk_ hs_ => (hk_.2) hs_)) (fun k_ hk_ => hk_.1.1.2)); have n3_ := Aside0.mk (Kd.R_mono (ok' := fun k_ => some k_ ≠ (v343 : Value).ownBlock) (Kd.R_keptB ((Kd.R_apart' HO_10.out (Kd.R_typed HO_8.out) (by decide))) hkp (fun k_ hk_ hs_ => (hk_.2) hs_)) (fun k_ hk_ => hk_.1.1)); have n4_ := Aside0.mk (Kd.R_mono (ok' := fun k_ => some k_ ≠ (.slice Ao21 t345.length co21 : Value).ownBlock) (Kd.R_keptB (HO358.out) hkp (fun k_ hk_ hs_ => (hk_.2) hs_)) (fun k_ hk_ => hk_.1.2)); have n5_ := Aside0.mk (Kd.R_mono (ok' := fun k_ => some k_ ≠ (.slice Ao22 t348.length co22 : Value).ownBlock) (Kd.R_keptB ((Kd.R_apart' HO362.out (Kd.R_typed HO_8.out) (by decide))) hkp (fun k_ hk_ hs_ => (hk_.2) hs_)) (fun k_ hk_ => hk_.1.1.2)); have n6_ := Aside0.mk (hb); clear HO_6; clear HO_8; clear HO_9; clear HO_10; clear HO358; clear HO362; clear HB; have HO_6 := n0_; have HO_8 := n1_; have HO_9 := n2_; have HO_10 := n3_; have HO358 := n4_; have HO362 := n5_; have HB := n6_; clear n0_ n1_ n2_ n3_ n4_ n5_ n6_; (try clear hb); (try clear hkp); (try clear hy0)) | ((with_reducible refine gate_callee (f := 24) rfl ?_); refine goesL_ (some 69) rfl rfl Try.func24 (by kernel_rfl) rfl #[.slice Ao22 t348.length co22, .int .i64 t364] rfl argsB ?_; (with_reducible refine (laws_markEditS.calls kj12 (fun k_ => some k_ = (.slice Ao22 t348.length co22 : Value).ownBlock) (.slice Ao22 t348.length co22) t348 t364 t366 t367 w _ ?side1 ?side2 A40.out).mono ?_); (case side1 => repeat (first | (with_reducible first | exact HB.out | apply below_alloc | apply pw_below_drewN | apply below_drew1) | exact HB.out)); (case side2 => exact Kd.R_tight rfl HO_9.out); rintro e w49 ⟨rfl, hy0, hb, hkp⟩; refine ⟨_, rfl, ?_⟩; have n0_ := Aside0.mk (Kd.R_mono (ok' := fun k_ => some k_ ≠ (v353 : Value).ownBlock) (Kd.R_keptB ((Kd.R_apart' HO_6.out (Kd.R_typed HO_9.out) (by decide))) hkp (fun k_ hk_ hs_ => (hk_.2) hs_)) (fun k_ hk_ => hk_.1.1)); have n1_ := Aside0.mk (Kd.R_mono (ok' := fun k_ => some k_ ≠ (.slice Ao43 t356.length co43 : Value).ownBlock) (Kd.R_keptB ((Kd.R_apart' HO_8.out (Kd.R_typed HO_9.out) (by decide))) hkp (fun k_ hk_ hs_ => (hk_.2) hs_)) (fun k_ hk_ => hk_.1.1.2)); have n2_ := Aside0.mk (Kd.R_reok rfl hy0 (fun k_ e_ => HO_9.out.1 k_ e_)); have n3_ := Aside0.mk (Kd.R_mono (ok' := fun k_ => some k_ ≠ (v343 : Value).ownBlock) (Kd.R_keptB ((Kd.R_apart' HO_10.out (Kd.R_typed HO_9.out) (by decide))) hkp (fun k_ hk_ hs_ => (hk_.2) hs_)) (fun k_ hk_ => hk_.1.1)); have n4_ := Aside0.mk (Kd.R_mono (ok' := fun k_ => some k_ ≠ (.slice Ao21 t345.length co21 : Value).ownBlock) (Kd.R_keptB ((Kd.R_apart' HO358.out (Kd.R_typed HO_9.out) (by decide))) hkp (fun k_ hk_ hs_ => (hk_.2) hs_)) (fun k_ hk_ => hk_.1.1)); have n5_ := Aside0.mk (Kd.R_mono (ok' := fun k_ => some k_ ≠ (.slice Ao22 t348.length co22 : Value).ownBlock) (Kd.R_keptB (HO362.out) hkp (fun k_ hk_ hs_ => (hk_) hs_)) (fun k_ hk_ => hk_.1)); have n6_ := Aside0.mk (hb); clear HO_6; clear HO_8; clear HO_9; clear HO_10; clear HO358; clear HO362; clear HB; have HO_6 := n0_; have HO_8 := n1_; have HO_9 := n2_; have HO_10 := n3_; have HO358 := n4_; have HO362 := n5_; have HB := n6_; clear n0_ n1_ n2_ n3_ n4_ n5_ n6_; (try clear hb); (try clear hkp); (try clear hy0)))
                (try simp only [Act.put, List.setIfInBounds_toArray, List.set_cons_zero, List.set_cons_succ])
                go_cut [82] (fun v82 wc => ∃ (kq : Nat) (x82_40 : Bool), v82 = .bool x82_40 ∧ Aside0 (laws_FnExactSameVersions.j1 kq l0 l1 t341 t342 t351 x82_40 = some r) ∧ Aside0 (kq ≤ kj12) ∧ Aside0 (Kd.R k77 77 wc w.heap.size (fun k_ => some k_ ≠ (v353 : Value).ownBlock) v343 t341) ∧ Aside0 (Kd.R k77 77 wc w.heap.size (fun k_ => some k_ ≠ (v343 : Value).ownBlock) v353 t351) ∧ Aside0 (Below w.heap.size w wc))
                case first =>
                  have H := HC41.out
                  clear HC41
                  by_cases c50 : t366 < 0
                  · rw [if_pos c50] at H
                    have c50b0 : decide (t366 < 0) = true := decide_eq_true c50
                    clear c50
                    (first | rw [c50b0] | (simp only [i64_w, i32_w]; rw [c50b0]) | skip)
                    have H' := Aside0.mk H
                    clear H
                    go_wp2
                    go_meet
                    case rel => exact ⟨_, (true), (by first | rfl | (simp; done) | (simp [*]; done)), H', ⟨by have := HJ12.out; first | omega | exact Nat.le_refl _⟩, ⟨by (with_reducible repeat (first | apply Kd.R_alloc | apply Kd.R_drewN | apply Kd.R_drew)); exact HO_6.out⟩, ⟨by (with_reducible repeat (first | apply Kd.R_alloc | apply Kd.R_drewN | apply Kd.R_drew)); exact HO_10.out⟩, ⟨(upB HB.out)⟩⟩
                  · rw [if_neg c50] at H
                    have c50b0 : decide (t366 < 0) = false := decide_eq_false c50
                    clear c50
                    (first | rw [c50b0] | (simp only [i64_w, i32_w]; rw [c50b0]) | skip)
                    replace H := Option.bind_eq_some_iff.mp H
                    obtain ⟨t368, A510, H⟩ := H
                    replace H : (if t368 = true then (laws_FnExactSameVersions.j1 kj12 l0 l1 t341 t342 t351 (t352 != t342)) else (laws_FnExactSameVersions.j1 kj12 l0 l1 t341 t342 t351 true)) = some r := H
                    have A51 := Aside0.mk A510
                    clear A510
                    by_cases c52 : t368 = true
                    · subst c52
                      have H1 : (laws_FnExactSameVersions.j1 kj12 l0 l1 t341 t342 t351 (t352 != t342)) = some r := by rw [if_pos rfl] at H; exact H
                      clear H
                      have H := H1
                      clear H1
                      have H' := Aside0.mk H
                      clear H
                      obtain ⟨Ao53, co53, eo53⟩ := Kd.R_slice HO_10.out
                      subst eo53
                      obtain ⟨Ao54, co54, eo54⟩ := Kd.R_slice HO_6.out
                      subst eo54
                      go_wp2_with (first | (go_at_call 42; (with_reducible refine (laws_eqIntA2S.calls kj12 _ _ t351 _ _ t341 true _ ?side1 ?side2 ?side3 ?side4 A51.out).mono ?_); (case side1 => repeat (first | exact (Kd.R_reads' HO_10.out).2.2 | (with_reducible refine Kd.C_alloc ?_ _) | (with_reducible refine Kd.C_drewN ?_ _) | (with_reducible refine Kd.C_drew ?_))); (case side2 => exact (Kd.R_reads' HO_10.out).2.1); (case side3 => repeat (first | exact (Kd.R_reads' HO_6.out).2.2 | (with_reducible refine Kd.C_alloc ?_ _) | (with_reducible refine Kd.C_drewN ?_ _) | (with_reducible refine Kd.C_drew ?_))); (case side4 => exact (Kd.R_reads' HO_6.out).2.1); rintro e w55 ⟨rfl, hb⟩; have n0_ := Aside0.mk (Kd.R_below (upR HO_6.out) hb); have n1_ := Aside0.mk (Kd.R_below (upR HO_8.out) hb); have n2_ := Aside0.mk (Kd.R_below (upR HO_9.out) hb); have n3_ := Aside0.mk (Kd.R_below (upR HO_10.out) hb); have n4_ := Aside0.mk (Kd.R_below (upR HO358.out) hb); have n5_ := Aside0.mk (Kd.R_below (upR HO362.out) hb); have n6_ := Aside0.mk (below_step (upB HB.out) hb); clear HO_6; clear HO_8; clear HO_9; clear HO_10; clear HO358; clear HO362; clear HB; have HO_6 := n0_; have HO_8 := n1_; have HO_9 := n2_; have HO_10 := n3_; have HO358 := n4_; have HO362 := n5_; have HB := n6_; clear n0_ n1_ n2_ n3_ n4_ n5_ n6_; (try clear hb); (try clear hk)))
                      go_meet
                      case rel => exact ⟨_, ((t352 != t342)), (by first | rfl | (simp; done) | (simp [*]; done)), H', ⟨by have := HJ12.out; first | omega | exact Nat.le_refl _⟩, ⟨by (with_reducible repeat (first | apply Kd.R_alloc | apply Kd.R_drewN | apply Kd.R_drew)); exact HO_6.out⟩, ⟨by (with_reducible repeat (first | apply Kd.R_alloc | apply Kd.R_drewN | apply Kd.R_drew)); exact HO_10.out⟩, ⟨(upB HB.out)⟩⟩
                    · replace c52 := Bool.eq_false_iff.mpr c52
                      subst c52
                      have H1 : (laws_FnExactSameVersions.j1 kj12 l0 l1 t341 t342 t351 true) = some r := by rw [if_neg (show ¬ (false = true) by decide)] at H; exact H
                      clear H
                      have H := H1
                      clear H1
                      have H' := Aside0.mk H
                      clear H
                      obtain ⟨Ao56, co56, eo56⟩ := Kd.R_slice HO_10.out
                      subst eo56
                      obtain ⟨Ao57, co57, eo57⟩ := Kd.R_slice HO_6.out
                      subst eo57
                      go_wp2_with (first | (go_at_call 42; (with_reducible refine (laws_eqIntA2S.calls kj12 _ _ t351 _ _ t341 false _ ?side1 ?side2 ?side3 ?side4 A51.out).mono ?_); (case side1 => repeat (first | exact (Kd.R_reads' HO_10.out).2.2 | (with_reducible refine Kd.C_alloc ?_ _) | (with_reducible refine Kd.C_drewN ?_ _) | (with_reducible refine Kd.C_drew ?_))); (case side2 => exact (Kd.R_reads' HO_10.out).2.1); (case side3 => repeat (first | exact (Kd.R_reads' HO_6.out).2.2 | (with_reducible refine Kd.C_alloc ?_ _) | (with_reducible refine Kd.C_drewN ?_ _) | (with_reducible refine Kd.C_drew ?_))); (case side4 => exact (Kd.R_reads' HO_6.out).2.1); rintro e w58 ⟨rfl, hb⟩; have n0_ := Aside0.mk (Kd.R_below (upR HO_6.out) hb); have n1_ := Aside0.mk (Kd.R_below (upR HO_8.out) hb); have n2_ := Aside0.mk (Kd.R_below (upR HO_9.out) hb); have n3_ := Aside0.mk (Kd.R_below (upR HO_10.out) hb); have n4_ := Aside0.mk (Kd.R_below (upR HO358.out) hb); have n5_ := Aside0.mk (Kd.R_below (upR HO362.out) hb); have n6_ := Aside0.mk (below_step (upB HB.out) hb); clear HO_6; clear HO_8; clear HO_9; clear HO_10; clear HO358; clear HO362; clear HB; have HO_6 := n0_; have HO_8 := n1_; have HO_9 := n2_; have HO_10 := n3_; have HO358 := n4_; have HO362 := n5_; have HB := n6_; clear n0_ n1_ n2_ n3_ n4_ n5_ n6_; (try clear hb); (try clear hk)))
                      go_meet
                      case rel => exact ⟨_, (true), (by first | rfl | (simp; done) | (simp [*]; done)), H', ⟨by have := HJ12.out; first | omega | exact Nat.le_refl _⟩, ⟨by (with_reducible repeat (first | apply Kd.R_alloc | apply Kd.R_drewN | apply Kd.R_drew)); exact HO_6.out⟩, ⟨by (with_reducible repeat (first | apply Kd.R_alloc | apply Kd.R_drewN | apply Kd.R_drew)); exact HO_10.out⟩, ⟨(upB HB.out)⟩⟩
                case rest =>
                  clear HC41
                  try clear c1
                  try clear c4
                  try clear c4b0
                  try clear c6
                  try clear c6b0
                  try clear c25
                  try clear c32
                  try clear c35
                  try clear c38
                  try clear c50
                  try clear c50b0
                  try clear c52
                  obtain ⟨kq, x82_40, rfl, HA, HJ40, HO_6, HO_10, HB⟩ := hcut
                  cases kq with
                  | zero => exact absurd HA.out (by simp [laws_FnExactSameVersions.j1])
                  | succ kj40 =>
                    have H := HA.out
                    clear HA
                    simp only [laws_FnExactSameVersions.j1] at H
                    by_cases c59 : x82_40 = true
                    · subst c59
                      have H1 : (some false) = some r := by rw [if_pos rfl] at H; exact H
                      clear H
                      have H := H1
                      clear H1
                      exact absurd (Option.some.inj H) (by rw [hT]; decide)
                    · replace c59 := Bool.eq_false_iff.mpr c59
                      subst c59
                      have H1 : ((laws_markIntA2S.f kj40 t351 1).bind fun bt369 => ((laws_heldIntA2S.f kj40 bt369.2 1).bind fun t371 => (if t371 < 0 then (some false) else (if t371 = bt369.1 then ((laws_toLegS.f kj40 l0).bind fun t372 => ((laws_toEditS.f kj40 l1).bind fun t375 => ((impl_SameVersions.f kj40 t372 t375).bind fun bt378 => ((laws_eqIntA2S.f kj40 bt378.1 t341).bind fun t382 => (if t382 = true then (laws_FnExactSameVersions.j2 kj40 bt369.2 bt369.1 (bt378.2 != t342)) else (laws_FnExactSameVersions.j2 kj40 bt369.2 bt369.1 true)))))) else (some false))))) = some r := by rw [if_neg (show ¬ (false = true) by decide)] at H; exact H
                      clear H
                      have H := H1
                      clear H1
                      replace H := Option.bind_eq_some_iff.mp H
                      obtain ⟨⟨t369, t370⟩, A600, H⟩ := H
                      replace H : ((laws_heldIntA2S.f kj40 t370 1).bind fun t371 => (if t371 < 0 then (some false) else (if t371 = t369 then ((laws_toLegS.f kj40 l0).bind fun t372 => ((laws_toEditS.f kj40 l1).bind fun t375 => ((impl_SameVersions.f kj40 t372 t375).bind fun bt378 => ((laws_eqIntA2S.f kj40 bt378.1 t341).bind fun t382 => (if t382 = true then (laws_FnExactSameVersions.j2 kj40 t370 t369 (bt378.2 != t342)) else (laws_FnExactSameVersions.j2 kj40 t370 t369 true)))))) else (some false)))) = some r := H
                      have A60 := Aside0.mk A600
                      clear A600
                      replace H := Option.bind_eq_some_iff.mp H
                      obtain ⟨t371, A610, H⟩ := H
                      replace H : (if t371 < 0 then (some false) else (if t371 = t369 then ((laws_toLegS.f kj40 l0).bind fun t372 => ((laws_toEditS.f kj40 l1).bind fun t375 => ((impl_SameVersions.f kj40 t372 t375).bind fun bt378 => ((laws_eqIntA2S.f kj40 bt378.1 t341).bind fun t382 => (if t382 = true then (laws_FnExactSameVersions.j2 kj40 t370 t369 (bt378.2 != t342)) else (laws_FnExactSameVersions.j2 kj40 t370 t369 true)))))) else (some false))) = some r := H
                      have A61 := Aside0.mk A610
                      clear A610
                      by_cases c62 : t371 < 0
                      · rw [if_pos c62] at H
                        have c62b0 : decide (t371 < 0) = true := decide_eq_true c62
                        clear c62
                        exact absurd (Option.some.inj H) (by rw [hT]; decide)
                      · rw [if_neg c62] at H
                        have c62b0 : decide (t371 < 0) = false := decide_eq_false c62
                        clear c62
                        by_cases c65 : t371 = t369
                        · rw [if_pos c65] at H
                          have c65b0 : (t371 == t369) = true := beq_iff_eq.mpr c65
                          have c65b1 : (t371 != t369) = false := bne_eq_false_iff_eq.mpr c65
                          clear c65
                          replace H := Option.bind_eq_some_iff.mp H
                          obtain ⟨t372, A660, H⟩ := H
                          replace H : ((laws_toEditS.f kj40 l1).bind fun t375 => ((impl_SameVersions.f kj40 t372 t375).bind fun bt378 => ((laws_eqIntA2S.f kj40 bt378.1 t341).bind fun t382 => (if t382 = true then (laws_FnExactSameVersions.j2 kj40 t370 t369 (bt378.2 != t342)) else (laws_FnExactSameVersions.j2 kj40 t370 t369 true))))) = some r := H
                          have A66 := Aside0.mk A660
                          clear A660
                          replace H := Option.bind_eq_some_iff.mp H
                          obtain ⟨t375, A670, H⟩ := H
                          replace H : ((impl_SameVersions.f kj40 t372 t375).bind fun bt378 => ((laws_eqIntA2S.f kj40 bt378.1 t341).bind fun t382 => (if t382 = true then (laws_FnExactSameVersions.j2 kj40 t370 t369 (bt378.2 != t342)) else (laws_FnExactSameVersions.j2 kj40 t370 t369 true)))) = some r := H
                          have A67 := Aside0.mk A670
                          clear A670
                          replace H := Option.bind_eq_some_iff.mp H
                          obtain ⟨⟨t378, t379⟩, A680, H⟩ := H
                          replace H : ((laws_eqIntA2S.f kj40 t378 t341).bind fun t382 => (if t382 = true then (laws_FnExactSameVersions.j2 kj40 t370 t369 (t379 != t342)) else (laws_FnExactSameVersions.j2 kj40 t370 t369 true))) = some r := H
                          have A68 := Aside0.mk A680
                          clear A680
                          have HC69 := Aside0.mk H
                          clear H
                          obtain ⟨Ao70, co70, eo70⟩ := Kd.R_slice HO_10.out
                          subst eo70
                          go_upto_region 32 with (first | ((with_reducible refine gate_callee (f := 43) rfl ?_); refine goesL_ (some 85) rfl rfl Try.func43 (by kernel_rfl) rfl #[.slice Ao70 t351.length co70, .int .i64 1] rfl argsB ?_; (with_reducible refine (laws_markIntA2S.calls kj40 (fun k_ => some k_ = (.slice Ao70 t351.length co70 : Value).ownBlock) (.slice Ao70 t351.length co70) t351 1 t369 t370 w _ ?side1 ?side2 A60.out).mono ?_); (case side1 => repeat (first | (with_reducible first | exact HB.out | apply below_alloc | apply pw_below_drewN | apply below_drew1) | exact HB.out)); (case side2 => exact Kd.R_tight rfl HO_10.out); rintro e w71 ⟨rfl, hy0, hb, hkp⟩; refine ⟨_, rfl, ?_⟩; have n0_ := Aside0.mk (Kd.R_mono (ok' := fun k_ => some k_ ≠ (.slice Ao70 t351.length co70 : Value).ownBlock) (Kd.R_keptB (HO_6.out) hkp (fun k_ hk_ hs_ => (hk_) hs_)) (fun k_ hk_ => hk_.1)); have n1_ := Aside0.mk (Kd.R_reok rfl hy0 (fun k_ e_ => HO_10.out.1 k_ e_)); have n2_ := Aside0.mk (hb); clear HO_6; clear HO_10; clear HB; have HO_6 := n0_; have HO_10 := n1_; have HB := n2_; clear n0_ n1_ n2_; (try clear hb); (try clear hkp); (try clear hy0)) | ((with_reducible refine gate_callee (f := 44) rfl ?_); refine goesL_ (some 88) rfl rfl Try.func44 (by kernel_rfl) rfl #[.slice Ao70 t370.length co70, .int .i64 1] rfl (by (try simp only [List.map_toArray, List.map_cons, List.map_nil]); first | done | (rw [show t370.length = t351.length from (Kd.R_reads' HO_10.out).1.symm] <;> rfl) | rfl | (simp only [List.length_drop, List.length_take]; rfl)) ?_; (with_reducible refine (laws_heldIntA2S.calls kj40 _ _ t370 1 t371 _ ?side1 ?side2 A61.out).mono ?_); (case side1 => repeat (first | exact (Kd.R_reads' HO_10.out).2.2 | (with_reducible refine Kd.C_alloc ?_ _) | (with_reducible refine Kd.C_drewN ?_ _) | (with_reducible refine Kd.C_drew ?_))); (case side2 => rw [show t370.length = t351.length from (Kd.R_reads' HO_10.out).1.symm]; exact (Kd.R_reads' HO_10.out).2.1); rintro e w' ⟨rfl, ⟨nd, rfl⟩⟩; refine ⟨_, rfl, ?_⟩) | ((with_reducible refine gate_callee (f := 19) rfl ?_); refine goesL_ (some 96) rfl rfl Try.func19 (by kernel_rfl) rfl #[.slice A0 l0.length c0] rfl argsB ?_; (with_reducible refine (laws_toLegS.calls kj40 _ _ l0 t372 _ ?side1 ?side2 A66.out).mono ?_); (case side1 => repeat (first | exact (Kd.C_below HR0.out (upB HB.out)) | (with_reducible refine Kd.C_alloc ?_ _) | (with_reducible refine Kd.C_drewN ?_ _) | (with_reducible refine Kd.C_drew ?_))); (case side2 => exact HC0.out); rintro e w72 ⟨v373, rfl, ho0, hb⟩; refine ⟨_, rfl, ?_⟩; have n0_ := Aside0.mk (Kd.R_below (upR HO_6.out) hb); have n1_ := Aside0.mk (Kd.R_below (upR HO_10.out) hb); have n2_ := Aside0.mk (Kd.R_lower ho0 (below_size (upB HB.out))); have n3_ := Aside0.mk (below_step (upB HB.out) hb); clear HO_6; clear HO_10; clear HB; have HO_6 := n0_; have HO_10 := n1_; have HO374 := n2_; have HB := n3_; clear n0_ n1_ n2_ n3_; (try clear hb); (try clear hk); (try clear ho0)) | ((with_reducible refine gate_callee (f := 31) rfl ?_); refine goesL_ (some 98) rfl rfl Try.func31 (by kernel_rfl) rfl #[.slice A1 l1.length c1] rfl argsB ?_; (with_reducible refine (laws_toEditS.calls kj40 _ _ l1 t375 _ ?side1 ?side2 A67.out).mono ?_); (case side1 => repeat (first | exact (Kd.C_below HR1.out HB.out) | (with_reducible refine Kd.C_alloc ?_ _) | (with_reducible refine Kd.C_drewN ?_ _) | (with_reducible refine Kd.C_drew ?_))); (case side2 => exact HC1.out); rintro e w73 ⟨v376, rfl, ho0, hb⟩; refine ⟨_, rfl, ?_⟩; have n0_ := Aside0.mk (Kd.R_below (upR HO_6.out) hb); have n1_ := Aside0.mk (Kd.R_below (upR HO_10.out) hb); have n2_ := Aside0.mk (Kd.R_below (upR HO374.out) hb); have n3_ := Aside0.mk (Kd.R_lower ho0 (below_size (upB HB.out))); have n4_ := Aside0.mk (below_step (upB HB.out) hb); clear HO_6; clear HO_10; clear HO374; clear HB; have HO_6 := n0_; have HO_10 := n1_; have HO374 := n2_; have HO377 := n3_; have HB := n4_; clear n0_ n1_ n2_ n3_ n4_; (try clear hb); (try clear hk); (try clear ho0); obtain ⟨Ao74, co74, eo74⟩ := Kd.R_slice HO374.out; subst eo74; obtain ⟨Ao75, co75, eo75⟩ := Kd.R_slice HO377.out; subst eo75) | ((with_reducible refine gate_callee (f := 41) rfl ?_); refine goesL_ (some 99) rfl rfl Try.func41 (by kernel_rfl) rfl #[.slice Ao74 t372.length co74, .slice Ao75 t375.length co75] rfl argsB ?_; (with_reducible refine (impl_SameVersions.calls kj40 _ _ t372 _ _ t375 t378 t379 _ ?side1 ?side2 ?side3 ?side4 A68.out).mono ?_); (case side1 => repeat (first | exact (Kd.R_reads' HO374.out).2.2 | (with_reducible refine Kd.C_alloc ?_ _) | (with_reducible refine Kd.C_drewN ?_ _) | (with_reducible refine Kd.C_drew ?_))); (case side2 => exact (Kd.R_reads' HO374.out).2.1); (case side3 => repeat (first | exact (Kd.R_reads' HO377.out).2.2 | (with_reducible refine Kd.C_alloc ?_ _) | (with_reducible refine Kd.C_drewN ?_ _) | (with_reducible refine Kd.C_drew ?_))); (case side4 => exact (Kd.R_reads' HO377.out).2.1); rintro e w76 ⟨v380, rfl, ho0, hb⟩; refine ⟨_, rfl, ?_⟩; have n0_ := Aside0.mk (Kd.R_elder' (upR HO_6.out) (Kd.R_base ho0) hb); have n1_ := Aside0.mk (Kd.R_elder' (upR HO_10.out) (Kd.R_base ho0) hb); have n2_ := Aside0.mk (Kd.R_below (upR HO374.out) hb); have n3_ := Aside0.mk (Kd.R_below (upR HO377.out) hb); have n4_ := Aside0.mk (Kd.R_lower (Kd.R_new' (Kd.R_new' ho0 (Kd.R_lt (upR HO_6.out))) (Kd.R_lt (upR HO_10.out))) (below_size (upB HB.out))); have n5_ := Aside0.mk (below_step (upB HB.out) hb); clear HO_6; clear HO_10; clear HO374; clear HO377; clear HB; have HO_6 := n0_; have HO_10 := n1_; have HO374 := n2_; have HO377 := n3_; have HO381 := n4_; have HB := n5_; clear n0_ n1_ n2_ n3_ n4_ n5_; (try clear hb); (try clear hk); (try clear ho0)))
                          (try simp only [Act.put, List.setIfInBounds_toArray, List.set_cons_zero, List.set_cons_succ])
                          go_cut [110] (fun v110 wc => ∃ (kq : Nat) (x110_68 : Bool), v110 = .bool x110_68 ∧ Aside0 (laws_FnExactSameVersions.j2 kq t370 t369 x110_68 = some r) ∧ Aside0 (kq ≤ kj40) ∧ Aside0 (Kd.R k77 77 wc w.heap.size (fun _ => True) (.slice Ao70 t351.length co70) t370) ∧ Aside0 (Below w.heap.size w wc))
                          case first =>
                            have H := HC69.out
                            clear HC69
                            replace H := Option.bind_eq_some_iff.mp H
                            obtain ⟨t382, A770, H⟩ := H
                            replace H : (if t382 = true then (laws_FnExactSameVersions.j2 kj40 t370 t369 (t379 != t342)) else (laws_FnExactSameVersions.j2 kj40 t370 t369 true)) = some r := H
                            have A77 := Aside0.mk A770
                            clear A770
                            by_cases c78 : t382 = true
                            · subst c78
                              have H1 : (laws_FnExactSameVersions.j2 kj40 t370 t369 (t379 != t342)) = some r := by rw [if_pos rfl] at H; exact H
                              clear H
                              have H := H1
                              clear H1
                              have H' := Aside0.mk H
                              clear H
                              obtain ⟨Ao79, co79, eo79⟩ := Kd.R_slice HO381.out
                              subst eo79
                              obtain ⟨Ao80, co80, eo80⟩ := Kd.R_slice HO_6.out
                              subst eo80
                              go_wp2_with (first | ((with_reducible refine gate_callee (f := 42) rfl ?_); refine goesL_ (some 104) rfl rfl Try.func42 (by kernel_rfl) rfl #[.slice Ao79 t378.length co79, .slice Ao80 t341.length co80] rfl argsB ?_; (with_reducible refine (laws_eqIntA2S.calls kj40 _ _ t378 _ _ t341 true _ ?side1 ?side2 ?side3 ?side4 A77.out).mono ?_); (case side1 => repeat (first | exact (Kd.R_reads' HO381.out).2.2 | (with_reducible refine Kd.C_alloc ?_ _) | (with_reducible refine Kd.C_drewN ?_ _) | (with_reducible refine Kd.C_drew ?_))); (case side2 => exact (Kd.R_reads' HO381.out).2.1); (case side3 => repeat (first | exact (Kd.R_reads' HO_6.out).2.2 | (with_reducible refine Kd.C_alloc ?_ _) | (with_reducible refine Kd.C_drewN ?_ _) | (with_reducible refine Kd.C_drew ?_))); (case side4 => exact (Kd.R_reads' HO_6.out).2.1); rintro e w81 ⟨rfl, hb⟩; refine ⟨_, rfl, ?_⟩; have n0_ := Aside0.mk (Kd.R_below (upR HO_6.out) hb); have n1_ := Aside0.mk (Kd.R_below (upR HO_10.out) hb); have n2_ := Aside0.mk (Kd.R_below (upR HO374.out) hb); have n3_ := Aside0.mk (Kd.R_below (upR HO377.out) hb); have n4_ := Aside0.mk (Kd.R_below (upR HO381.out) hb); have n5_ := Aside0.mk (below_step (upB HB.out) hb); clear HO_6; clear HO_10; clear HO374; clear HO377; clear HO381; clear HB; have HO_6 := n0_; have HO_10 := n1_; have HO374 := n2_; have HO377 := n3_; have HO381 := n4_; have HB := n5_; clear n0_ n1_ n2_ n3_ n4_ n5_; (try clear hb); (try clear hk)))
                              go_meet
                              case rel => exact ⟨_, ((t379 != t342)), (by first | rfl | (simp; done) | (simp [*]; done)), H', ⟨by have := HJ12.out; have := HJ40.out; first | omega | exact Nat.le_refl _⟩, ⟨by (with_reducible repeat (first | apply Kd.R_alloc | apply Kd.R_drewN | apply Kd.R_drew)); exact Kd.R_mono HO_10.out (fun _ hk => trivial)⟩, ⟨(upB HB.out)⟩⟩
                            · replace c78 := Bool.eq_false_iff.mpr c78
                              subst c78
                              have H1 : (laws_FnExactSameVersions.j2 kj40 t370 t369 true) = some r := by rw [if_neg (show ¬ (false = true) by decide)] at H; exact H
                              clear H
                              have H := H1
                              clear H1
                              have H' := Aside0.mk H
                              clear H
                              obtain ⟨Ao82, co82, eo82⟩ := Kd.R_slice HO381.out
                              subst eo82
                              obtain ⟨Ao83, co83, eo83⟩ := Kd.R_slice HO_6.out
                              subst eo83
                              go_wp2_with (first | ((with_reducible refine gate_callee (f := 42) rfl ?_); refine goesL_ (some 104) rfl rfl Try.func42 (by kernel_rfl) rfl #[.slice Ao82 t378.length co82, .slice Ao83 t341.length co83] rfl argsB ?_; (with_reducible refine (laws_eqIntA2S.calls kj40 _ _ t378 _ _ t341 false _ ?side1 ?side2 ?side3 ?side4 A77.out).mono ?_); (case side1 => repeat (first | exact (Kd.R_reads' HO381.out).2.2 | (with_reducible refine Kd.C_alloc ?_ _) | (with_reducible refine Kd.C_drewN ?_ _) | (with_reducible refine Kd.C_drew ?_))); (case side2 => exact (Kd.R_reads' HO381.out).2.1); (case side3 => repeat (first | exact (Kd.R_reads' HO_6.out).2.2 | (with_reducible refine Kd.C_alloc ?_ _) | (with_reducible refine Kd.C_drewN ?_ _) | (with_reducible refine Kd.C_drew ?_))); (case side4 => exact (Kd.R_reads' HO_6.out).2.1); rintro e w84 ⟨rfl, hb⟩; refine ⟨_, rfl, ?_⟩; have n0_ := Aside0.mk (Kd.R_below (upR HO_6.out) hb); have n1_ := Aside0.mk (Kd.R_below (upR HO_10.out) hb); have n2_ := Aside0.mk (Kd.R_below (upR HO374.out) hb); have n3_ := Aside0.mk (Kd.R_below (upR HO377.out) hb); have n4_ := Aside0.mk (Kd.R_below (upR HO381.out) hb); have n5_ := Aside0.mk (below_step (upB HB.out) hb); clear HO_6; clear HO_10; clear HO374; clear HO377; clear HO381; clear HB; have HO_6 := n0_; have HO_10 := n1_; have HO374 := n2_; have HO377 := n3_; have HO381 := n4_; have HB := n5_; clear n0_ n1_ n2_ n3_ n4_ n5_; (try clear hb); (try clear hk)))
                              go_meet
                              case rel => exact ⟨_, (true), (by first | rfl | (simp; done) | (simp [*]; done)), H', ⟨by have := HJ12.out; have := HJ40.out; first | omega | exact Nat.le_refl _⟩, ⟨by (with_reducible repeat (first | apply Kd.R_alloc | apply Kd.R_drewN | apply Kd.R_drew)); exact Kd.R_mono HO_10.out (fun _ hk => trivial)⟩, ⟨(upB HB.out)⟩⟩
                          case rest =>
                            clear HC69
                            try clear c1
                            try clear c4
                            try clear c4b0
                            try clear c6
                            try clear c6b0
                            try clear c25
                            try clear c32
                            try clear c35
                            try clear c38
                            try clear c50
                            try clear c50b0
                            try clear c52
                            try clear c59
                            try clear c62
                            try clear c62b0
                            try clear c65
                            try clear c65b0
                            try clear c65b1
                            try clear c78
                            obtain ⟨kq, x110_68, rfl, HA, HJ68, HO_10, HB⟩ := hcut
                            have hl10_68 := (Kd.R_reads' HO_10.out).1
                            rw [hl10_68] at HO_10
                            (try simp only [hl10_68])
                            cases kq with
                            | zero => exact absurd HA.out (by simp [laws_FnExactSameVersions.j2])
                            | succ kj68 =>
                              have H := HA.out
                              clear HA
                              simp only [laws_FnExactSameVersions.j2] at H
                              by_cases c85 : x110_68 = true
                              · subst c85
                                have H1 : (some false) = some r := by rw [if_pos rfl] at H; exact H
                                clear H
                                have H := H1
                                clear H1
                                exact absurd (Option.some.inj H) (by rw [hT]; decide)
                              · replace c85 := Bool.eq_false_iff.mpr c85
                                subst c85
                                have H1 : ((laws_heldIntA2S.f kj68 t370 1).bind fun t383 => (if t383 < 0 then (some false) else (if t383 = t369 then (some true) else (some false)))) = some r := by rw [if_neg (show ¬ (false = true) by decide)] at H; exact H
                                clear H
                                have H := H1
                                clear H1
                                replace H := Option.bind_eq_some_iff.mp H
                                obtain ⟨t383, A860, H⟩ := H
                                replace H : (if t383 < 0 then (some false) else (if t383 = t369 then (some true) else (some false))) = some r := H
                                have A86 := Aside0.mk A860
                                clear A860
                                by_cases c87 : t383 < 0
                                · rw [if_pos c87] at H
                                  have c87b0 : decide (t383 < 0) = true := decide_eq_true c87
                                  clear c87
                                  exact absurd (Option.some.inj H) (by rw [hT]; decide)
                                · rw [if_neg c87] at H
                                  have c87b0 : decide (t383 < 0) = false := decide_eq_false c87
                                  clear c87
                                  by_cases c88 : t383 = t369
                                  · rw [if_pos c88] at H
                                    have c88b0 : (t383 == t369) = true := beq_iff_eq.mpr c88
                                    have c88b1 : (t383 != t369) = false := bne_eq_false_iff_eq.mpr c88
                                    clear c88
                                    obtain rfl := (Option.some.inj H)
                                    go_wp2_with (first | ((with_reducible refine gate_callee (f := 44) rfl ?_); refine goesL_ (some 113) rfl rfl Try.func44 (by kernel_rfl) rfl #[.slice Ao70 t370.length co70, .int .i64 1] rfl argsB ?_; (with_reducible refine (laws_heldIntA2S.calls kj68 _ _ t370 1 t383 _ ?side1 ?side2 A86.out).mono ?_); (case side1 => repeat (first | exact (Kd.R_reads' HO_10.out).2.2 | (with_reducible refine Kd.C_alloc ?_ _) | (with_reducible refine Kd.C_drewN ?_ _) | (with_reducible refine Kd.C_drew ?_))); (case side2 => exact (Kd.R_reads' HO_10.out).2.1); rintro e w' ⟨rfl, ⟨nd, rfl⟩⟩; refine ⟨_, rfl, ?_⟩))
                                    go_ret
                                    exact ⟨by first | rfl | (simp [errW_none, errW_some] <;> rfl) | (simp [*, errW_none, errW_some] <;> rfl), (upB HB.out)⟩
                                  · rw [if_neg c88] at H
                                    have c88b0 : (t383 == t369) = false := beq_eq_false_iff_ne.mpr c88
                                    have c88b1 : (t383 != t369) = true := bne_iff_ne.mpr c88
                                    obtain rfl := (Option.some.inj H)
                                    go_wp2_with (first | ((with_reducible refine gate_callee (f := 44) rfl ?_); refine goesL_ (some 113) rfl rfl Try.func44 (by kernel_rfl) rfl #[.slice Ao70 t370.length co70, .int .i64 1] rfl argsB ?_; (with_reducible refine (laws_heldIntA2S.calls kj68 _ _ t370 1 t383 _ ?side1 ?side2 A86.out).mono ?_); (case side1 => repeat (first | exact (Kd.R_reads' HO_10.out).2.2 | (with_reducible refine Kd.C_alloc ?_ _) | (with_reducible refine Kd.C_drewN ?_ _) | (with_reducible refine Kd.C_drew ?_))); (case side2 => exact (Kd.R_reads' HO_10.out).2.1); rintro e w' ⟨rfl, ⟨nd, rfl⟩⟩; refine ⟨_, rfl, ?_⟩))
                                    go_ret
                                    exact ⟨by first | rfl | (simp [errW_none, errW_some] <;> rfl) | (simp [*, errW_none, errW_some] <;> rfl), (upB HB.out)⟩
                        · rw [if_neg c65] at H
                          have c65b0 : (t371 == t369) = false := beq_eq_false_iff_ne.mpr c65
                          have c65b1 : (t371 != t369) = true := bne_iff_ne.mpr c65
                          obtain rfl := (Option.some.inj H)
                          obtain ⟨Ao89, co89, eo89⟩ := Kd.R_slice HO_10.out
                          subst eo89
                          go_wp2_with (first | ((with_reducible refine gate_callee (f := 43) rfl ?_); refine goesL_ (some 85) rfl rfl Try.func43 (by kernel_rfl) rfl #[.slice Ao89 t351.length co89, .int .i64 1] rfl argsB ?_; (with_reducible refine (laws_markIntA2S.calls kj40 (fun k_ => some k_ = (.slice Ao89 t351.length co89 : Value).ownBlock) (.slice Ao89 t351.length co89) t351 1 t369 t370 w _ ?side1 ?side2 A60.out).mono ?_); (case side1 => repeat (first | (with_reducible first | exact HB.out | apply below_alloc | apply pw_below_drewN | apply below_drew1) | exact HB.out)); (case side2 => exact Kd.R_tight rfl HO_10.out); rintro e w90 ⟨rfl, hy0, hb, hkp⟩; refine ⟨_, rfl, ?_⟩; have n0_ := Aside0.mk (Kd.R_mono (ok' := fun k_ => some k_ ≠ (.slice Ao89 t351.length co89 : Value).ownBlock) (Kd.R_keptB (HO_6.out) hkp (fun k_ hk_ hs_ => (hk_) hs_)) (fun k_ hk_ => hk_.1)); have n1_ := Aside0.mk (Kd.R_reok rfl hy0 (fun k_ e_ => HO_10.out.1 k_ e_)); have n2_ := Aside0.mk (hb); clear HO_6; clear HO_10; clear HB; have HO_6 := n0_; have HO_10 := n1_; have HB := n2_; clear n0_ n1_ n2_; (try clear hb); (try clear hkp); (try clear hy0)) | ((with_reducible refine gate_callee (f := 44) rfl ?_); refine goesL_ (some 88) rfl rfl Try.func44 (by kernel_rfl) rfl #[.slice Ao89 t370.length co89, .int .i64 1] rfl (by (try simp only [List.map_toArray, List.map_cons, List.map_nil]); first | done | (rw [show t370.length = t351.length from (Kd.R_reads' HO_10.out).1.symm] <;> rfl) | rfl | (simp only [List.length_drop, List.length_take]; rfl)) ?_; (with_reducible refine (laws_heldIntA2S.calls kj40 _ _ t370 1 t371 _ ?side1 ?side2 A61.out).mono ?_); (case side1 => repeat (first | exact (Kd.R_reads' HO_10.out).2.2 | (with_reducible refine Kd.C_alloc ?_ _) | (with_reducible refine Kd.C_drewN ?_ _) | (with_reducible refine Kd.C_drew ?_))); (case side2 => rw [show t370.length = t351.length from (Kd.R_reads' HO_10.out).1.symm]; exact (Kd.R_reads' HO_10.out).2.1); rintro e w' ⟨rfl, ⟨nd, rfl⟩⟩; refine ⟨_, rfl, ?_⟩))
                          go_ret
                          exact ⟨by first | rfl | (simp [errW_none, errW_some] <;> rfl) | (simp [*, errW_none, errW_some] <;> rfl), (upB HB.out)⟩
              · replace c38 := Bool.eq_false_iff.mpr c38
                subst c38
                have H1 : (some false) = some r := by rw [if_neg (show ¬ (false = true) by decide)] at H; exact H
                clear H
                have H := H1
                clear H1
                exact absurd (Option.some.inj H) (by rw [hT]; decide)
            · replace c35 := Bool.eq_false_iff.mpr c35
              subst c35
              have H1 : (some false) = some r := by rw [if_neg (show ¬ (false = true) by decide)] at H; exact H
              clear H
              have H := H1
              clear H1
              exact absurd (Option.some.inj H) (by rw [hT]; decide)

end Go.Proofs.Ytinelmmnajelaaa.QFnExactSameVersions
