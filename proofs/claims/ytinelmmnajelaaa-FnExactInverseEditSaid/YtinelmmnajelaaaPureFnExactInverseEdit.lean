/- The plain statement of FnExactInverseEdit: its plain function returns true at every input. No condition beyond the arguments' own bounds. -/
import Derived.Test.YtinelmmnajelaaaPFnExactInverseEditx4
import Derived.Test.YtinelmmnajelaaaAid
namespace Go.Proofs.Ytinelmmnajelaaa.Pure
open Go.RowKit Go.Proofs.YtinelmmnajelaaaW.PrintWords Go.Proofs.YtinelmmnajelaaaW.PrintLast Go.Proofs.Ytinelmmnajelaaa.Aid Go.Proofs.Ytinelmmnajelaaa.PFnExactInverseEdit
set_option linter.unusedVariables false
set_option linter.unusedSimpArgs false

/-! A record of the program's type 26, as a plain one. -/
structure S26 where
  f0 : Int
  f1 : Int
  f2 : Int
  f3 : Int
  f4 : Int
def z26 : S26 := ⟨0, 0, 0, 0, 0⟩
theorem sp_l1In (x y z : Int) : spec_l1In.f x y z = some (decide (y ≤ x ∧ x ≤ z)) := by
  unfold spec_l1In.f
  by_cases h : x ≥ y <;> simp [h] <;> omega

theorem sp_l4Station (x : Int) : spec_l4Station.f x = some (decide (0 ≤ x ∧ x ≤ 7)) := by
  simp only [spec_l4Station.f, sp_l1In, Option.bind_some]

/-! A leg's rules. -/
def okLeg (x : S26) : Bool := decide (0 ≤ x.f0 ∧ x.f0 ≤ 7) && (decide (0 ≤ x.f1 ∧ x.f1 ≤ 7) && (!decide (x.f0 = x.f1) && (decide (1 ≤ x.f2 ∧ x.f2 ≤ 500) && (decide (0 ≤ x.f3 ∧ x.f3 ≤ 359) && decide (-90 ≤ x.f4 ∧ x.f4 ≤ 90)))))
def goodLegs (xs : List S26) : Bool := xs.all okLeg && decide (xs.length ≤ 12)
theorem goodLegs_len {xs : List S26} (h : goodLegs xs = true) : xs.length ≤ 12 := by
  simp only [goodLegs, Bool.and_eq_true, decide_eq_true_eq] at h
  exact h.2
theorem goodLegs_ok {xs : List S26} (h : goodLegs xs = true) (j : Nat) (hj : j < xs.length) : okLeg (xs.getD j z26) = true := by
  simp only [goodLegs, Bool.and_eq_true, List.all_eq_true] at h
  refine h.1 _ ?_
  rw [List.getD_eq_getElem?_getD, List.getElem?_eq_getElem hj]
  exact List.getElem_mem hj
theorem okLeg_in {x : S26} (h : okLeg x = true) : (0 ≤ x.f0 ∧ x.f0 ≤ 7) ∧ (0 ≤ x.f1 ∧ x.f1 ≤ 7) ∧ ¬ x.f0 = x.f1 ∧ (1 ≤ x.f2 ∧ x.f2 ≤ 500) ∧ (0 ≤ x.f3 ∧ x.f3 ≤ 359) ∧ (-90 ≤ x.f4 ∧ x.f4 ≤ 90) := by
  simp only [okLeg, Bool.and_eq_true, decide_eq_true_eq, Bool.not_eq_true', decide_eq_false_iff_not] at h
  exact h
theorem ite_not (c : Prop) [Decidable c] (x : Bool) : (if c then some false else some x) = some (!decide c && x) := by
  by_cases h : c <;> simp [h]

theorem sp_l4Leg (x : S26) : spec_l4Leg.f x.f0 x.f1 x.f2 x.f3 x.f4 = some (okLeg x) := by
  simp only [spec_l4Leg.f, sp_l4Station, spec_l2Bearing.f, sp_l1In, Option.bind_some, ite_and, ite_not, okLeg]

theorem ib_some {b : Bool} : (if b = true then (some true) else (some false)) = some b := by cases b <;> rfl
def zeroB (a b c d e : Int) : Bool := a == 0 && (b == 0 && (c == 0 && (d == 0 && (e == 0))))
def editB (k a : Int) (x y : S26) : Bool :=
  if decide (0 ≤ a ∧ a ≤ 11) = true then
    (if k = 1 then (if zeroB x.f0 x.f1 x.f2 x.f3 x.f4 = true then okLeg y else false)
     else if k = 2 then (if okLeg x = true then zeroB y.f0 y.f1 y.f2 y.f3 y.f4 else false)
     else if k = 3 then (if okLeg x = true then (if okLeg y = true then (!(x.f0 == y.f0) || (!(x.f1 == y.f1) || (!(x.f2 == y.f2) || (!(x.f3 == y.f3) || (!(x.f4 == y.f4)))))) else false) else false)
     else false)
  else false
theorem sp_l19Valid (k a : Int) (x y : S26) : spec_l19Valid.f k a x.f0 x.f1 x.f2 x.f3 x.f4 y.f0 y.f1 y.f2 y.f3 y.f4 = some (editB k a x y) := by
  simp only [spec_l19Valid.f, sp_l4Leg, sp_l1In, Option.bind_some]
  unfold editB zeroB
  repeat' split
  all_goals rfl

-- laws_toLeg: as it stands

-- laws_toEdit: as it stands

theorem im_within (x y z : Int) : impl_within.f x y z = some (decide (y ≤ x ∧ x ≤ z)) := by
  unfold impl_within.f
  by_cases h : x ≥ y <;> simp [h] <;> omega

theorem im_isStation (x : Int) : impl_isStation.f x = some (decide (0 ≤ x ∧ x ≤ 7)) := by
  simp only [impl_isStation.f, im_within, Option.bind_some]

theorem im_IsLeg (x : S26) : impl_IsLeg.f x.f0 x.f1 x.f2 x.f3 x.f4 = some (okLeg x) := by
  simp only [impl_IsLeg.f, im_isStation, impl_isBearing.f, im_within, Option.bind_some, ite_and, ite_not, okLeg]

theorem im_isEdit (k a : Int) (x y : S26) : impl_isEdit.f k a x.f0 x.f1 x.f2 x.f3 x.f4 y.f0 y.f1 y.f2 y.f3 y.f4 = some (editB k a x y) := by
  simp only [impl_isEdit.f, im_IsLeg, im_within, Option.bind_some]
  unfold editB zeroB
  repeat' split
  all_goals rfl

-- laws_eqLeg: as it stands

-- laws_eqEdit: as it stands

theorem lawInverseEdit (a0_0 a0_1 a0_2 a0_3 a0_4 a0_5 a0_6 a0_7 a0_8 a0_9 a0_10 a0_11 : Int) : laws_FnExactInverseEdit.f a0_0 a0_1 a0_2 a0_3 a0_4 a0_5 a0_6 a0_7 a0_8 a0_9 a0_10 a0_11 = some true := by
  have hs := sp_l19Valid a0_0 a0_1 ⟨a0_2, a0_3, a0_4, a0_5, a0_6⟩ ⟨a0_7, a0_8, a0_9, a0_10, a0_11⟩
  have hi := im_isEdit a0_0 a0_1 ⟨a0_2, a0_3, a0_4, a0_5, a0_6⟩ ⟨a0_7, a0_8, a0_9, a0_10, a0_11⟩
  dsimp only at hs hi
  simp only [laws_FnExactInverseEdit.f, laws_toEdit.f, laws_toLeg.f, spec_InverseEdit.f, impl_InverseEdit.f, Option.bind_some, hs, hi]
  cases editB a0_0 a0_1 ⟨a0_2, a0_3, a0_4, a0_5, a0_6⟩ ⟨a0_7, a0_8, a0_9, a0_10, a0_11⟩ with
  | false => rfl
  | true =>
    simp only [if_true, spec_l19Inverse.f, impl_Edit_inverse.f]
    have hL : ∀ p q r s t : Int, laws_eqLeg.f p q r s t p q r s t = some true := by
      intro p q r s t
      simp only [laws_eqLeg.f, if_true]
    by_cases c1 : a0_0 = 1
    · simp only [if_pos c1, Option.bind_some, laws_eqEdit.f, hL, if_true, bne_self_eq_false, Bool.false_eq_true, if_false]
    · by_cases c2 : a0_0 = 2
      · simp only [if_neg c1, if_pos c2, Option.bind_some, laws_eqEdit.f, hL, if_true, bne_self_eq_false, Bool.false_eq_true, if_false]
      · simp only [if_neg c1, if_neg c2, Option.bind_some, laws_eqEdit.f, hL, if_true, bne_self_eq_false, Bool.false_eq_true, if_false]
theorem FnExactInverseEdit : ∀ (a0_0 : Int) (a0_1 : Int) (a0_2 : Int) (a0_3 : Int) (a0_4 : Int) (a0_5 : Int) (a0_6 : Int) (a0_7 : Int) (a0_8 : Int) (a0_9 : Int) (a0_10 : Int) (a0_11 : Int), (Lit.int .i64 a0_0).wf = true → (Lit.int .i64 a0_1).wf = true → (Lit.int .i64 a0_2).wf = true → (Lit.int .i64 a0_3).wf = true → (Lit.int .i64 a0_4).wf = true → (Lit.int .i64 a0_5).wf = true → (Lit.int .i64 a0_6).wf = true → (Lit.int .i64 a0_7).wf = true → (Lit.int .i64 a0_8).wf = true → (Lit.int .i64 a0_9).wf = true → (Lit.int .i64 a0_10).wf = true → (Lit.int .i64 a0_11).wf = true → laws_FnExactInverseEdit.f a0_0 a0_1 a0_2 a0_3 a0_4 a0_5 a0_6 a0_7 a0_8 a0_9 a0_10 a0_11 = some true :=
  fun a b c d e f g h i j k l _ _ _ _ _ _ _ _ _ _ _ _ => lawInverseEdit a b c d e f g h i j k l

end Go.Proofs.Ytinelmmnajelaaa.Pure
