/- The plain statement of FnExactIsLead: the law's plain function returns true at all numbers. No condition beyond the arguments' own bounds. -/
import Derived.Test.YtjmkcdgcjhnldaaPFnExactIsLeadx1
namespace Go.Proofs.Ytjmkcdgcjhnldaa.Pure
open Go.RowKit Go.Proofs.Ytjmkcdgcjhnldaa.PFnExactIsLead Go.Proofs.YtjmkcdgcjhnldaaW.PrintWords Go.Proofs.YtjmkcdgcjhnldaaW.PrintLast

theorem ite_and (b x : Bool) : (if b = true then some x else some false) = some (b && x) := by cases b <;> rfl

theorem FnExactIsLead : ∀ (a0_0 : Int) (a0_1 : Int) (a0_2 : Int) (a0_3 : Int) (a0_4 : Int), (Lit.int .i64 a0_0).wf = true → (Lit.int .i64 a0_1).wf = true → (Lit.int .i64 a0_2).wf = true → (Lit.int .i64 a0_3).wf = true → (Lit.int .i64 a0_4).wf = true → laws_FnExactIsLead.f a0_0 a0_1 a0_2 a0_3 a0_4 = some true := by
  intro a b c d e _ _ _ _ _
  have h1 : ∀ x y z, spec_l1In.f x y z = some (decide (y ≤ x ∧ x ≤ z)) := by
    intro x y z; unfold spec_l1In.f; by_cases h : x ≥ y <;> simp [h] <;> omega
  have h2 : ∀ x y z, impl_within.f x y z = some (decide (y ≤ x ∧ x ≤ z)) := by
    intro x y z; unfold impl_within.f; by_cases h : x ≥ y <;> simp [h] <;> omega
  simp only [laws_FnExactIsLead.f, laws_toLead.f, impl_IsLead.f, spec_IsLead.f, spec_l18One.f, impl_isId.f, impl_isStation.f, impl_isGrade.f, impl_isState.f, spec_l4Station.f, spec_l18State.f, h1, h2, Option.bind_some, ite_and]
  simp

end Go.Proofs.Ytjmkcdgcjhnldaa.Pure
