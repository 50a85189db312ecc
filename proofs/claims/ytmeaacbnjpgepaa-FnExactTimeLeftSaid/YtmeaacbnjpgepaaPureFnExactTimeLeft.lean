/- The plain statement of FnExactTimeLeft: its plain function returns true at every input. No condition beyond the arguments' own bounds. -/
import Derived.Test.YtmeaacbnjpgepaaPFnExactTimeLeftx2
import Derived.Test.YtmeaacbnjpgepaaAid
namespace Go.Proofs.Ytmeaacbnjpgepaa.Pure
open Go.RowKit Go.Proofs.YtmeaacbnjpgepaaW.PrintWords Go.Proofs.YtmeaacbnjpgepaaW.PrintLast Go.Proofs.Ytmeaacbnjpgepaa.Aid Go.Proofs.Ytmeaacbnjpgepaa.PFnExactTimeLeft
set_option linter.unusedVariables false
set_option linter.unusedSimpArgs false

-- laws_toTrip: as it stands

theorem sp_l1In (x y z : Int) : spec_l1In.f x y z = some (decide (y ≤ x ∧ x ≤ z)) := by
  unfold spec_l1In.f
  by_cases h : x ≥ y <;> simp [h] <;> omega

/-! A trip's rules. -/
def goodT (a b c d e : Int) : Bool := (decide (0 ≤ a ∧ a ≤ 5) && (decide (1 ≤ b ∧ b ≤ 12) && (decide (0 ≤ d ∧ d ≤ 999) && decide (0 ≤ e ∧ e ≤ 999)))) && (if 1 ≤ a ∧ a ≤ 3 then decide (1 ≤ c ∧ c ≤ b) && ((a == 1) == decide (e ≤ d)) else c == 0)

theorem sp_l21In (x : Int) : spec_l21In.f x = some (decide (1 ≤ x ∧ x ≤ 3)) := by
  simp only [spec_l21In.f, sp_l1In, Option.bind_some]
theorem sp_l21Time (x : Int) : spec_l21Time.f x = some (decide (0 ≤ x ∧ x ≤ 999)) := by
  simp only [spec_l21Time.f, sp_l1In, Option.bind_some]
theorem sp_l21Good (a b c d e : Int) : Evn (fun k => spec_l21Good.f k a b c d e) (goodT a b c d e) := by
  refine Evn.step ?_
  refine Evn.of fun k => ?_
  unfold goodT
  simp only [spec_l21Good.f, spec_l21Good.j0, sp_l21In, sp_l21Time, sp_l1In, Option.bind_some, ite_and]
  by_cases h1 : 0 ≤ a ∧ a ≤ 5
  · by_cases h2 : 1 ≤ b ∧ b ≤ 12
    · by_cases h3 : 0 ≤ d ∧ d ≤ 999
      · by_cases h4 : 0 ≤ e ∧ e ≤ 999
        · by_cases h5 : 1 ≤ a ∧ a ≤ 3
          · simp [h1, h2, h3, h4, h5]
          · simp [h1, h2, h3, h4, h5]
        · simp [h1, h2, h3, h4]
      · simp [h1, h2, h3]
    · simp [h1, h2]
  · simp [h1]

theorem sp_l1Most (a b : Int) : spec_l1Most.f a b = some (max a b) := by
  unfold spec_l1Most.f
  split <;> congr 1 <;> omega

theorem im_within (x y z : Int) : impl_within.f x y z = some (decide (y ≤ x ∧ x ≤ z)) := by
  unfold impl_within.f
  by_cases h : x ≥ y <;> simp [h] <;> omega

theorem im_isTime (x : Int) : impl_isTime.f x = some (decide (0 ≤ x ∧ x ≤ 999)) := by
  simp only [impl_isTime.f, im_within, Option.bind_some]
theorem im_IsTrip_j1 (k : Nat) (p b c d e : Int) (q : Bool) (hq : q = decide (p = 0 ∨ p = 4 ∨ p = 5)) : impl_IsTrip.j1 (k + 1) p q p b c d e = some (decide (0 ≤ p ∧ p ≤ 5) && (if 1 ≤ p ∧ p ≤ 3 then decide (1 ≤ c ∧ c ≤ b) && ((p == 1) == decide (e ≤ d)) else c == 0)) := by
  subst hq
  simp only [impl_IsTrip.j1, im_within, Option.bind_some, ite_and]
  by_cases h0 : p = 0
  · subst h0; simp
  by_cases h4 : p = 4
  · subst h4; simp
  by_cases h5 : p = 5
  · subst h5; simp
  by_cases h1 : p = 1
  · subst h1; simp
  have hn : decide (d < e) = !decide (e ≤ d) := by by_cases h : e ≤ d <;> simp [h] <;> omega
  by_cases h2 : p = 2
  · subst h2; simp [hn]
  by_cases h3 : p = 3
  · subst h3; simp [hn]
  have : ¬ (0 ≤ p ∧ p ≤ 5) := by omega
  simp [h0, h1, h2, h3, h4, h5, this]
theorem im_IsTrip (a b c d e : Int) : Evn (fun k => impl_IsTrip.f k a b c d e) (goodT a b c d e) := by
  refine Evn.step (Evn.step ?_)
  refine Evn.of fun k => ?_
  unfold goodT
  simp only [impl_IsTrip.f, impl_IsTrip.j0, im_isTime, im_within, Option.bind_some]
  have e0 : impl_IsTrip.j1 (k + 1) a (a == 0) a b c d e = impl_IsTrip.j1 (k + 1) a (a == 0) a b c d e := rfl
  by_cases h2 : 1 ≤ b ∧ b ≤ 12
  · by_cases h3 : 0 ≤ d ∧ d ≤ 999
    · by_cases h4 : 0 ≤ e ∧ e ≤ 999
      · by_cases g0 : a = 0
        · rw [if_pos (decide_eq_true h2), if_pos (decide_eq_true h3), decide_eq_true h4, if_neg (by decide), if_pos g0, im_IsTrip_j1 k a b c d e _ (by simp [g0])]
          simp [h2, h3]
        · by_cases g4 : a = 4
          · rw [if_pos (decide_eq_true h2), if_pos (decide_eq_true h3), decide_eq_true h4, if_neg (by decide), if_neg g0, if_pos g4, im_IsTrip_j1 k a b c d e _ (by simp [g4])]
            simp [h2, h3]
          · rw [if_pos (decide_eq_true h2), if_pos (decide_eq_true h3), decide_eq_true h4, if_neg (by decide), if_neg g0, if_neg g4, im_IsTrip_j1 k a b c d e _ (by by_cases g5 : a = 5 <;> simp [g0, g4, g5])]
            simp [h2, h3]
      · simp [h2, h3, h4]
    · simp [h2, h3]
  · simp [h2]

theorem good_times {a b c d e : Int} (h : goodT a b c d e = true) : (0 ≤ a ∧ a ≤ 5) ∧ (1 ≤ b ∧ b ≤ 12) ∧ (0 ≤ d ∧ d ≤ 999) ∧ (0 ≤ e ∧ e ≤ 999) := by
  simp only [goodT, Bool.and_eq_true, decide_eq_true_eq] at h
  exact h.1
theorem left_times (a b c d e : Int) : ∃ r, Evn (fun k => spec_TimeLeft.f k a b c d e) r ∧ Evn (fun k => impl_TimeLeft.f k a b c d e) r := by
  unfold spec_TimeLeft.f impl_TimeLeft.f
  by_cases hg : goodT a b c d e = true
  · obtain ⟨_, _, h3, h4⟩ := good_times hg
    by_cases hs : 1 ≤ a ∧ a ≤ 3
    · refine ⟨(max 0 (d - e), true), Evn.bind (sp_l21Good a b c d e) ?_, Evn.bind (im_IsTrip a b c d e) ?_⟩
      · simp only [hg, if_true, sp_l21In, sp_l1Most, Option.bind_some, decide_eq_true hs, wrap_id (show -9223372036854775808 ≤ d - e by omega) (by omega)]
        exact Evn.done _
      · simp only [hg, if_true, im_within, Option.bind_some, decide_eq_true hs, wrap_id (show -9223372036854775808 ≤ d - e by omega) (by omega)]
        refine (Evn.done _).eq_ ?_
        simp only [Prod.mk.injEq, and_true]
        unfold mx
        omega
    · refine ⟨(0, false), Evn.bind (sp_l21Good a b c d e) ?_, Evn.bind (im_IsTrip a b c d e) ?_⟩
      · simp only [hg, if_true, sp_l21In, Option.bind_some, decide_eq_false hs, Bool.false_eq_true, if_false]
        exact Evn.done _
      · simp only [hg, if_true, im_within, Option.bind_some, decide_eq_false hs, Bool.false_eq_true, if_false]
        exact Evn.done _
  · have hf := Bool.eq_false_iff.mpr hg
    refine ⟨(0, false), Evn.bind (sp_l21Good a b c d e) ?_, Evn.bind (im_IsTrip a b c d e) ?_⟩
    · simp only [hf, Bool.false_eq_true, if_false]
      exact Evn.done _
    · simp only [hf, Bool.false_eq_true, if_false]
      exact Evn.done _
theorem FnExactTimeLeft : ∀ (a0_0 : Int) (a0_1 : Int) (a0_2 : Int) (a0_3 : Int) (a0_4 : Int), (Lit.int .i64 a0_0).wf = true → (Lit.int .i64 a0_1).wf = true → (Lit.int .i64 a0_2).wf = true → (Lit.int .i64 a0_3).wf = true → (Lit.int .i64 a0_4).wf = true → ∃ k, laws_FnExactTimeLeft.f k a0_0 a0_1 a0_2 a0_3 a0_4 = some true := by
  intro a b c d e _ _ _ _ _
  apply Evn.get
  simp only [laws_FnExactTimeLeft.f, laws_toTrip.f, Option.bind_some]
  obtain ⟨r, h1, h2⟩ := left_times a b c d e
  refine Evn.bind h1 ?_
  refine Evn.bind h2 ?_
  simp only [if_true, bne_self_eq_false, Bool.false_eq_true, if_false]
  exact Evn.done _

end Go.Proofs.Ytmeaacbnjpgepaa.Pure
