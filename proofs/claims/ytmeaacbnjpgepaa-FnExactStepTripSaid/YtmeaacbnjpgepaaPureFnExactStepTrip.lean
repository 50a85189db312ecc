/- The plain statement of FnExactStepTrip: its plain function returns true at every input. No condition beyond the arguments' own bounds. -/
import Derived.Test.YtmeaacbnjpgepaaQFnExactStepTripx8
import Derived.Test.YtmeaacbnjpgepaaAid
namespace Go.Proofs.Ytmeaacbnjpgepaa.Pure
open Go.RowKit Go.Proofs.YtmeaacbnjpgepaaW.PrintWords Go.Proofs.YtmeaacbnjpgepaaW.PrintLast Go.Proofs.Ytmeaacbnjpgepaa.Aid Go.Proofs.Ytmeaacbnjpgepaa.QFnExactStepTrip
set_option linter.unusedVariables false
set_option linter.unusedSimpArgs false

-- laws_toTrip: as it stands

theorem sp_l1In (x y z : Int) : spec_l1In.f x y z = some (decide (y ≤ x ∧ x ≤ z)) := by
  unfold spec_l1In.f
  by_cases h : x ≥ y <;> simp [h] <;> omega

/-! A trip's rules. -/
def goodT (a b c d e : Int) : Bool := (decide (0 ≤ a ∧ a ≤ 5) && (decide (1 ≤ b ∧ b ≤ 12) && (decide (0 ≤ d ∧ d ≤ 999) && decide (0 ≤ e ∧ e ≤ 999)))) && (if 1 ≤ a ∧ a ≤ 3 then decide (1 ≤ c ∧ c ≤ b) && ((a == 1) == decide (e ≤ d)) else c == 0)

theorem sp_l21In (x : Int) : spec_l21In.f x = some (decide (1 ≤ x ∧ x ≤ 3)) := by
  simp only [spec_l21In.f, sp_l1In, Option.bind_some]
theorem sp_l21Time (x : Int) : spec_l21Time.f x = some (decide (0 ≤ x ∧ x ≤ 999)) := by
  simp only [spec_l21Time.f, sp_l1In, Option.bind_some]
theorem sp_l21Good (a b c d e : Int) : Evn (fun k => spec_l21Good.f k a b c d e) (goodT a b c d e) := by
  refine Evn.step ?_
  refine Evn.of fun k => ?_
  unfold goodT
  simp only [spec_l21Good.f, spec_l21Good.j0, sp_l21In, sp_l21Time, sp_l1In, Option.bind_some, ite_and]
  by_cases h1 : 0 ≤ a ∧ a ≤ 5
  · by_cases h2 : 1 ≤ b ∧ b ≤ 12
    · by_cases h3 : 0 ≤ d ∧ d ≤ 999
      · by_cases h4 : 0 ≤ e ∧ e ≤ 999
        · by_cases h5 : 1 ≤ a ∧ a ≤ 3
          · simp [h1, h2, h3, h4, h5]
          · simp [h1, h2, h3, h4, h5]
        · simp [h1, h2, h3, h4]
      · simp [h1, h2, h3]
    · simp [h1, h2]
  · simp [h1]

/-! A step of a trip: the trip behind it, and whether it is possible. -/
def stepT (a b c d e q n : Int) : Int × Int × Int × Int × Int × Bool :=
  if q = 1 then (1, b, wrap64 (c + n), d, e, decide (a ≤ 1) && (decide (1 ≤ n ∧ n ≤ wrap64 (b - c)) && decide (e < d)))
  else if q = 2 then (if wrap64 (c - n) = 0 then 4 else a, b, wrap64 (c - n), d, e, decide (1 ≤ a ∧ a ≤ 3) && decide (1 ≤ n ∧ n ≤ c))
  else if q = 3 then (if a = 1 ∧ wrap64 (e + n) > d then 2 else a, b, c, d, wrap64 (e + n), decide (1 ≤ n ∧ n ≤ wrap64 (999 - e)))
  else if q = 4 then (3, b, c, d, e, a == 2) else if q = 5 then (5, b, c, d, e, a == 0)
  else (a, b, c, wrap64 (d + n), e, decide (a = 1) && decide (1 ≤ n ∧ n ≤ wrap64 (999 - d)))
def goodS (q n : Int) : Bool := if q = 4 ∨ q = 5 then n == 0 else decide (1 ≤ q ∧ q ≤ 6) && decide (n ≥ 0)
def only (r : Int × Int × Int × Int × Int × Bool) : Int × Int × Int × Int × Int × Bool := if r.2.2.2.2.2 = true then r else (0, 0, 0, 0, 0, false)
def stepTs (a b c d e q n : Int) : Int × Int × Int × Int × Int × Bool := if goodT a b c d e = true ∧ goodS q n = true then only (stepT a b c d e q n) else (0, 0, 0, 0, 0, false)

theorem sp_l21Make (a b c d e q n : Int) : Evn (fun k => spec_l21Make.f k a b c d e q n) (stepT a b c d e q n) := by
  refine Evn.step ?_
  refine Evn.of fun k => ?_
  unfold stepT
  simp only [spec_l21Make.f, spec_l21Make.j0, sp_l1In, sp_l21In, Option.bind_some]
  by_cases h1 : q = 1
  · simp only [if_pos h1]
    by_cases g1 : a ≤ 1
    · simp only [if_pos g1, decide_eq_true g1, Bool.true_and]
      by_cases g2 : 1 ≤ n ∧ n ≤ wrap64 (b - c)
      · simp only [decide_eq_true g2, if_true, Bool.true_and]
      · simp only [decide_eq_false g2, Bool.false_eq_true, if_false, Bool.false_and]
    · simp only [if_neg g1, decide_eq_false g1, Bool.false_and]
  · simp only [if_neg h1]
    by_cases h2 : q = 2
    · simp only [if_pos h2]
      by_cases g1 : wrap64 (c - n) = 0
      · simp only [if_pos g1]
        by_cases g2 : 1 ≤ a ∧ a ≤ 3
        · simp only [decide_eq_true g2, if_true, Bool.true_and]
        · simp only [decide_eq_false g2, Bool.false_eq_true, if_false, Bool.false_and]
      · simp only [if_neg g1]
        by_cases g2 : 1 ≤ a ∧ a ≤ 3
        · simp only [decide_eq_true g2, if_true, Bool.true_and]
        · simp only [decide_eq_false g2, Bool.false_eq_true, if_false, Bool.false_and]
    · simp only [if_neg h2]
      by_cases h3 : q = 3
      · simp only [if_pos h3]
        by_cases g1 : a = 1
        · by_cases g2 : wrap64 (e + n) > d
          · rw [if_pos (show a = 1 ∧ wrap64 (e + n) > d from ⟨g1, g2⟩)]
            simp only [if_pos g1, decide_eq_true g2, if_true]
          · rw [if_neg (show ¬ (a = 1 ∧ wrap64 (e + n) > d) from fun h => g2 h.2)]
            simp only [if_pos g1, decide_eq_false g2, Bool.false_eq_true, if_false]
        · rw [if_neg (show ¬ (a = 1 ∧ wrap64 (e + n) > d) from fun h => g1 h.1)]
          simp only [if_neg g1, Bool.false_eq_true, if_false]
      · simp only [if_neg h3]
        by_cases h4 : q = 4
        · simp only [if_pos h4]
        · simp only [if_neg h4]
          by_cases h5 : q = 5
          · simp only [if_pos h5]
          · simp only [if_neg h5]
            by_cases g1 : a = 1
            · simp only [if_pos g1, decide_eq_true g1, Bool.true_and]
            · simp only [if_neg g1, decide_eq_false g1, Bool.false_and]

theorem sp_l21Step (q n : Int) : spec_l21Step.f q n = some (goodS q n) := by
  unfold spec_l21Step.f goodS
  by_cases h4 : q = 4
  · simp [h4]
  · by_cases h5 : q = 5
    · simp [h5]
    · simp only [if_neg h4, if_neg h5, sp_l1In, Option.bind_some, ite_and]
      rw [if_neg (by omega)]

theorem sp_StepTrip (a b c d e q n : Int) : Evn (fun k => spec_StepTrip.f k a b c d e q n) (stepTs a b c d e q n) := by
  unfold spec_StepTrip.f stepTs
  refine Evn.bind (sp_l21Good a b c d e) ?_
  simp only [sp_l21Step, Option.bind_some]
  refine Evn.ite (fun c1 => Evn.step ?_) (fun c1 => Evn.step ?_)
  · simp only [spec_StepTrip.j0]
    refine Evn.ite (fun c2 => ?_) (fun c2 => ?_)
    · rw [if_neg (by intro h; rw [h.2] at c2; cases c2)]
      exact Evn.done _
    · rw [if_pos ⟨c1, by simpa using c2⟩]
      refine Evn.bind (sp_l21Make a b c d e q n) ?_
      unfold only
      exact Evn.ite (fun c3 => by rw [if_pos c3]; refine (Evn.done _).eq_ (by rw [← c3])) (fun c3 => by rw [if_neg c3]; exact Evn.done _)
  · simp only [spec_StepTrip.j0, if_true]
    rw [if_neg (fun h => c1 h.1)]
    exact Evn.done _

-- laws_toTripStep: as it stands

theorem im_within (x y z : Int) : impl_within.f x y z = some (decide (y ≤ x ∧ x ≤ z)) := by
  unfold impl_within.f
  by_cases h : x ≥ y <;> simp [h] <;> omega

theorem im_isTime (x : Int) : impl_isTime.f x = some (decide (0 ≤ x ∧ x ≤ 999)) := by
  simp only [impl_isTime.f, im_within, Option.bind_some]
theorem im_IsTrip_j1 (k : Nat) (p b c d e : Int) (q : Bool) (hq : q = decide (p = 0 ∨ p = 4 ∨ p = 5)) : impl_IsTrip.j1 (k + 1) p q p b c d e = some (decide (0 ≤ p ∧ p ≤ 5) && (if 1 ≤ p ∧ p ≤ 3 then decide (1 ≤ c ∧ c ≤ b) && ((p == 1) == decide (e ≤ d)) else c == 0)) := by
  subst hq
  simp only [impl_IsTrip.j1, im_within, Option.bind_some, ite_and]
  by_cases h0 : p = 0
  · subst h0; simp
  by_cases h4 : p = 4
  · subst h4; simp
  by_cases h5 : p = 5
  · subst h5; simp
  by_cases h1 : p = 1
  · subst h1; simp
  have hn : decide (d < e) = !decide (e ≤ d) := by by_cases h : e ≤ d <;> simp [h] <;> omega
  by_cases h2 : p = 2
  · subst h2; simp [hn]
  by_cases h3 : p = 3
  · subst h3; simp [hn]
  have : ¬ (0 ≤ p ∧ p ≤ 5) := by omega
  simp [h0, h1, h2, h3, h4, h5, this]
theorem im_IsTrip (a b c d e : Int) : Evn (fun k => impl_IsTrip.f k a b c d e) (goodT a b c d e) := by
  refine Evn.step (Evn.step ?_)
  refine Evn.of fun k => ?_
  unfold goodT
  simp only [impl_IsTrip.f, impl_IsTrip.j0, im_isTime, im_within, Option.bind_some]
  have e0 : impl_IsTrip.j1 (k + 1) a (a == 0) a b c d e = impl_IsTrip.j1 (k + 1) a (a == 0) a b c d e := rfl
  by_cases h2 : 1 ≤ b ∧ b ≤ 12
  · by_cases h3 : 0 ≤ d ∧ d ≤ 999
    · by_cases h4 : 0 ≤ e ∧ e ≤ 999
      · by_cases g0 : a = 0
        · rw [if_pos (decide_eq_true h2), if_pos (decide_eq_true h3), decide_eq_true h4, if_neg (by decide), if_pos g0, im_IsTrip_j1 k a b c d e _ (by simp [g0])]
          simp [h2, h3]
        · by_cases g4 : a = 4
          · rw [if_pos (decide_eq_true h2), if_pos (decide_eq_true h3), decide_eq_true h4, if_neg (by decide), if_neg g0, if_pos g4, im_IsTrip_j1 k a b c d e _ (by simp [g4])]
            simp [h2, h3]
          · rw [if_pos (decide_eq_true h2), if_pos (decide_eq_true h3), decide_eq_true h4, if_neg (by decide), if_neg g0, if_neg g4, im_IsTrip_j1 k a b c d e _ (by by_cases g5 : a = 5 <;> simp [g0, g4, g5])]
            simp [h2, h3]
      · simp [h2, h3, h4]
    · simp [h2, h3]
  · simp [h2]

theorem im_isTripStep (q n : Int) : impl_isTripStep.f q n = some (goodS q n) := by
  unfold impl_isTripStep.f goodS
  by_cases h4 : q = 4
  · simp [h4]
  · by_cases h5 : q = 5
    · simp [h5]
    · simp only [if_neg h4, if_neg h5, im_within, Option.bind_some, ite_and]
      rw [if_neg (by omega)]

theorem good_in {a b c d e : Int} (h : goodT a b c d e = true) : (0 ≤ a ∧ a ≤ 5) ∧ (1 ≤ b ∧ b ≤ 12) ∧ (0 ≤ d ∧ d ≤ 999) ∧ (0 ≤ e ∧ e ≤ 999) ∧ (1 ≤ a → a ≤ 3 → (1 ≤ c ∧ c ≤ b) ∧ (a = 1 ↔ e ≤ d)) ∧ (¬ (1 ≤ a ∧ a ≤ 3) → c = 0) := by
  simp only [goodT, Bool.and_eq_true, decide_eq_true_eq] at h
  obtain ⟨⟨h1, h2, h3, h4⟩, h5⟩ := h
  refine ⟨h1, h2, h3, h4, fun g1 g2 => ?_, fun g => ?_⟩
  · rw [if_pos ⟨g1, g2⟩] at h5
    simp only [Bool.and_eq_true, decide_eq_true_eq] at h5
    refine ⟨h5.1, ?_⟩
    have h6 := h5.2
    by_cases ha : a = 1 <;> by_cases hd : e ≤ d <;> simp [ha, hd] at h6 ⊢
  · rw [if_neg g] at h5
    simpa using h5
def mostT (a b c d e q : Int) : Int :=
  if q = 1 then (if (a = 0 ∨ a = 1) ∧ e < d then (if b - c = 0 then -1 else b - c) else -1)
  else if q = 2 then (if c = 0 then -1 else c) else if q = 3 then (if 999 - e = 0 then -1 else 999 - e)
  else if q = 6 then (if a = 1 then (if 999 - d = 0 then -1 else 999 - d) else -1)
  else if q = 4 then (if a = 2 then 0 else -1) else if q = 5 then (if a = 0 then 0 else -1) else -1
theorem im_most {a b c d e : Int} (h : goodT a b c d e = true) (q : Int) : Evn (fun k => impl_Trip_most.f k a b c d e q) (mostT a b c d e q) := by
  obtain ⟨h1, h2, h3, h4, h5, h6⟩ := good_in h
  have hc : 0 ≤ c ∧ c ≤ 12 := by
    by_cases g : 1 ≤ a ∧ a ≤ 3
    · have := (h5 g.1 g.2).1; omega
    · have := h6 g; omega
  refine Evn.step ?_
  refine Evn.of fun k => ?_
  have w1 : wrap64 (b - c) = b - c := wrap_id (by omega) (by omega)
  have w2 : wrap64 (999 - e) = 999 - e := wrap_id (by clear w1; omega) (by clear w1; omega)
  have w3 : wrap64 (999 - d) = 999 - d := wrap_id (by clear w1 w2; omega) (by clear w1 w2; omega)
  unfold mostT
  simp only [impl_Trip_most.f, impl_Trip_most.j0, w1, w2, w3]
  clear w1 w2 w3
  by_cases g1 : q = 1
  · simp only [if_pos g1]
    by_cases g2 : e < d
    · by_cases g3 : a = 0
      · rw [if_pos (show (a = 0 ∨ a = 1) ∧ e < d from ⟨.inl g3, g2⟩)]
        simp only [if_pos g3, decide_eq_true g2, if_true]
        split <;> rfl
      · by_cases g4 : a = 1
        · rw [if_pos (show (a = 0 ∨ a = 1) ∧ e < d from ⟨.inr g4, g2⟩)]
          simp only [if_neg g3, if_pos g4, decide_eq_true g2, if_true]
          split <;> rfl
        · rw [if_neg (show ¬ ((a = 0 ∨ a = 1) ∧ e < d) from fun h => by omega)]
          simp only [if_neg g3, if_neg g4, Bool.false_eq_true, if_false]
          rfl
    · rw [if_neg (show ¬ ((a = 0 ∨ a = 1) ∧ e < d) from fun h => g2 h.2)]
      simp only [decide_eq_false g2, Bool.false_eq_true, if_false]
      split
      · rfl
      · split <;> rfl
  · simp only [if_neg g1]
    repeat' split
    all_goals first | rfl | (exfalso; omega) | contradiction

theorem im_Trip_step {a b c d e : Int} (h : goodT a b c d e = true) {q n : Int} (hs : goodS q n = true) : Evn (fun k => impl_Trip_step.f k a b c d e q n) (only (stepT a b c d e q n)) := by
  obtain ⟨h1, h2, h3, h4, h5, h6⟩ := good_in h
  have hc : 0 ≤ c ∧ c ≤ 12 := by
    by_cases g : 1 ≤ a ∧ a ≤ 3
    · have := (h5 g.1 g.2).1; omega
    · have := h6 g; omega
  have hm := im_most h q
  have hj : ∀ low : Int, low = (if q = 4 ∨ q = 5 then 0 else 1) → Evn (fun k => impl_Trip_step.j1 k low a b c d e q n) (only (stepT a b c d e q n)) := by
    intro low hlow
    refine Evn.step ?_
    simp only [impl_Trip_step.j1]
    refine Evn.bind hm ?_
    simp only [im_within, Option.bind_some]
    refine Evn.of fun k => ?_
    unfold goodS at hs
    by_cases g1 : q = 1
    · rw [if_neg (by omega)] at hlow
      subst hlow
      have e1 : (decide (a ≤ 1) && (decide (1 ≤ n ∧ n ≤ wrap64 (b - c)) && decide (e < d))) = decide (1 ≤ n ∧ n ≤ mostT a b c d e q) := by
        rw [(wrap_id (by omega) (by omega) : wrap64 (b - c) = b - c), Bool.eq_iff_iff]
        simp only [Bool.and_eq_true, decide_eq_true_eq]
        unfold mostT
        rw [if_pos g1]
        split
        · split <;> omega
        · omega
      unfold stepT only
      simp only [if_pos g1, e1]
      split
      · rename_i hh; rw [hh]
      · rfl
    by_cases g2 : q = 2
    · rw [if_neg (by omega)] at hlow
      subst hlow
      have e1 : (decide (1 ≤ a ∧ a ≤ 3) && decide (1 ≤ n ∧ n ≤ c)) = decide (1 ≤ n ∧ n ≤ mostT a b c d e q) := by
        rw [Bool.eq_iff_iff]
        simp only [Bool.and_eq_true, decide_eq_true_eq]
        unfold mostT
        rw [if_neg g1, if_pos g2]
        by_cases g : 1 ≤ a ∧ a ≤ 3
        · split <;> omega
        · have := h6 g
          split <;> omega
      unfold stepT only
      simp only [if_neg g1, if_pos g2, e1]
      split
      · rename_i hh; rw [hh]; split <;> rfl
      · rfl
    by_cases g3 : q = 3
    · rw [if_neg (by omega)] at hlow
      subst hlow
      have e1 : decide (1 ≤ n ∧ n ≤ wrap64 (999 - e)) = decide (1 ≤ n ∧ n ≤ mostT a b c d e q) := by
        rw [(wrap_id (by omega) (by omega) : wrap64 (999 - e) = 999 - e), Bool.eq_iff_iff]
        simp only [decide_eq_true_eq]
        unfold mostT
        rw [if_neg g1, if_neg g2, if_pos g3]
        split <;> omega
      unfold stepT only
      simp only [if_neg g1, if_neg g2, if_pos g3, e1]
      split
      · rename_i hh
        rw [hh]
        by_cases ga : a = 1
        · by_cases gw : wrap64 (e + n) > d
          · rw [if_pos ga, if_pos gw, if_pos (show a = 1 ∧ wrap64 (e + n) > d from ⟨ga, gw⟩)]
          · rw [if_pos ga, if_neg gw, if_neg (show ¬ (a = 1 ∧ wrap64 (e + n) > d) from fun hx => gw hx.2)]
        · rw [if_neg ga, if_neg (show ¬ (a = 1 ∧ wrap64 (e + n) > d) from fun hx => ga hx.1)]
      · rfl
    by_cases g4 : q = 4
    · rw [if_pos (Or.inl g4)] at hlow hs
      subst hlow
      have hn : n = 0 := by simpa using hs
      have e1 : (a == 2) = decide (0 ≤ n ∧ n ≤ mostT a b c d e q) := by
        rw [Bool.eq_iff_iff]
        simp only [beq_iff_eq, decide_eq_true_eq]
        unfold mostT
        rw [if_neg g1, if_neg g2, if_neg g3, if_neg (by omega), if_pos g4]
        split <;> omega
      unfold stepT only
      simp only [if_neg g1, if_neg g2, if_neg g3, if_pos g4, e1]
      split
      · rename_i hh; rw [hh]
      · rfl
    by_cases g5 : q = 5
    · rw [if_pos (Or.inr g5)] at hlow hs
      subst hlow
      have hn : n = 0 := by simpa using hs
      have e1 : (a == 0) = decide (0 ≤ n ∧ n ≤ mostT a b c d e q) := by
        rw [Bool.eq_iff_iff]
        simp only [beq_iff_eq, decide_eq_true_eq]
        unfold mostT
        rw [if_neg g1, if_neg g2, if_neg g3, if_neg (by omega), if_neg g4, if_pos g5]
        split <;> omega
      unfold stepT only
      simp only [if_neg g1, if_neg g2, if_neg g3, if_neg g4, if_pos g5, e1]
      split
      · rename_i hh; rw [hh]
      · rfl
    · have g45 : ¬ (q = 4 ∨ q = 5) := by omega
      rw [if_neg g45] at hlow hs
      subst hlow
      have g6 : q = 6 := by
        simp only [Bool.and_eq_true, decide_eq_true_eq] at hs
        omega
      have e1 : (decide (a = 1) && decide (1 ≤ n ∧ n ≤ wrap64 (999 - d))) = decide (1 ≤ n ∧ n ≤ mostT a b c d e q) := by
        rw [(wrap_id (by omega) (by omega) : wrap64 (999 - d) = 999 - d), Bool.eq_iff_iff]
        simp only [Bool.and_eq_true, decide_eq_true_eq]
        unfold mostT
        rw [if_neg g1, if_neg g2, if_neg g3, if_pos g6]
        split
        · split <;> omega
        · omega
      unfold stepT only
      simp only [if_neg g1, if_neg g2, if_neg g3, if_neg g4, if_neg g5, if_pos g6, e1]
      split
      · rename_i hh; rw [hh]
      · rfl
  unfold impl_Trip_step.f
  refine Evn.ite (fun g4 => Evn.step ?_) (fun g4 => Evn.step ?_)
  · simp only [impl_Trip_step.j0, if_true]
    exact hj 0 (by rw [if_pos (Or.inl g4)])
  · simp only [impl_Trip_step.j0]
    refine Evn.ite (fun g5 => ?_) (fun g5 => ?_)
    · exact hj 0 (by rw [if_pos (Or.inr (by simpa using g5))])
    · exact hj 1 (by rw [if_neg (by intro hx; rcases hx with hx | hx; exact g4 hx; exact g5 (by simp [hx]))])

theorem im_StepTrip (a b c d e q n : Int) : Evn (fun k => impl_StepTrip.f k a b c d e q n) (stepTs a b c d e q n) := by
  unfold impl_StepTrip.f stepTs
  refine Evn.bind (im_IsTrip a b c d e) ?_
  simp only [im_isTripStep, Option.bind_some]
  refine Evn.ite (fun c1 => ?_) (fun c1 => by rw [if_neg (fun h => c1 h.1)]; exact Evn.done _)
  refine Evn.ite (fun c2 => ?_) (fun c2 => by rw [if_neg (fun h => c2 h.2)]; exact Evn.done _)
  rw [if_pos ⟨c1, c2⟩]
  exact Evn.bind (im_Trip_step c1 c2) (Evn.done _)

-- laws_eqTrip: as it stands

theorem FnExactStepTrip : ∀ (a0_0 : Int) (a0_1 : Int) (a0_2 : Int) (a0_3 : Int) (a0_4 : Int) (a1_0 : Int) (a1_1 : Int), (Lit.int .i64 a0_0).wf = true → (Lit.int .i64 a0_1).wf = true → (Lit.int .i64 a0_2).wf = true → (Lit.int .i64 a0_3).wf = true → (Lit.int .i64 a0_4).wf = true → (Lit.int .i64 a1_0).wf = true → (Lit.int .i64 a1_1).wf = true → ∃ k, laws_FnExactStepTrip.f k a0_0 a0_1 a0_2 a0_3 a0_4 a1_0 a1_1 = some true := by
  intro a b c d e q n _ _ _ _ _ _ _
  apply Evn.get
  simp only [laws_FnExactStepTrip.f, laws_toTrip.f, laws_toTripStep.f, Option.bind_some]
  refine Evn.bind (sp_StepTrip a b c d e q n) ?_
  refine Evn.bind (im_StepTrip a b c d e q n) ?_
  simp only [laws_eqTrip.f, if_true, Option.bind_some, bne_self_eq_false, Bool.false_eq_true, if_false]
  exact Evn.done _

end Go.Proofs.Ytmeaacbnjpgepaa.Pure
