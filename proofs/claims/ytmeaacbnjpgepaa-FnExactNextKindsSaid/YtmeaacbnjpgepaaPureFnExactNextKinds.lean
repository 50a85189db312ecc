/- The plain statement of FnExactNextKinds: its plain function returns true at every input. No condition beyond the arguments' own bounds. -/
import Derived.Test.YtmeaacbnjpgepaaQFnExactNextKindsx6
import Derived.Test.YtmeaacbnjpgepaaAid
namespace Go.Proofs.Ytmeaacbnjpgepaa.Pure
open Go.RowKit Go.Proofs.YtmeaacbnjpgepaaW.PrintWords Go.Proofs.YtmeaacbnjpgepaaW.PrintLast Go.Proofs.Ytmeaacbnjpgepaa.Aid Go.Proofs.Ytmeaacbnjpgepaa.QFnExactNextKinds
set_option linter.unusedVariables false
set_option linter.unusedSimpArgs false

-- laws_toTrip: as it stands

theorem sp_l1In (x y z : Int) : spec_l1In.f x y z = some (decide (y ≤ x ∧ x ≤ z)) := by
  unfold spec_l1In.f
  by_cases h : x ≥ y <;> simp [h] <;> omega

/-! A trip's rules. -/
def goodT (a b c d e : Int) : Bool := (decide (0 ≤ a ∧ a ≤ 5) && (decide (1 ≤ b ∧ b ≤ 12) && (decide (0 ≤ d ∧ d ≤ 999) && decide (0 ≤ e ∧ e ≤ 999)))) && (if 1 ≤ a ∧ a ≤ 3 then decide (1 ≤ c ∧ c ≤ b) && ((a == 1) == decide (e ≤ d)) else c == 0)

theorem sp_l21In (x : Int) : spec_l21In.f x = some (decide (1 ≤ x ∧ x ≤ 3)) := by
  simp only [spec_l21In.f, sp_l1In, Option.bind_some]
theorem sp_l21Time (x : Int) : spec_l21Time.f x = some (decide (0 ≤ x ∧ x ≤ 999)) := by
  simp only [spec_l21Time.f, sp_l1In, Option.bind_some]
theorem sp_l21Good (a b c d e : Int) : Evn (fun k => spec_l21Good.f k a b c d e) (goodT a b c d e) := by
  refine Evn.step ?_
  refine Evn.of fun k => ?_
  unfold goodT
  simp only [spec_l21Good.f, spec_l21Good.j0, sp_l21In, sp_l21Time, sp_l1In, Option.bind_some, ite_and]
  by_cases h1 : 0 ≤ a ∧ a ≤ 5
  · by_cases h2 : 1 ≤ b ∧ b ≤ 12
    · by_cases h3 : 0 ≤ d ∧ d ≤ 999
      · by_cases h4 : 0 ≤ e ∧ e ≤ 999
        · by_cases h5 : 1 ≤ a ∧ a ≤ 3
          · simp [h1, h2, h3, h4, h5]
          · simp [h1, h2, h3, h4, h5]
        · simp [h1, h2, h3, h4]
      · simp [h1, h2, h3]
    · simp [h1, h2]
  · simp [h1]

/-! A step of a trip: the trip behind it, and whether it is possible. -/
def stepT (a b c d e q n : Int) : Int × Int × Int × Int × Int × Bool :=
  if q = 1 then (1, b, wrap64 (c + n), d, e, decide (a ≤ 1) && (decide (1 ≤ n ∧ n ≤ wrap64 (b - c)) && decide (e < d)))
  else if q = 2 then (if wrap64 (c - n) = 0 then 4 else a, b, wrap64 (c - n), d, e, decide (1 ≤ a ∧ a ≤ 3) && decide (1 ≤ n ∧ n ≤ c))
  else if q = 3 then (if a = 1 ∧ wrap64 (e + n) > d then 2 else a, b, c, d, wrap64 (e + n), decide (1 ≤ n ∧ n ≤ wrap64 (999 - e)))
  else if q = 4 then (3, b, c, d, e, a == 2) else if q = 5 then (5, b, c, d, e, a == 0)
  else (a, b, c, wrap64 (d + n), e, decide (a = 1) && decide (1 ≤ n ∧ n ≤ wrap64 (999 - d)))
def goodS (q n : Int) : Bool := if q = 4 ∨ q = 5 then n == 0 else decide (1 ≤ q ∧ q ≤ 6) && decide (n ≥ 0)
def only (r : Int × Int × Int × Int × Int × Bool) : Int × Int × Int × Int × Int × Bool := if r.2.2.2.2.2 = true then r else (0, 0, 0, 0, 0, false)
def stepTs (a b c d e q n : Int) : Int × Int × Int × Int × Int × Bool := if goodT a b c d e = true ∧ goodS q n = true then only (stepT a b c d e q n) else (0, 0, 0, 0, 0, false)

theorem sp_l21Make (a b c d e q n : Int) : Evn (fun k => spec_l21Make.f k a b c d e q n) (stepT a b c d e q n) := by
  refine Evn.step ?_
  refine Evn.of fun k => ?_
  unfold stepT
  simp only [spec_l21Make.f, spec_l21Make.j0, sp_l1In, sp_l21In, Option.bind_some]
  by_cases h1 : q = 1
  · simp only [if_pos h1]
    by_cases g1 : a ≤ 1
    · simp only [if_pos g1, decide_eq_true g1, Bool.true_and]
      by_cases g2 : 1 ≤ n ∧ n ≤ wrap64 (b - c)
      · simp only [decide_eq_true g2, if_true, Bool.true_and]
      · simp only [decide_eq_false g2, Bool.false_eq_true, if_false, Bool.false_and]
    · simp only [if_neg g1, decide_eq_false g1, Bool.false_and]
  · simp only [if_neg h1]
    by_cases h2 : q = 2
    · simp only [if_pos h2]
      by_cases g1 : wrap64 (c - n) = 0
      · simp only [if_pos g1]
        by_cases g2 : 1 ≤ a ∧ a ≤ 3
        · simp only [decide_eq_true g2, if_true, Bool.true_and]
        · simp only [decide_eq_false g2, Bool.false_eq_true, if_false, Bool.false_and]
      · simp only [if_neg g1]
        by_cases g2 : 1 ≤ a ∧ a ≤ 3
        · simp only [decide_eq_true g2, if_true, Bool.true_and]
        · simp only [decide_eq_false g2, Bool.false_eq_true, if_false, Bool.false_and]
    · simp only [if_neg h2]
      by_cases h3 : q = 3
      · simp only [if_pos h3]
        by_cases g1 : a = 1
        · by_cases g2 : wrap64 (e + n) > d
          · rw [if_pos (show a = 1 ∧ wrap64 (e + n) > d from ⟨g1, g2⟩)]
            simp only [if_pos g1, decide_eq_true g2, if_true]
          · rw [if_neg (show ¬ (a = 1 ∧ wrap64 (e + n) > d) from fun h => g2 h.2)]
            simp only [if_pos g1, decide_eq_false g2, Bool.false_eq_true, if_false]
        · rw [if_neg (show ¬ (a = 1 ∧ wrap64 (e + n) > d) from fun h => g1 h.1)]
          simp only [if_neg g1, Bool.false_eq_true, if_false]
      · simp only [if_neg h3]
        by_cases h4 : q = 4
        · simp only [if_pos h4]
        · simp only [if_neg h4]
          by_cases h5 : q = 5
          · simp only [if_pos h5]
          · simp only [if_neg h5]
            by_cases g1 : a = 1
            · simp only [if_pos g1, decide_eq_true g1, Bool.true_and]
            · simp only [if_neg g1, decide_eq_false g1, Bool.false_and]

def canB (a b c d e q : Int) : Bool := (stepT a b c d e q (if q = 4 ∨ q = 5 then 0 else 1)).2.2.2.2.2
def kindsFrom (a b c d e : Int) : Nat → Int → List Int
  | 0, _ => []
  | D + 1, q => if canB a b c d e q = true then q :: kindsFrom a b c d e D (q + 1) else kindsFrom a b c d e D (q + 1)
theorem kindsFrom_len (a b c d e : Int) : ∀ D q, (kindsFrom a b c d e D q).length ≤ D := by
  intro D
  induction D with
  | zero => intro q; exact Nat.le_refl _
  | succ D ih =>
    intro q
    have := ih (q + 1)
    unfold kindsFrom
    split
    · rw [List.length_cons]; omega
    · omega
def nextTs (a b c d e : Int) : List Int × Bool := if goodT a b c d e = true then (kindsFrom a b c d e 6 1, true) else ([], false)
theorem sp_NextKinds_l0 (a b c d e : Int) : ∀ (D : Nat) (q : Int) (zs : List Int), q + D = 7 → 1 ≤ q → (zs.length : Int) ≤ q → Evn (fun k => spec_NextKinds.l0 k zs q a b c d e) (zs ++ kindsFrom a b c d e D q, true) := by
  intro D
  induction D with
  | zero =>
    intro q zs h _ _
    refine Evn.step ?_
    have h1 : ¬ q ≤ 6 := by omega
    simp only [spec_NextKinds.l0, if_neg h1, kindsFrom, List.append_nil]
    exact Evn.done _
  | succ D ih =>
    intro q zs h h0 hz
    have h1 : q ≤ 6 := by omega
    have hw : wrap64 (q + 1) = q + 1 := wrap_id (by omega) (by omega)
    have yes : canB a b c d e q = true → Evn (fun k => if zs.length < 17592186044416 then spec_NextKinds.l0 k (zs ++ [q]) (q + 1) a b c d e else none) (zs ++ kindsFrom a b c d e (D + 1) q, true) := by
      intro hc
      simp only [kindsFrom, hc, if_true]
      refine Evn.ite (fun _ => ?_) (fun c => absurd (by clear hw; omega) c)
      have h3 := ih (q + 1) (zs ++ [q]) (by clear hw; omega) (by clear hw; omega) (by rw [List.length_append, List.length_singleton]; clear hw; omega)
      rw [List.append_assoc] at h3
      exact h3
    have no : canB a b c d e q = false → Evn (fun k => spec_NextKinds.l0 k zs (q + 1) a b c d e) (zs ++ kindsFrom a b c d e (D + 1) q, true) := by
      intro hc
      simp only [kindsFrom, hc, Bool.false_eq_true, if_false]
      exact ih (q + 1) zs (by clear hw; omega) (by clear hw; omega) (by clear hw; omega)
    have key : ∀ t : Bool, t = decide (q = 4 ∨ q = 5) → Evn (fun k => spec_NextKinds.j1 k zs q t a b c d e q 1) (zs ++ kindsFrom a b c d e (D + 1) q, true) := by
      intro t ht
      refine Evn.step ?_
      simp only [spec_NextKinds.j1, hw]
      clear hw
      refine Evn.ite (fun c1 => ?_) (fun c1 => ?_)
      · rw [ht, decide_eq_true_eq] at c1
        refine Evn.bind (sp_l21Make a b c d e q 0) ?_
        have e1 : canB a b c d e q = (stepT a b c d e q 0).2.2.2.2.2 := by unfold canB; rw [if_pos c1]
        exact Evn.ite (fun c2 => yes (by rw [e1]; exact c2)) (fun c2 => no (by rw [e1]; exact Bool.eq_false_iff.mpr c2))
      · rw [ht, decide_eq_true_eq] at c1
        refine Evn.bind (sp_l21Make a b c d e q 1) ?_
        have e1 : canB a b c d e q = (stepT a b c d e q 1).2.2.2.2.2 := by unfold canB; rw [if_neg c1]
        exact Evn.ite (fun c2 => yes (by rw [e1]; exact c2)) (fun c2 => no (by rw [e1]; exact Bool.eq_false_iff.mpr c2))
    refine Evn.step ?_
    simp only [spec_NextKinds.l0, if_pos h1]
    refine Evn.ite (fun c => key true (by rw [decide_eq_true (Or.inl c)])) (fun c => key (q == 5) ?_)
    by_cases c5 : q = 5
    · rw [decide_eq_true (Or.inr c5)]; exact beq_iff_eq.2 c5
    · rw [decide_eq_false (by omega)]; exact beq_eq_false_iff_ne.2 c5
theorem sp_NextKinds (a b c d e : Int) : Evn (fun k => spec_NextKinds.f k a b c d e) (nextTs a b c d e) := by
  unfold spec_NextKinds.f nextTs
  simp only [Option.bind_some]
  refine Evn.bind (sp_l21Good a b c d e) ?_
  refine Evn.ite (fun c1 => ?_) (fun c1 => by rw [if_neg c1]; exact Evn.done _)
  rw [if_pos c1]
  have h := sp_NextKinds_l0 a b c d e 6 1 [] (by omega) (by omega) (by simp)
  simpa using h

theorem im_within (x y z : Int) : impl_within.f x y z = some (decide (y ≤ x ∧ x ≤ z)) := by
  unfold impl_within.f
  by_cases h : x ≥ y <;> simp [h] <;> omega

theorem im_isTime (x : Int) : impl_isTime.f x = some (decide (0 ≤ x ∧ x ≤ 999)) := by
  simp only [impl_isTime.f, im_within, Option.bind_some]
theorem im_IsTrip_j1 (k : Nat) (p b c d e : Int) (q : Bool) (hq : q = decide (p = 0 ∨ p = 4 ∨ p = 5)) : impl_IsTrip.j1 (k + 1) p q p b c d e = some (decide (0 ≤ p ∧ p ≤ 5) && (if 1 ≤ p ∧ p ≤ 3 then decide (1 ≤ c ∧ c ≤ b) && ((p == 1) == decide (e ≤ d)) else c == 0)) := by
  subst hq
  simp only [impl_IsTrip.j1, im_within, Option.bind_some, ite_and]
  by_cases h0 : p = 0
  · subst h0; simp
  by_cases h4 : p = 4
  · subst h4; simp
  by_cases h5 : p = 5
  · subst h5; simp
  by_cases h1 : p = 1
  · subst h1; simp
  have hn : decide (d < e) = !decide (e ≤ d) := by by_cases h : e ≤ d <;> simp [h] <;> omega
  by_cases h2 : p = 2
  · subst h2; simp [hn]
  by_cases h3 : p = 3
  · subst h3; simp [hn]
  have : ¬ (0 ≤ p ∧ p ≤ 5) := by omega
  simp [h0, h1, h2, h3, h4, h5, this]
theorem im_IsTrip (a b c d e : Int) : Evn (fun k => impl_IsTrip.f k a b c d e) (goodT a b c d e) := by
  refine Evn.step (Evn.step ?_)
  refine Evn.of fun k => ?_
  unfold goodT
  simp only [impl_IsTrip.f, impl_IsTrip.j0, im_isTime, im_within, Option.bind_some]
  have e0 : impl_IsTrip.j1 (k + 1) a (a == 0) a b c d e = impl_IsTrip.j1 (k + 1) a (a == 0) a b c d e := rfl
  by_cases h2 : 1 ≤ b ∧ b ≤ 12
  · by_cases h3 : 0 ≤ d ∧ d ≤ 999
    · by_cases h4 : 0 ≤ e ∧ e ≤ 999
      · by_cases g0 : a = 0
        · rw [if_pos (decide_eq_true h2), if_pos (decide_eq_true h3), decide_eq_true h4, if_neg (by decide), if_pos g0, im_IsTrip_j1 k a b c d e _ (by simp [g0])]
          simp [h2, h3]
        · by_cases g4 : a = 4
          · rw [if_pos (decide_eq_true h2), if_pos (decide_eq_true h3), decide_eq_true h4, if_neg (by decide), if_neg g0, if_pos g4, im_IsTrip_j1 k a b c d e _ (by simp [g4])]
            simp [h2, h3]
          · rw [if_pos (decide_eq_true h2), if_pos (decide_eq_true h3), decide_eq_true h4, if_neg (by decide), if_neg g0, if_neg g4, im_IsTrip_j1 k a b c d e _ (by by_cases g5 : a = 5 <;> simp [g0, g4, g5])]
            simp [h2, h3]
      · simp [h2, h3, h4]
    · simp [h2, h3]
  · simp [h2]

theorem good_in {a b c d e : Int} (h : goodT a b c d e = true) : (0 ≤ a ∧ a ≤ 5) ∧ (1 ≤ b ∧ b ≤ 12) ∧ (0 ≤ d ∧ d ≤ 999) ∧ (0 ≤ e ∧ e ≤ 999) ∧ (1 ≤ a → a ≤ 3 → (1 ≤ c ∧ c ≤ b) ∧ (a = 1 ↔ e ≤ d)) ∧ (¬ (1 ≤ a ∧ a ≤ 3) → c = 0) := by
  simp only [goodT, Bool.and_eq_true, decide_eq_true_eq] at h
  obtain ⟨⟨h1, h2, h3, h4⟩, h5⟩ := h
  refine ⟨h1, h2, h3, h4, fun g1 g2 => ?_, fun g => ?_⟩
  · rw [if_pos ⟨g1, g2⟩] at h5
    simp only [Bool.and_eq_true, decide_eq_true_eq] at h5
    refine ⟨h5.1, ?_⟩
    have h6 := h5.2
    by_cases ha : a = 1 <;> by_cases hd : e ≤ d <;> simp [ha, hd] at h6 ⊢
  · rw [if_neg g] at h5
    simpa using h5
def mostT (a b c d e q : Int) : Int :=
  if q = 1 then (if (a = 0 ∨ a = 1) ∧ e < d then (if b - c = 0 then -1 else b - c) else -1)
  else if q = 2 then (if c = 0 then -1 else c) else if q = 3 then (if 999 - e = 0 then -1 else 999 - e)
  else if q = 6 then (if a = 1 then (if 999 - d = 0 then -1 else 999 - d) else -1)
  else if q = 4 then (if a = 2 then 0 else -1) else if q = 5 then (if a = 0 then 0 else -1) else -1
theorem im_most {a b c d e : Int} (h : goodT a b c d e = true) (q : Int) : Evn (fun k => impl_Trip_most.f k a b c d e q) (mostT a b c d e q) := by
  obtain ⟨h1, h2, h3, h4, h5, h6⟩ := good_in h
  have hc : 0 ≤ c ∧ c ≤ 12 := by
    by_cases g : 1 ≤ a ∧ a ≤ 3
    · have := (h5 g.1 g.2).1; omega
    · have := h6 g; omega
  refine Evn.step ?_
  refine Evn.of fun k => ?_
  have w1 : wrap64 (b - c) = b - c := wrap_id (by omega) (by omega)
  have w2 : wrap64 (999 - e) = 999 - e := wrap_id (by clear w1; omega) (by clear w1; omega)
  have w3 : wrap64 (999 - d) = 999 - d := wrap_id (by clear w1 w2; omega) (by clear w1 w2; omega)
  unfold mostT
  simp only [impl_Trip_most.f, impl_Trip_most.j0, w1, w2, w3]
  clear w1 w2 w3
  by_cases g1 : q = 1
  · simp only [if_pos g1]
    by_cases g2 : e < d
    · by_cases g3 : a = 0
      · rw [if_pos (show (a = 0 ∨ a = 1) ∧ e < d from ⟨.inl g3, g2⟩)]
        simp only [if_pos g3, decide_eq_true g2, if_true]
        split <;> rfl
      · by_cases g4 : a = 1
        · rw [if_pos (show (a = 0 ∨ a = 1) ∧ e < d from ⟨.inr g4, g2⟩)]
          simp only [if_neg g3, if_pos g4, decide_eq_true g2, if_true]
          split <;> rfl
        · rw [if_neg (show ¬ ((a = 0 ∨ a = 1) ∧ e < d) from fun h => by omega)]
          simp only [if_neg g3, if_neg g4, Bool.false_eq_true, if_false]
          rfl
    · rw [if_neg (show ¬ ((a = 0 ∨ a = 1) ∧ e < d) from fun h => g2 h.2)]
      simp only [decide_eq_false g2, Bool.false_eq_true, if_false]
      split
      · rfl
      · split <;> rfl
  · simp only [if_neg g1]
    repeat' split
    all_goals first | rfl | (exfalso; omega) | contradiction

theorem most_can {a b c d e : Int} (h : goodT a b c d e = true) (q : Int) (hq : 1 ≤ q ∧ q ≤ 6) : canB a b c d e q = decide (mostT a b c d e q ≥ 0) := by
  obtain ⟨h1, h2, h3, h4, h5, h6⟩ := good_in h
  have hc : 0 ≤ c ∧ c ≤ 12 := by
    by_cases g : 1 ≤ a ∧ a ≤ 3
    · have := (h5 g.1 g.2).1; omega
    · have := h6 g; omega
  have w1 : wrap64 (b - c) = b - c := wrap_id (by omega) (by omega)
  have w2 : wrap64 (999 - e) = 999 - e := wrap_id (by clear w1; omega) (by clear w1; omega)
  have w3 : wrap64 (999 - d) = 999 - d := wrap_id (by clear w1 w2; omega) (by clear w1 w2; omega)
  unfold canB stepT mostT
  rw [w1, w2, w3, Bool.eq_iff_iff, decide_eq_true_eq]
  clear w1 w2 w3
  by_cases g1 : q = 1
  · rw [if_neg (show ¬ (q = 4 ∨ q = 5) by omega), if_pos g1, if_pos g1]
    simp only [Bool.and_eq_true, decide_eq_true_eq]
    split
    · split <;> omega
    · omega
  by_cases g2 : q = 2
  · rw [if_neg (show ¬ (q = 4 ∨ q = 5) by omega), if_neg g1, if_pos g2, if_neg g1, if_pos g2]
    simp only [Bool.and_eq_true, decide_eq_true_eq]
    by_cases g : 1 ≤ a ∧ a ≤ 3
    · have := h5 g.1 g.2
      split <;> omega
    · have := h6 g
      split <;> omega
  by_cases g3 : q = 3
  · rw [if_neg (show ¬ (q = 4 ∨ q = 5) by omega), if_neg g1, if_neg g2, if_pos g3, if_neg g1, if_neg g2, if_pos g3]
    simp only [decide_eq_true_eq]
    split <;> omega
  by_cases g4 : q = 4
  · rw [if_pos (show (q = 4 ∨ q = 5) by omega), if_neg g1, if_neg g2, if_neg g3, if_pos g4, if_neg g1, if_neg g2, if_neg g3, if_neg (show ¬ q = 6 by omega), if_pos g4]
    simp only [beq_iff_eq]
    split <;> omega
  by_cases g5 : q = 5
  · rw [if_pos (show (q = 4 ∨ q = 5) by omega), if_neg g1, if_neg g2, if_neg g3, if_neg g4, if_pos g5, if_neg g1, if_neg g2, if_neg g3, if_neg (show ¬ q = 6 by omega), if_neg g4, if_pos g5]
    simp only [beq_iff_eq]
    split <;> omega
  · have g6 : q = 6 := by omega
    rw [if_neg (show ¬ (q = 4 ∨ q = 5) by omega), if_neg g1, if_neg g2, if_neg g3, if_neg g4, if_neg g5, if_neg g1, if_neg g2, if_neg g3, if_pos g6]
    simp only [Bool.and_eq_true, decide_eq_true_eq]
    split
    · split <;> omega
    · omega
theorem im_NextKinds_l0 {a b c d e : Int} (hg : goodT a b c d e = true) : ∀ (D : Nat) (q : Int) (zs : List Int), q + D = 7 → 1 ≤ q → (zs.length : Int) ≤ q → Evn (fun k => impl_NextKinds.l0 k zs q a b c d e) (zs ++ kindsFrom a b c d e D q, true) := by
  intro D
  induction D with
  | zero =>
    intro q zs h _ _
    refine Evn.step ?_
    have h1 : ¬ q ≤ 6 := by omega
    simp only [impl_NextKinds.l0, if_neg h1, kindsFrom, List.append_nil]
    exact Evn.done _
  | succ D ih =>
    intro q zs h h0 hz
    have h1 : q ≤ 6 := by omega
    have hw : wrap64 (q + 1) = q + 1 := wrap_id (by omega) (by omega)
    refine Evn.step ?_
    simp only [impl_NextKinds.l0, if_pos h1, hw]
    clear hw
    refine Evn.bind (im_most hg q) ?_
    have e1 := most_can hg q ⟨h0, h1⟩
    refine Evn.ite (fun c1 => ?_) (fun c1 => ?_)
    · rw [decide_eq_true c1] at e1
      simp only [kindsFrom, e1, if_true]
      refine Evn.ite (fun _ => ?_) (fun c => absurd (by omega) c)
      have h3 := ih (q + 1) (zs ++ [q]) (by omega) (by omega) (by rw [List.length_append, List.length_singleton]; omega)
      rw [List.append_assoc] at h3
      exact h3
    · rw [decide_eq_false c1] at e1
      simp only [kindsFrom, e1, Bool.false_eq_true, if_false]
      exact ih (q + 1) zs (by omega) (by omega) (by omega)
theorem im_NextKinds (a b c d e : Int) : Evn (fun k => impl_NextKinds.f k a b c d e) (nextTs a b c d e) := by
  unfold impl_NextKinds.f nextTs
  refine Evn.bind (im_IsTrip a b c d e) ?_
  refine Evn.ite (fun c1 => ?_) (fun c1 => by rw [if_neg c1]; exact Evn.done _)
  rw [if_pos c1]
  have h := im_NextKinds_l0 c1 6 1 [] (by omega) (by omega) (by simp)
  simpa using h

theorem ev_eqIntS_l0 (xs : List Int) (hx : xs.length ≤ 4194304) : ∀ (d i : Nat), i + d = xs.length → Evn (fun k => laws_eqIntS.l0 k xs xs (i : Int)) true := by
  intro d
  induction d with
  | zero =>
    intro i h
    refine Evn.step ?_
    have h1 : ¬ (i : Int) < (xs.length : Int) := by omega
    simp only [laws_eqIntS.l0, if_neg h1]
    exact Evn.done _
  | succ d ih =>
    intro i h
    refine Evn.step ?_
    have h1 : (i : Int) < (xs.length : Int) := by omega
    have h2 : 0 ≤ (i : Int) := by omega
    simp only [laws_eqIntS.l0, if_pos h1, if_pos h2, if_true, wrap_succ (show i < 4611686018427387904 by omega)]
    exact ih (i + 1) (by omega)
theorem ev_eqIntS (xs : List Int) (hx : xs.length ≤ 4194304) : Evn (fun k => laws_eqIntS.f k xs xs) true := by
  simp only [laws_eqIntS.f, if_true]
  exact ev_eqIntS_l0 xs hx xs.length 0 (by omega)

/-! The marks: a, a + 1, .. -/
def marksI (a : Int) : Nat → List Int
  | 0 => []
  | n + 1 => marksI a n ++ [a + n]
theorem marksI_len (a : Int) (n : Nat) : (marksI a n).length = n := by
  induction n with
  | zero => rfl
  | succ n ih => simp [marksI, ih]
theorem marksI_get (a : Int) (n : Nat) : ∀ i, i < n → (marksI a n).getD i 0 = a + i := by
  induction n with
  | zero => intro i h; omega
  | succ n ih =>
    intro i h
    rw [marksI, List.getD_eq_getElem?_getD]
    rcases Nat.lt_or_ge i n with hi | hi
    · rw [List.getElem?_append_left (by rw [marksI_len]; exact hi), ← List.getD_eq_getElem?_getD]
      exact ih i hi
    · obtain rfl : i = n := by omega
      rw [List.getElem?_append_right (by rw [marksI_len]; omega), marksI_len]
      simp
theorem ev_markIntS_l0 (a : Int) (ha : 0 ≤ a) (ha2 : a ≤ 1099511627776) (n : Nat) (hn : n ≤ 4194304) : ∀ (d i : Nat) (ys : List Int), i + d = n → ys.length = n → ys.take i = marksI a i → Evn (fun k => laws_markIntS.l0 k ys (a + i) (i : Int)) (a + n, marksI a n) := by
  intro d
  induction d with
  | zero =>
    intro i ys h hy ht
    refine Evn.step ?_
    have h1 : ¬ (i : Int) < (ys.length : Int) := by omega
    simp only [laws_markIntS.l0, if_neg h1]
    obtain rfl : i = n := by omega
    rw [List.take_of_length_le (by omega)] at ht
    rw [ht]
    exact Evn.done _
  | succ d ih =>
    intro i ys h hy ht
    refine Evn.step ?_
    have h1 : (i : Int) < (ys.length : Int) := by omega
    have h2 : 0 ≤ (i : Int) := by omega
    have e : wrap64 (a + i + 1) = a + ((i + 1 : Nat) : Int) := by rw [wrap_id (by omega) (by omega)]; omega
    simp only [laws_markIntS.l0, if_pos h1, if_pos h2, Int.toNat_natCast, e, wrap_succ (show i < 4611686018427387904 by omega)]
    exact ih (i + 1) _ (by omega) (by simpa using hy) (by rw [set_take _ _ _ (by omega), ht, marksI])
theorem ev_markIntS (ys : List Int) (a : Int) (ha : 0 ≤ a) (ha2 : a ≤ 1099511627776) (hn : ys.length ≤ 4194304) : Evn (fun k => laws_markIntS.f k ys a) (a + ys.length, marksI a ys.length) := by
  have h := ev_markIntS_l0 a ha ha2 ys.length hn ys.length 0 ys (by omega) rfl rfl
  simpa [laws_markIntS.f] using h

theorem ev_heldIntS_l0 (a : Int) (ha : 0 ≤ a) (ha2 : a ≤ 1099511627776) (n : Nat) (hn : n ≤ 4194304) : ∀ (d i : Nat), i + d = n → Evn (fun k => laws_heldIntS.l0 k (marksI a n) (a + i) (i : Int)) (a + n) := by
  intro d
  induction d with
  | zero =>
    intro i h
    refine Evn.step ?_
    have h1 : ¬ (i : Int) < ((marksI a n).length : Int) := by rw [marksI_len]; omega
    simp only [laws_heldIntS.l0, if_neg h1]
    obtain rfl : i = n := by omega
    exact Evn.done _
  | succ d ih =>
    intro i h
    refine Evn.step ?_
    have h1 : (i : Int) < ((marksI a n).length : Int) := by rw [marksI_len]; omega
    have h2 : 0 ≤ (i : Int) := by omega
    have h3 : rd (marksI a n) (i : Int) = a + i := by unfold rd; rw [Int.toNat_natCast]; exact marksI_get a n i (by omega)
    have e : wrap64 (a + i + 1) = a + ((i + 1 : Nat) : Int) := by rw [wrap_id (by omega) (by omega)]; omega
    simp only [laws_heldIntS.l0, if_pos h1, if_pos h2, if_pos h3, e, wrap_succ (show i < 4611686018427387904 by omega)]
    exact ih (i + 1) (by omega)
theorem ev_heldIntS (n : Nat) (a : Int) (ha : 0 ≤ a) (ha2 : a ≤ 1099511627776) (hn : n ≤ 4194304) : Evn (fun k => laws_heldIntS.f k (marksI a n) a) (a + n) := by
  have h := ev_heldIntS_l0 a ha ha2 n hn n 0 (by omega)
  simpa [laws_heldIntS.f] using h

theorem FnExactNextKinds : ∀ (a0_0 : Int) (a0_1 : Int) (a0_2 : Int) (a0_3 : Int) (a0_4 : Int), (Lit.int .i64 a0_0).wf = true → (Lit.int .i64 a0_1).wf = true → (Lit.int .i64 a0_2).wf = true → (Lit.int .i64 a0_3).wf = true → (Lit.int .i64 a0_4).wf = true → ∃ k, laws_FnExactNextKinds.f k a0_0 a0_1 a0_2 a0_3 a0_4 = some true := by
  intro a b c d e _ _ _ _ _
  apply Evn.get
  unfold laws_FnExactNextKinds.f
  simp only [laws_toTrip.f, Option.bind_some]
  have hs := sp_NextKinds a b c d e
  have hi := im_NextKinds a b c d e
  have hr : (nextTs a b c d e).1.length ≤ 4194304 := by
    unfold nextTs
    split
    · have := kindsFrom_len a b c d e 6 1
      dsimp only
      omega
    · simp
  generalize nextTs a b c d e = r at hs hi hr
  refine Evn.bind hs ?_
  refine Evn.bind hi ?_
  refine Evn.bind (ev_eqIntS _ hr) ?_
  simp only [if_true, bne_self_eq_false]
  refine Evn.step ?_
  simp only [laws_FnExactNextKinds.j0, Bool.false_eq_true, if_false, laws_toTrip.f, Option.bind_some]
  repeat (first
    | exact Evn.done _
    | simp only [if_true, bne_self_eq_false, Bool.false_eq_true, if_false]
    | refine Evn.bind hs ?_
    | refine Evn.bind hi ?_
    | refine Evn.bind (ev_toIntS _ (by assumption)) ?_
    | refine Evn.bind (ev_eqIntS _ (by assumption)) ?_
    | refine Evn.bind (ev_markIntS _ _ (by omega) (by omega) (by first | assumption | omega)) ?_
    | refine Evn.bind (ev_heldIntS _ _ (by omega) (by omega) (by first | assumption | omega)) ?_
    | refine Evn.ite (fun h_ => absurd h_ (by first | omega | decide)) (fun _ => ?_)
    | refine Evn.ite (fun _ => ?_) (fun h_ => absurd (by first | rfl | omega) h_)
    | dsimp only
    | (refine Evn.step ?_; simp only [laws_FnExactNextKinds.j0])
    | (refine Evn.step ?_; simp only [laws_FnExactNextKinds.j1]))

end Go.Proofs.Ytmeaacbnjpgepaa.Pure
