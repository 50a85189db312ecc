/- The plain statement of FnExactRunTrip: its plain function returns true at every input. No condition beyond the arguments' own bounds. -/
import Derived.Test.YtmeaacbnjpgepaaQFnExactRunTripx9
import Derived.Test.YtmeaacbnjpgepaaVrAid
namespace Go.Proofs.Ytmeaacbnjpgepaa.Pure
open Go.RowKit Go.Proofs.YtmeaacbnjpgepaaW.PrintWords Go.Proofs.YtmeaacbnjpgepaaW.PrintLast Go.Proofs.Ytmeaacbnjpgepaa.Aid Go.Proofs.Ytmeaacbnjpgepaa.QFnExactRunTrip
set_option linter.unusedVariables false
set_option linter.unusedSimpArgs false

-- laws_toTrip: as it stands

-- laws_eqTrip: as it stands

theorem ev_szTripStepS (l : List S46) (q : Int) : laws_szTripStepS.f l q = some (if wrap64 (q - (l.length : Int)) < 0 then -1 else wrap64 (q - (l.length : Int))) := by
  unfold laws_szTripStepS.f
  split <;> rfl

theorem sp_l1In (x y z : Int) : spec_l1In.f x y z = some (decide (y ≤ x ∧ x ≤ z)) := by
  unfold spec_l1In.f
  by_cases h : x ≥ y <;> simp [h] <;> omega

/-! A trip's rules. -/
def goodT (a b c d e : Int) : Bool := (decide (0 ≤ a ∧ a ≤ 5) && (decide (1 ≤ b ∧ b ≤ 12) && (decide (0 ≤ d ∧ d ≤ 999) && decide (0 ≤ e ∧ e ≤ 999)))) && (if 1 ≤ a ∧ a ≤ 3 then decide (1 ≤ c ∧ c ≤ b) && ((a == 1) == decide (e ≤ d)) else c == 0)

theorem sp_l21In (x : Int) : spec_l21In.f x = some (decide (1 ≤ x ∧ x ≤ 3)) := by
  simp only [spec_l21In.f, sp_l1In, Option.bind_some]
theorem sp_l21Time (x : Int) : spec_l21Time.f x = some (decide (0 ≤ x ∧ x ≤ 999)) := by
  simp only [spec_l21Time.f, sp_l1In, Option.bind_some]
theorem sp_l21Good (a b c d e : Int) : Evn (fun k => spec_l21Good.f k a b c d e) (goodT a b c d e) := by
  refine Evn.step ?_
  refine Evn.of fun k => ?_
  unfold goodT
  simp only [spec_l21Good.f, spec_l21Good.j0, sp_l21In, sp_l21Time, sp_l1In, Option.bind_some, ite_and]
  by_cases h1 : 0 ≤ a ∧ a ≤ 5
  · by_cases h2 : 1 ≤ b ∧ b ≤ 12
    · by_cases h3 : 0 ≤ d ∧ d ≤ 999
      · by_cases h4 : 0 ≤ e ∧ e ≤ 999
        · by_cases h5 : 1 ≤ a ∧ a ≤ 3
          · simp [h1, h2, h3, h4, h5]
          · simp [h1, h2, h3, h4, h5]
        · simp [h1, h2, h3, h4]
      · simp [h1, h2, h3]
    · simp [h1, h2]
  · simp [h1]

/-! A step of a trip: the trip behind it, and whether it is possible. -/
def stepT (a b c d e q n : Int) : Int × Int × Int × Int × Int × Bool :=
  if q = 1 then (1, b, wrap64 (c + n), d, e, decide (a ≤ 1) && (decide (1 ≤ n ∧ n ≤ wrap64 (b - c)) && decide (e < d)))
  else if q = 2 then (if wrap64 (c - n) = 0 then 4 else a, b, wrap64 (c - n), d, e, decide (1 ≤ a ∧ a ≤ 3) && decide (1 ≤ n ∧ n ≤ c))
  else if q = 3 then (if a = 1 ∧ wrap64 (e + n) > d then 2 else a, b, c, d, wrap64 (e + n), decide (1 ≤ n ∧ n ≤ wrap64 (999 - e)))
  else if q = 4 then (3, b, c, d, e, a == 2) else if q = 5 then (5, b, c, d, e, a == 0)
  else (a, b, c, wrap64 (d + n), e, decide (a = 1) && decide (1 ≤ n ∧ n ≤ wrap64 (999 - d)))
def goodS (q n : Int) : Bool := if q = 4 ∨ q = 5 then n == 0 else decide (1 ≤ q ∧ q ≤ 6) && decide (n ≥ 0)
def only (r : Int × Int × Int × Int × Int × Bool) : Int × Int × Int × Int × Int × Bool := if r.2.2.2.2.2 = true then r else (0, 0, 0, 0, 0, false)
def stepTs (a b c d e q n : Int) : Int × Int × Int × Int × Int × Bool := if goodT a b c d e = true ∧ goodS q n = true then only (stepT a b c d e q n) else (0, 0, 0, 0, 0, false)

theorem sp_l21Make (a b c d e q n : Int) : Evn (fun k => spec_l21Make.f k a b c d e q n) (stepT a b c d e q n) := by
  refine Evn.step ?_
  refine Evn.of fun k => ?_
  unfold stepT
  simp only [spec_l21Make.f, spec_l21Make.j0, sp_l1In, sp_l21In, Option.bind_some]
  by_cases h1 : q = 1
  · simp only [if_pos h1]
    by_cases g1 : a ≤ 1
    · simp only [if_pos g1, decide_eq_true g1, Bool.true_and]
      by_cases g2 : 1 ≤ n ∧ n ≤ wrap64 (b - c)
      · simp only [decide_eq_true g2, if_true, Bool.true_and]
      · simp only [decide_eq_false g2, Bool.false_eq_true, if_false, Bool.false_and]
    · simp only [if_neg g1, decide_eq_false g1, Bool.false_and]
  · simp only [if_neg h1]
    by_cases h2 : q = 2
    · simp only [if_pos h2]
      by_cases g1 : wrap64 (c - n) = 0
      · simp only [if_pos g1]
        by_cases g2 : 1 ≤ a ∧ a ≤ 3
        · simp only [decide_eq_true g2, if_true, Bool.true_and]
        · simp only [decide_eq_false g2, Bool.false_eq_true, if_false, Bool.false_and]
      · simp only [if_neg g1]
        by_cases g2 : 1 ≤ a ∧ a ≤ 3
        · simp only [decide_eq_true g2, if_true, Bool.true_and]
        · simp only [decide_eq_false g2, Bool.false_eq_true, if_false, Bool.false_and]
    · simp only [if_neg h2]
      by_cases h3 : q = 3
      · simp only [if_pos h3]
        by_cases g1 : a = 1
        · by_cases g2 : wrap64 (e + n) > d
          · rw [if_pos (show a = 1 ∧ wrap64 (e + n) > d from ⟨g1, g2⟩)]
            simp only [if_pos g1, decide_eq_true g2, if_true]
          · rw [if_neg (show ¬ (a = 1 ∧ wrap64 (e + n) > d) from fun h => g2 h.2)]
            simp only [if_pos g1, decide_eq_false g2, Bool.false_eq_true, if_false]
        · rw [if_neg (show ¬ (a = 1 ∧ wrap64 (e + n) > d) from fun h => g1 h.1)]
          simp only [if_neg g1, Bool.false_eq_true, if_false]
      · simp only [if_neg h3]
        by_cases h4 : q = 4
        · simp only [if_pos h4]
        · simp only [if_neg h4]
          by_cases h5 : q = 5
          · simp only [if_pos h5]
          · simp only [if_neg h5]
            by_cases g1 : a = 1
            · simp only [if_pos g1, decide_eq_true g1, Bool.true_and]
            · simp only [if_neg g1, decide_eq_false g1, Bool.false_and]

theorem sp_l21Step (q n : Int) : spec_l21Step.f q n = some (goodS q n) := by
  unfold spec_l21Step.f goodS
  by_cases h4 : q = 4
  · simp [h4]
  · by_cases h5 : q = 5
    · simp [h5]
    · simp only [if_neg h4, if_neg h5, sp_l1In, Option.bind_some, ite_and]
      rw [if_neg (by omega)]

theorem good_of {a b c d e : Int} (h1 : 0 ≤ a ∧ a ≤ 5) (h2 : 1 ≤ b ∧ b ≤ 12) (h3 : 0 ≤ d ∧ d ≤ 999) (h4 : 0 ≤ e ∧ e ≤ 999) (h5 : 1 ≤ a → a ≤ 3 → (1 ≤ c ∧ c ≤ b) ∧ (a = 1 ↔ e ≤ d)) (h6 : ¬ (1 ≤ a ∧ a ≤ 3) → c = 0) : goodT a b c d e = true := by
  simp only [goodT, Bool.and_eq_true, decide_eq_true_eq]
  refine ⟨⟨h1, h2, h3, h4⟩, ?_⟩
  by_cases g : 1 ≤ a ∧ a ≤ 3
  · rw [if_pos g]
    obtain ⟨p, q⟩ := h5 g.1 g.2
    have e1 : ((a == 1) == decide (e ≤ d)) = true := by rw [beq_iff_eq, Bool.eq_iff_iff, beq_iff_eq, decide_eq_true_eq]; exact q
    rw [decide_eq_true p, e1]
    rfl
  · rw [if_neg g]; exact beq_iff_eq.2 (h6 g)
def runT (xs : List S49) : Nat → Nat → Int → Int → Int → Int → Int → Int → Int × Int × Int × Int × Int × Int × Bool
  | 0, _, a, b, c, d, e, m => (a, b, c, d, e, m, true)
  | k + 1, i, a, b, c, d, e, m =>
    if (stepT a b c d e (xs.getD i z49).f0 (xs.getD i z49).f1).2.2.2.2.2 = true then
      runT xs k (i + 1) (stepT a b c d e (xs.getD i z49).f0 (xs.getD i z49).f1).1 (stepT a b c d e (xs.getD i z49).f0 (xs.getD i z49).f1).2.1 (stepT a b c d e (xs.getD i z49).f0 (xs.getD i z49).f1).2.2.1 (stepT a b c d e (xs.getD i z49).f0 (xs.getD i z49).f1).2.2.2.1 (stepT a b c d e (xs.getD i z49).f0 (xs.getD i z49).f1).2.2.2.2.1 (m + 1)
    else runT xs k (i + 1) a b c d e m
def runTs (a b c d e : Int) (xs : List S49) : Int × Int × Int × Int × Int × Int × Bool :=
  if goodT a b c d e = true ∧ xs.length ≤ 20 ∧ (xs.all fun x => goodS x.f0 x.f1) = true then runT xs xs.length 0 a b c d e 0 else (0, 0, 0, 0, 0, 0, false)

theorem sp_RunTrip_l1 (xs : List S49) (hx : xs.length ≤ 1048576) : ∀ (D i : Nat) (m a b c d e : Int), i + D = xs.length → 0 ≤ m → m ≤ i → Evn (fun k => spec_RunTrip.l1 k xs m (i : Int) a b c d e) (runT xs D i a b c d e m) := by
  intro D
  induction D with
  | zero =>
    intro i m a b c d e h _ _
    refine Evn.step ?_
    have h1 : ¬ (i : Int) < (xs.length : Int) := by omega
    simp only [spec_RunTrip.l1, if_neg h1, runT]
    exact Evn.done _
  | succ D ih =>
    intro i m a b c d e h h0 hm
    have h1 : (i : Int) < (xs.length : Int) := by omega
    have h2 : 0 ≤ (i : Int) := by omega
    have hw := wrap_succ (show i < 4611686018427387904 by omega)
    have hw2 : wrap64 (m + 1) = m + 1 := wrap_id (by clear hw; omega) (by clear hw; omega)
    refine Evn.step ?_
    simp only [spec_RunTrip.l1, if_pos h1, if_pos h2, hw, hw2, rd_T49, Int.toNat_natCast]
    clear hw hw2
    refine Evn.bind (sp_l21Make a b c d e _ _) ?_
    unfold runT
    refine Evn.ite (fun c1 => ?_) (fun c1 => ?_)
    · rw [if_pos c1]
      exact ih (i + 1) (m + 1) _ _ _ _ _ (by omega) (by omega) (by omega)
    · rw [if_neg c1]
      exact ih (i + 1) m a b c d e (by omega) (by omega) (by omega)
theorem sp_RunTrip_l0 (xs : List S49) (hx : xs.length ≤ 1048576) (a b c d e : Int) : ∀ (D i : Nat), i + D = xs.length → Evn (fun k => spec_RunTrip.l0 k xs (i : Int) a b c d e) (if ((xs.drop i).all fun x => goodS x.f0 x.f1) = true then runT xs xs.length 0 a b c d e 0 else (0, 0, 0, 0, 0, 0, false)) := by
  intro D
  induction D with
  | zero =>
    intro i h
    refine Evn.step ?_
    have h1 : ¬ (i : Int) < (xs.length : Int) := by omega
    simp only [spec_RunTrip.l0, if_neg h1]
    rw [List.drop_eq_nil_of_le (by omega), List.all_nil, if_pos rfl]
    exact sp_RunTrip_l1 xs hx xs.length 0 0 a b c d e (by omega) (by omega) (by omega)
  | succ D ih =>
    intro i h
    have h1 : (i : Int) < (xs.length : Int) := by omega
    have h2 : 0 ≤ (i : Int) := by omega
    have hw := wrap_succ (show i < 4611686018427387904 by omega)
    refine Evn.step ?_
    simp only [spec_RunTrip.l0, if_pos h1, if_pos h2, hw, rd_T49, Int.toNat_natCast, sp_l21Step, Option.bind_some]
    clear hw
    rw [getD_drop xs i z49 (by omega), List.all_cons]
    refine Evn.ite (fun c1 => ?_) (fun c1 => ?_)
    · rw [c1, Bool.true_and]
      exact ih (i + 1) (by omega)
    · rw [Bool.eq_false_iff.mpr c1, Bool.false_and, if_neg (by decide)]
      exact Evn.done _
theorem sp_RunTrip (a b c d e : Int) (xs : List S49) (hx : xs.length ≤ 1048576) : Evn (fun k => spec_RunTrip.f k a b c d e xs) (runTs a b c d e xs) := by
  unfold spec_RunTrip.f runTs
  refine Evn.bind (sp_l21Good a b c d e) ?_
  refine Evn.ite (fun c1 => Evn.step ?_) (fun c1 => Evn.step ?_)
  · simp only [spec_RunTrip.j0]
    refine Evn.ite (fun c2 => ?_) (fun c2 => ?_)
    · rw [if_neg (by have := of_decide_eq_true c2; intro h; omega)]
      exact Evn.done _
    · have c3 : xs.length ≤ 20 := by
        rcases Nat.lt_or_ge 20 xs.length with hc | hc
        · exact absurd (decide_eq_true (show (xs.length : Int) > 20 by omega)) c2
        · exact hc
      have h := sp_RunTrip_l0 xs hx a b c d e xs.length 0 (by omega)
      rw [List.drop_zero] at h
      refine h.eq_ ?_
      by_cases c4 : (xs.all fun x => goodS x.f0 x.f1) = true
      · rw [if_pos c4, if_pos ⟨c1, c3, c4⟩]
      · rw [if_neg c4, if_neg (fun h => c4 h.2.2)]
  · simp only [spec_RunTrip.j0, if_true]
    rw [if_neg (fun h => c1 h.1)]
    exact Evn.done _

-- laws_toTripStep: as it stands

def convTripStep (x : S46) : S49 := ⟨x.f0, x.f1⟩
theorem ev_toTripStepS_l0 (xs : List S46) (hx : xs.length ≤ 1048576) : ∀ (d i : Nat) (ys : List S49), i + d = xs.length → ys.length = xs.length → Evn (fun k => laws_toTripStepS.l0 k xs ys (i : Int)) (ys.take i ++ (xs.drop i).map convTripStep) := by
  intro d
  induction d with
  | zero =>
    intro i ys h hy
    refine Evn.step ?_
    have h1 : ¬ (i : Int) < (xs.length : Int) := by omega
    simp only [laws_toTripStepS.l0, if_neg h1]
    have e : ys.take i ++ (xs.drop i).map convTripStep = ys := by rw [List.take_of_length_le (by omega), List.drop_eq_nil_of_le (by omega)]; simp
    rw [e]
    exact Evn.done _
  | succ d ih =>
    intro i ys h hy
    refine Evn.step ?_
    have h1 : (i : Int) < (xs.length : Int) := by omega
    have h2 : 0 ≤ (i : Int) := by omega
    have h3 : (i : Int) < (ys.length : Int) := by omega
    simp only [laws_toTripStepS.l0, laws_toTripStep.f, if_pos h1, if_pos h2, if_pos h3, Option.bind_some, Int.toNat_natCast, wrap_succ (show i < 4611686018427387904 by omega)]
    refine (ih (i + 1) _ (by omega) (by simpa using hy)).eq_ ?_
    rw [set_take _ _ _ (by omega), getD_drop xs i z46 (by omega)]
    simp [convTripStep, rd_T46]
theorem ev_toTripStepS (xs : List S46) (hx : xs.length ≤ 1048576) : Evn (fun k => laws_toTripStepS.f k xs) (xs.map convTripStep) := by
  unfold laws_toTripStepS.f
  refine Evn.ite (fun _ => Evn.ite (fun _ => ?_) (fun h => (h (by omega)).elim)) (fun h => (h (by omega)).elim)
  have h := ev_toTripStepS_l0 xs hx xs.length 0 (List.replicate (xs.length : Int).toNat z49) (by omega) (by simp)
  simpa using h

theorem im_within (x y z : Int) : impl_within.f x y z = some (decide (y ≤ x ∧ x ≤ z)) := by
  unfold impl_within.f
  by_cases h : x ≥ y <;> simp [h] <;> omega

theorem im_isTime (x : Int) : impl_isTime.f x = some (decide (0 ≤ x ∧ x ≤ 999)) := by
  simp only [impl_isTime.f, im_within, Option.bind_some]
theorem im_IsTrip_j1 (k : Nat) (p b c d e : Int) (q : Bool) (hq : q = decide (p = 0 ∨ p = 4 ∨ p = 5)) : impl_IsTrip.j1 (k + 1) p q p b c d e = some (decide (0 ≤ p ∧ p ≤ 5) && (if 1 ≤ p ∧ p ≤ 3 then decide (1 ≤ c ∧ c ≤ b) && ((p == 1) == decide (e ≤ d)) else c == 0)) := by
  subst hq
  simp only [impl_IsTrip.j1, im_within, Option.bind_some, ite_and]
  by_cases h0 : p = 0
  · subst h0; simp
  by_cases h4 : p = 4
  · subst h4; simp
  by_cases h5 : p = 5
  · subst h5; simp
  by_cases h1 : p = 1
  · subst h1; simp
  have hn : decide (d < e) = !decide (e ≤ d) := by by_cases h : e ≤ d <;> simp [h] <;> omega
  by_cases h2 : p = 2
  · subst h2; simp [hn]
  by_cases h3 : p = 3
  · subst h3; simp [hn]
  have : ¬ (0 ≤ p ∧ p ≤ 5) := by omega
  simp [h0, h1, h2, h3, h4, h5, this]
theorem im_IsTrip (a b c d e : Int) : Evn (fun k => impl_IsTrip.f k a b c d e) (goodT a b c d e) := by
  refine Evn.step (Evn.step ?_)
  refine Evn.of fun k => ?_
  unfold goodT
  simp only [impl_IsTrip.f, impl_IsTrip.j0, im_isTime, im_within, Option.bind_some]
  have e0 : impl_IsTrip.j1 (k + 1) a (a == 0) a b c d e = impl_IsTrip.j1 (k + 1) a (a == 0) a b c d e := rfl
  by_cases h2 : 1 ≤ b ∧ b ≤ 12
  · by_cases h3 : 0 ≤ d ∧ d ≤ 999
    · by_cases h4 : 0 ≤ e ∧ e ≤ 999
      · by_cases g0 : a = 0
        · rw [if_pos (decide_eq_true h2), if_pos (decide_eq_true h3), decide_eq_true h4, if_neg (by decide), if_pos g0, im_IsTrip_j1 k a b c d e _ (by simp [g0])]
          simp [h2, h3]
        · by_cases g4 : a = 4
          · rw [if_pos (decide_eq_true h2), if_pos (decide_eq_true h3), decide_eq_true h4, if_neg (by decide), if_neg g0, if_pos g4, im_IsTrip_j1 k a b c d e _ (by simp [g4])]
            simp [h2, h3]
          · rw [if_pos (decide_eq_true h2), if_pos (decide_eq_true h3), decide_eq_true h4, if_neg (by decide), if_neg g0, if_neg g4, im_IsTrip_j1 k a b c d e _ (by by_cases g5 : a = 5 <;> simp [g0, g4, g5])]
            simp [h2, h3]
      · simp [h2, h3, h4]
    · simp [h2, h3]
  · simp [h2]

theorem im_isTripStep (q n : Int) : impl_isTripStep.f q n = some (goodS q n) := by
  unfold impl_isTripStep.f goodS
  by_cases h4 : q = 4
  · simp [h4]
  · by_cases h5 : q = 5
    · simp [h5]
    · simp only [if_neg h4, if_neg h5, im_within, Option.bind_some, ite_and]
      rw [if_neg (by omega)]

theorem good_in {a b c d e : Int} (h : goodT a b c d e = true) : (0 ≤ a ∧ a ≤ 5) ∧ (1 ≤ b ∧ b ≤ 12) ∧ (0 ≤ d ∧ d ≤ 999) ∧ (0 ≤ e ∧ e ≤ 999) ∧ (1 ≤ a → a ≤ 3 → (1 ≤ c ∧ c ≤ b) ∧ (a = 1 ↔ e ≤ d)) ∧ (¬ (1 ≤ a ∧ a ≤ 3) → c = 0) := by
  simp only [goodT, Bool.and_eq_true, decide_eq_true_eq] at h
  obtain ⟨⟨h1, h2, h3, h4⟩, h5⟩ := h
  refine ⟨h1, h2, h3, h4, fun g1 g2 => ?_, fun g => ?_⟩
  · rw [if_pos ⟨g1, g2⟩] at h5
    simp only [Bool.and_eq_true, decide_eq_true_eq] at h5
    refine ⟨h5.1, ?_⟩
    have h6 := h5.2
    by_cases ha : a = 1 <;> by_cases hd : e ≤ d <;> simp [ha, hd] at h6 ⊢
  · rw [if_neg g] at h5
    simpa using h5
def mostT (a b c d e q : Int) : Int :=
  if q = 1 then (if (a = 0 ∨ a = 1) ∧ e < d then (if b - c = 0 then -1 else b - c) else -1)
  else if q = 2 then (if c = 0 then -1 else c) else if q = 3 then (if 999 - e = 0 then -1 else 999 - e)
  else if q = 6 then (if a = 1 then (if 999 - d = 0 then -1 else 999 - d) else -1)
  else if q = 4 then (if a = 2 then 0 else -1) else if q = 5 then (if a = 0 then 0 else -1) else -1
theorem im_most {a b c d e : Int} (h : goodT a b c d e = true) (q : Int) : Evn (fun k => impl_Trip_most.f k a b c d e q) (mostT a b c d e q) := by
  obtain ⟨h1, h2, h3, h4, h5, h6⟩ := good_in h
  have hc : 0 ≤ c ∧ c ≤ 12 := by
    by_cases g : 1 ≤ a ∧ a ≤ 3
    · have := (h5 g.1 g.2).1; omega
    · have := h6 g; omega
  refine Evn.step ?_
  refine Evn.of fun k => ?_
  have w1 : wrap64 (b - c) = b - c := wrap_id (by omega) (by omega)
  have w2 : wrap64 (999 - e) = 999 - e := wrap_id (by clear w1; omega) (by clear w1; omega)
  have w3 : wrap64 (999 - d) = 999 - d := wrap_id (by clear w1 w2; omega) (by clear w1 w2; omega)
  unfold mostT
  simp only [impl_Trip_most.f, impl_Trip_most.j0, w1, w2, w3]
  clear w1 w2 w3
  by_cases g1 : q = 1
  · simp only [if_pos g1]
    by_cases g2 : e < d
    · by_cases g3 : a = 0
      · rw [if_pos (show (a = 0 ∨ a = 1) ∧ e < d from ⟨.inl g3, g2⟩)]
        simp only [if_pos g3, decide_eq_true g2, if_true]
        split <;> rfl
      · by_cases g4 : a = 1
        · rw [if_pos (show (a = 0 ∨ a = 1) ∧ e < d from ⟨.inr g4, g2⟩)]
          simp only [if_neg g3, if_pos g4, decide_eq_true g2, if_true]
          split <;> rfl
        · rw [if_neg (show ¬ ((a = 0 ∨ a = 1) ∧ e < d) from fun h => by omega)]
          simp only [if_neg g3, if_neg g4, Bool.false_eq_true, if_false]
          rfl
    · rw [if_neg (show ¬ ((a = 0 ∨ a = 1) ∧ e < d) from fun h => g2 h.2)]
      simp only [decide_eq_false g2, Bool.false_eq_true, if_false]
      split
      · rfl
      · split <;> rfl
  · simp only [if_neg g1]
    repeat' split
    all_goals first | rfl | (exfalso; omega) | contradiction

theorem im_Trip_step {a b c d e : Int} (h : goodT a b c d e = true) {q n : Int} (hs : goodS q n = true) : Evn (fun k => impl_Trip_step.f k a b c d e q n) (only (stepT a b c d e q n)) := by
  obtain ⟨h1, h2, h3, h4, h5, h6⟩ := good_in h
  have hc : 0 ≤ c ∧ c ≤ 12 := by
    by_cases g : 1 ≤ a ∧ a ≤ 3
    · have := (h5 g.1 g.2).1; omega
    · have := h6 g; omega
  have hm := im_most h q
  have hj : ∀ low : Int, low = (if q = 4 ∨ q = 5 then 0 else 1) → Evn (fun k => impl_Trip_step.j1 k low a b c d e q n) (only (stepT a b c d e q n)) := by
    intro low hlow
    refine Evn.step ?_
    simp only [impl_Trip_step.j1]
    refine Evn.bind hm ?_
    simp only [im_within, Option.bind_some]
    refine Evn.of fun k => ?_
    unfold goodS at hs
    by_cases g1 : q = 1
    · rw [if_neg (by omega)] at hlow
      subst hlow
      have e1 : (decide (a ≤ 1) && (decide (1 ≤ n ∧ n ≤ wrap64 (b - c)) && decide (e < d))) = decide (1 ≤ n ∧ n ≤ mostT a b c d e q) := by
        rw [(wrap_id (by omega) (by omega) : wrap64 (b - c) = b - c), Bool.eq_iff_iff]
        simp only [Bool.and_eq_true, decide_eq_true_eq]
        unfold mostT
        rw [if_pos g1]
        split
        · split <;> omega
        · omega
      unfold stepT only
      simp only [if_pos g1, e1]
      split
      · rename_i hh; rw [hh]
      · rfl
    by_cases g2 : q = 2
    · rw [if_neg (by omega)] at hlow
      subst hlow
      have e1 : (decide (1 ≤ a ∧ a ≤ 3) && decide (1 ≤ n ∧ n ≤ c)) = decide (1 ≤ n ∧ n ≤ mostT a b c d e q) := by
        rw [Bool.eq_iff_iff]
        simp only [Bool.and_eq_true, decide_eq_true_eq]
        unfold mostT
        rw [if_neg g1, if_pos g2]
        by_cases g : 1 ≤ a ∧ a ≤ 3
        · split <;> omega
        · have := h6 g
          split <;> omega
      unfold stepT only
      simp only [if_neg g1, if_pos g2, e1]
      split
      · rename_i hh; rw [hh]; split <;> rfl
      · rfl
    by_cases g3 : q = 3
    · rw [if_neg (by omega)] at hlow
      subst hlow
      have e1 : decide (1 ≤ n ∧ n ≤ wrap64 (999 - e)) = decide (1 ≤ n ∧ n ≤ mostT a b c d e q) := by
        rw [(wrap_id (by omega) (by omega) : wrap64 (999 - e) = 999 - e), Bool.eq_iff_iff]
        simp only [decide_eq_true_eq]
        unfold mostT
        rw [if_neg g1, if_neg g2, if_pos g3]
        split <;> omega
      unfold stepT only
      simp only [if_neg g1, if_neg g2, if_pos g3, e1]
      split
      · rename_i hh
        rw [hh]
        by_cases ga : a = 1
        · by_cases gw : wrap64 (e + n) > d
          · rw [if_pos ga, if_pos gw, if_pos (show a = 1 ∧ wrap64 (e + n) > d from ⟨ga, gw⟩)]
          · rw [if_pos ga, if_neg gw, if_neg (show ¬ (a = 1 ∧ wrap64 (e + n) > d) from fun hx => gw hx.2)]
        · rw [if_neg ga, if_neg (show ¬ (a = 1 ∧ wrap64 (e + n) > d) from fun hx => ga hx.1)]
      · rfl
    by_cases g4 : q = 4
    · rw [if_pos (Or.inl g4)] at hlow hs
      subst hlow
      have hn : n = 0 := by simpa using hs
      have e1 : (a == 2) = decide (0 ≤ n ∧ n ≤ mostT a b c d e q) := by
        rw [Bool.eq_iff_iff]
        simp only [beq_iff_eq, decide_eq_true_eq]
        unfold mostT
        rw [if_neg g1, if_neg g2, if_neg g3, if_neg (by omega), if_pos g4]
        split <;> omega
      unfold stepT only
      simp only [if_neg g1, if_neg g2, if_neg g3, if_pos g4, e1]
      split
      · rename_i hh; rw [hh]
      · rfl
    by_cases g5 : q = 5
    · rw [if_pos (Or.inr g5)] at hlow hs
      subst hlow
      have hn : n = 0 := by simpa using hs
      have e1 : (a == 0) = decide (0 ≤ n ∧ n ≤ mostT a b c d e q) := by
        rw [Bool.eq_iff_iff]
        simp only [beq_iff_eq, decide_eq_true_eq]
        unfold mostT
        rw [if_neg g1, if_neg g2, if_neg g3, if_neg (by omega), if_neg g4, if_pos g5]
        split <;> omega
      unfold stepT only
      simp only [if_neg g1, if_neg g2, if_neg g3, if_neg g4, if_pos g5, e1]
      split
      · rename_i hh; rw [hh]
      · rfl
    · have g45 : ¬ (q = 4 ∨ q = 5) := by omega
      rw [if_neg g45] at hlow hs
      subst hlow
      have g6 : q = 6 := by
        simp only [Bool.and_eq_true, decide_eq_true_eq] at hs
        omega
      have e1 : (decide (a = 1) && decide (1 ≤ n ∧ n ≤ wrap64 (999 - d))) = decide (1 ≤ n ∧ n ≤ mostT a b c d e q) := by
        rw [(wrap_id (by omega) (by omega) : wrap64 (999 - d) = 999 - d), Bool.eq_iff_iff]
        simp only [Bool.and_eq_true, decide_eq_true_eq]
        unfold mostT
        rw [if_neg g1, if_neg g2, if_neg g3, if_pos g6]
        split
        · split <;> omega
        · omega
      unfold stepT only
      simp only [if_neg g1, if_neg g2, if_neg g3, if_neg g4, if_neg g5, if_pos g6, e1]
      split
      · rename_i hh; rw [hh]
      · rfl
  unfold impl_Trip_step.f
  refine Evn.ite (fun g4 => Evn.step ?_) (fun g4 => Evn.step ?_)
  · simp only [impl_Trip_step.j0, if_true]
    exact hj 0 (by rw [if_pos (Or.inl g4)])
  · simp only [impl_Trip_step.j0]
    refine Evn.ite (fun g5 => ?_) (fun g5 => ?_)
    · exact hj 0 (by rw [if_pos (Or.inr (by simpa using g5))])
    · exact hj 1 (by rw [if_neg (by intro hx; rcases hx with hx | hx; exact g4 hx; exact g5 (by simp [hx]))])

theorem good_step {a b c d e : Int} (h : goodT a b c d e = true) {q n : Int} (hs : goodS q n = true) (ok : (stepT a b c d e q n).2.2.2.2.2 = true) : goodT (stepT a b c d e q n).1 (stepT a b c d e q n).2.1 (stepT a b c d e q n).2.2.1 (stepT a b c d e q n).2.2.2.1 (stepT a b c d e q n).2.2.2.2.1 = true := by
  obtain ⟨h1, h2, h3, h4, h5, h6⟩ := good_in h
  have hc : 0 ≤ c ∧ c ≤ 12 := by
    by_cases g : 1 ≤ a ∧ a ≤ 3
    · have := (h5 g.1 g.2).1; omega
    · have := h6 g; omega
  unfold stepT at ok ⊢
  by_cases g1 : q = 1
  · simp only [if_pos g1, Bool.and_eq_true, decide_eq_true_eq] at ok ⊢
    rw [(wrap_id (by omega) (by omega) : wrap64 (b - c) = b - c)] at ok
    rw [(wrap_id (by omega) (by omega) : wrap64 (c + n) = c + n)]
    exact good_of (by omega) (by omega) (by omega) (by omega) (fun _ _ => by omega) (fun _ => by omega)
  by_cases g2 : q = 2
  · simp only [if_neg g1, if_pos g2, Bool.and_eq_true, decide_eq_true_eq] at ok ⊢
    rw [(wrap_id (by omega) (by omega) : wrap64 (c - n) = c - n)]
    have h7 := h5 ok.1.1 ok.1.2
    split
    · exact good_of (by omega) (by omega) (by omega) (by omega) (fun _ _ => by omega) (fun _ => by omega)
    · exact good_of (by omega) (by omega) (by omega) (by omega) (fun _ _ => ⟨by omega, h7.2⟩) (fun _ => by omega)
  by_cases g3 : q = 3
  · simp only [if_neg g1, if_neg g2, if_pos g3, decide_eq_true_eq] at ok ⊢
    rw [(wrap_id (by omega) (by omega) : wrap64 (999 - e) = 999 - e)] at ok
    rw [(wrap_id (by omega) (by omega) : wrap64 (e + n) = e + n)]
    split
    · rename_i g
      have h7 := h5 (by omega) (by omega)
      exact good_of (by omega) (by omega) (by omega) (by omega) (fun _ _ => by omega) (fun _ => by omega)
    · rename_i g
      refine good_of (by omega) (by omega) (by omega) (by omega) (fun g7 g8 => ?_) h6
      have h7 := h5 g7 g8
      refine ⟨h7.1, ?_⟩
      omega
  by_cases g4 : q = 4
  · simp only [if_neg g1, if_neg g2, if_neg g3, if_pos g4, beq_iff_eq] at ok ⊢
    have h7 := h5 (by omega) (by omega)
    exact good_of (by omega) (by omega) (by omega) (by omega) (fun _ _ => by omega) (fun _ => by omega)
  by_cases g5 : q = 5
  · simp only [if_neg g1, if_neg g2, if_neg g3, if_neg g4, if_pos g5, beq_iff_eq] at ok ⊢
    have h7 := h6 (by omega)
    exact good_of (by omega) (by omega) (by omega) (by omega) (fun _ _ => by omega) (fun _ => by omega)
  · simp only [if_neg g1, if_neg g2, if_neg g3, if_neg g4, if_neg g5, Bool.and_eq_true, decide_eq_true_eq] at ok ⊢
    rw [(wrap_id (by omega) (by omega) : wrap64 (999 - d) = 999 - d)] at ok
    rw [(wrap_id (by omega) (by omega) : wrap64 (d + n) = d + n)]
    have h7 := h5 (by omega) (by omega)
    exact good_of (by omega) (by omega) (by omega) (by omega) (fun _ _ => by omega) (fun _ => by omega)
theorem all_getD {α : Type} {p : α → Bool} {xs : List α} (h : xs.all p = true) (z : α) (i : Nat) (hi : i < xs.length) : p (xs.getD i z) = true := by
  rw [List.all_eq_true] at h
  refine h _ ?_
  rw [List.getD_eq_getElem?_getD, List.getElem?_eq_getElem hi]
  exact List.getElem_mem hi
theorem im_RunTrip_l0 (xs : List S49) (hx : xs.length ≤ 1048576) (ha : (xs.all fun x => goodS x.f0 x.f1) = true) : ∀ (D i : Nat) (m a b c d e : Int), i + D = xs.length → 0 ≤ m → m ≤ i → goodT a b c d e = true → Evn (fun k => impl_RunTrip.l0 k m xs (xs.length : Int) (i : Int) a b c d e) (runT xs D i a b c d e m) := by
  intro D
  induction D with
  | zero =>
    intro i m a b c d e h _ _ _
    refine Evn.step ?_
    have h1 : ¬ (i : Int) < (xs.length : Int) := by omega
    simp only [impl_RunTrip.l0, if_neg h1, runT]
    exact Evn.done _
  | succ D ih =>
    intro i m a b c d e h h0 hm hg
    have h1 : (i : Int) < (xs.length : Int) := by omega
    have h2 : 0 ≤ (i : Int) := by omega
    have hw := wrap_succ (show i < 4611686018427387904 by omega)
    have hw2 : wrap64 (m + 1) = m + 1 := wrap_id (by clear hw; omega) (by clear hw; omega)
    refine Evn.step ?_
    simp only [impl_RunTrip.l0, if_pos h1, if_pos h2, hw, hw2, rd_T49, Int.toNat_natCast]
    clear hw hw2
    have hs : goodS (xs.getD i z49).f0 (xs.getD i z49).f1 = true := all_getD ha z49 i (by omega)
    refine Evn.bind (im_Trip_step hg hs) ?_
    unfold runT only
    by_cases c1 : (stepT a b c d e (xs.getD i z49).f0 (xs.getD i z49).f1).2.2.2.2.2 = true
    · rw [if_pos c1]
      simp only [if_pos c1]
      exact ih (i + 1) (m + 1) _ _ _ _ _ (by omega) (by omega) (by omega) (good_step hg hs c1)
    · rw [if_neg c1]
      simp only [if_neg c1, Bool.false_eq_true, if_false]
      exact ih (i + 1) m a b c d e (by omega) (by omega) (by omega) hg
theorem some_beq_false (b : Bool) : (some b == some false) = !b := by cases b <;> rfl
theorem im_xBadStep (xs : List S49) : impl_xBadStep.f xs = some (!(xs.all fun x => goodS x.f0 x.f1)) := by
  simp only [impl_xBadStep.f, im_isTripStep, some_beq_false]
  congr 1
  induction xs with
  | nil => rfl
  | cons x xs ih => rw [List.any_cons, List.all_cons, ih, Bool.not_and]
theorem im_RunTrip (a b c d e : Int) (xs : List S49) (hx : xs.length ≤ 1048576) : Evn (fun k => impl_RunTrip.f k a b c d e xs) (runTs a b c d e xs) := by
  unfold impl_RunTrip.f runTs
  refine Evn.bind (im_IsTrip a b c d e) ?_
  refine Evn.ite (fun c1 => ?_) (fun c1 => Evn.step ?_)
  · refine Evn.ite (fun c2 => Evn.step ?_) (fun c2 => ?_)
    · simp only [impl_RunTrip.j0, if_true]
      rw [if_neg (by intro h; omega)]
      exact Evn.done _
    · simp only [im_xBadStep, Option.bind_some]
      refine Evn.step ?_
      simp only [impl_RunTrip.j0]
      by_cases c4 : (xs.all fun x => goodS x.f0 x.f1) = true
      · rw [if_pos ⟨c1, by omega, c4⟩, c4]
        simp only [Bool.not_true, Bool.false_eq_true, if_false]
        exact im_RunTrip_l0 xs hx c4 xs.length 0 0 a b c d e (by omega) (by omega) (by omega) c1
      · rw [if_neg (fun h => c4 h.2.2), Bool.eq_false_iff.mpr c4]
        simp only [Bool.not_false, if_true]
        exact Evn.done _
  · simp only [impl_RunTrip.j0, if_true]
    rw [if_neg (fun h => c1 h.1)]
    exact Evn.done _

-- laws_eqTripStep: as it stands

theorem ev_eqTripStepS_l0 (xs : List S49) (hx : xs.length ≤ 4194304) : ∀ (d i : Nat), i + d = xs.length → Evn (fun k => laws_eqTripStepS.l0 k xs xs (i : Int)) true := by
  intro d
  induction d with
  | zero =>
    intro i h
    refine Evn.step ?_
    have h1 : ¬ (i : Int) < (xs.length : Int) := by omega
    simp only [laws_eqTripStepS.l0, if_neg h1]
    exact Evn.done _
  | succ d ih =>
    intro i h
    refine Evn.step ?_
    have h1 : (i : Int) < (xs.length : Int) := by omega
    have h2 : 0 ≤ (i : Int) := by omega
    simp only [laws_eqTripStepS.l0, laws_eqTripStep.f, if_pos h1, if_pos h2, Option.bind_some, if_true, wrap_succ (show i < 4611686018427387904 by omega)]
    exact ih (i + 1) (by omega)
theorem ev_eqTripStepS (xs : List S49) (hx : xs.length ≤ 4194304) : Evn (fun k => laws_eqTripStepS.f k xs xs) true := by
  simp only [laws_eqTripStepS.f, if_true]
  exact ev_eqTripStepS_l0 xs hx xs.length 0 (by omega)

theorem FnExactRunTrip : ∀ (a0_0 : Int) (a0_1 : Int) (a0_2 : Int) (a0_3 : Int) (a0_4 : Int) (l1 : List (S46)), (Lit.int .i64 a0_0).wf = true → (Lit.int .i64 a0_1).wf = true → (Lit.int .i64 a0_2).wf = true → (Lit.int .i64 a0_3).wf = true → (Lit.int .i64 a0_4).wf = true → l1.length ≤ maxLen → (∀ x ∈ l1, (Lit.int .i64 x.f0).wf = true ∧ (Lit.int .i64 x.f1).wf = true) → ∃ k, laws_FnExactRunTrip.f k a0_0 a0_1 a0_2 a0_3 a0_4 l1 = some true := by
  intro a b c d e l _ _ _ _ _ hl _
  apply Evn.get
  unfold laws_FnExactRunTrip.f
  simp only [ev_szTripStepS, laws_toTrip.f, Option.bind_some]
  refine Evn.ite (fun _ => Evn.done _) (fun h => ?_)
  have hx : l.length ≤ 1048576 := by unfold maxLen at hl; unfold wrap64 at h; split at h <;> omega
  have hx' : (l.map convTripStep).length ≤ 4194304 := by rw [List.length_map]; omega
  have hx1 : (l.map convTripStep).length ≤ 1048576 := by rw [List.length_map]; omega
  clear h hl
  have hs := sp_RunTrip a b c d e (l.map convTripStep) hx1
  have hi := im_RunTrip a b c d e (l.map convTripStep) hx1
  generalize runTs a b c d e (l.map convTripStep) = r at hs hi
  generalize hL : l.map convTripStep = L at hs hi hx'
  have hto : Evn (fun k => laws_toTripStepS.f k l) L := hL ▸ ev_toTripStepS l hx
  refine Evn.bind hto ?_
  refine Evn.bind hs ?_
  refine Evn.bind hto ?_
  refine Evn.bind hi ?_
  simp only [laws_eqTrip.f, if_true, Option.bind_some, bne_self_eq_false]
  refine Evn.step ?_
  simp only [laws_FnExactRunTrip.j0, Bool.false_eq_true, if_false]
  refine Evn.bind hto ?_
  refine Evn.bind (ev_eqTripStepS _ hx') ?_
  simp only [if_true]
  exact Evn.done _

end Go.Proofs.Ytmeaacbnjpgepaa.Pure
