/- The plain statement of FnTrips: its plain function returns true at every input. No condition beyond the arguments' own bounds. -/
import Derived.Test.YtmeaacbnjpgepaaQFnTripsx13
import Derived.Test.YtmeaacbnjpgepaaAid
namespace Go.Proofs.Ytmeaacbnjpgepaa.Pure
open Go.RowKit Go.Proofs.YtmeaacbnjpgepaaW.PrintWords Go.Proofs.YtmeaacbnjpgepaaW.PrintLast Go.Proofs.Ytmeaacbnjpgepaa.Aid Go.Proofs.Ytmeaacbnjpgepaa.QFnTrips
set_option linter.unusedVariables false
set_option linter.unusedSimpArgs false

theorem sp_l1In (x y z : Int) : spec_l1In.f x y z = some (decide (y ≤ x ∧ x ≤ z)) := by
  unfold spec_l1In.f
  by_cases h : x ≥ y <;> simp [h] <;> omega

/-! A trip's rules. -/
def goodT (a b c d e : Int) : Bool := (decide (0 ≤ a ∧ a ≤ 5) && (decide (1 ≤ b ∧ b ≤ 12) && (decide (0 ≤ d ∧ d ≤ 999) && decide (0 ≤ e ∧ e ≤ 999)))) && (if 1 ≤ a ∧ a ≤ 3 then decide (1 ≤ c ∧ c ≤ b) && ((a == 1) == decide (e ≤ d)) else c == 0)

theorem sp_l21In (x : Int) : spec_l21In.f x = some (decide (1 ≤ x ∧ x ≤ 3)) := by
  simp only [spec_l21In.f, sp_l1In, Option.bind_some]
theorem sp_l21Time (x : Int) : spec_l21Time.f x = some (decide (0 ≤ x ∧ x ≤ 999)) := by
  simp only [spec_l21Time.f, sp_l1In, Option.bind_some]
theorem sp_l21Good (a b c d e : Int) : Evn (fun k => spec_l21Good.f k a b c d e) (goodT a b c d e) := by
  refine Evn.step ?_
  refine Evn.of fun k => ?_
  unfold goodT
  simp only [spec_l21Good.f, spec_l21Good.j0, sp_l21In, sp_l21Time, sp_l1In, Option.bind_some, ite_and]
  by_cases h1 : 0 ≤ a ∧ a ≤ 5
  · by_cases h2 : 1 ≤ b ∧ b ≤ 12
    · by_cases h3 : 0 ≤ d ∧ d ≤ 999
      · by_cases h4 : 0 ≤ e ∧ e ≤ 999
        · by_cases h5 : 1 ≤ a ∧ a ≤ 3
          · simp [h1, h2, h3, h4, h5]
          · simp [h1, h2, h3, h4, h5]
        · simp [h1, h2, h3, h4]
      · simp [h1, h2, h3]
    · simp [h1, h2]
  · simp [h1]

theorem sp_IsTrip (a b c d e : Int) : Evn (fun k => spec_IsTrip.f k a b c d e) (goodT a b c d e) := by
  unfold spec_IsTrip.f
  exact Evn.bind (sp_l21Good a b c d e) (Evn.done _)

theorem sp_l1Most (a b : Int) : spec_l1Most.f a b = some (max a b) := by
  unfold spec_l1Most.f
  split <;> congr 1 <;> omega

/-! A step of a trip: the trip behind it, and whether it is possible. -/
def stepT (a b c d e q n : Int) : Int × Int × Int × Int × Int × Bool :=
  if q = 1 then (1, b, wrap64 (c + n), d, e, decide (a ≤ 1) && (decide (1 ≤ n ∧ n ≤ wrap64 (b - c)) && decide (e < d)))
  else if q = 2 then (if wrap64 (c - n) = 0 then 4 else a, b, wrap64 (c - n), d, e, decide (1 ≤ a ∧ a ≤ 3) && decide (1 ≤ n ∧ n ≤ c))
  else if q = 3 then (if a = 1 ∧ wrap64 (e + n) > d then 2 else a, b, c, d, wrap64 (e + n), decide (1 ≤ n ∧ n ≤ wrap64 (999 - e)))
  else if q = 4 then (3, b, c, d, e, a == 2) else if q = 5 then (5, b, c, d, e, a == 0)
  else (a, b, c, wrap64 (d + n), e, decide (a = 1) && decide (1 ≤ n ∧ n ≤ wrap64 (999 - d)))
def goodS (q n : Int) : Bool := if q = 4 ∨ q = 5 then n == 0 else decide (1 ≤ q ∧ q ≤ 6) && decide (n ≥ 0)
def only (r : Int × Int × Int × Int × Int × Bool) : Int × Int × Int × Int × Int × Bool := if r.2.2.2.2.2 = true then r else (0, 0, 0, 0, 0, false)
def stepTs (a b c d e q n : Int) : Int × Int × Int × Int × Int × Bool := if goodT a b c d e = true ∧ goodS q n = true then only (stepT a b c d e q n) else (0, 0, 0, 0, 0, false)

theorem sp_l21Make (a b c d e q n : Int) : Evn (fun k => spec_l21Make.f k a b c d e q n) (stepT a b c d e q n) := by
  refine Evn.step ?_
  refine Evn.of fun k => ?_
  unfold stepT
  simp only [spec_l21Make.f, spec_l21Make.j0, sp_l1In, sp_l21In, Option.bind_some]
  by_cases h1 : q = 1
  · simp only [if_pos h1]
    by_cases g1 : a ≤ 1
    · simp only [if_pos g1, decide_eq_true g1, Bool.true_and]
      by_cases g2 : 1 ≤ n ∧ n ≤ wrap64 (b - c)
      · simp only [decide_eq_true g2, if_true, Bool.true_and]
      · simp only [decide_eq_false g2, Bool.false_eq_true, if_false, Bool.false_and]
    · simp only [if_neg g1, decide_eq_false g1, Bool.false_and]
  · simp only [if_neg h1]
    by_cases h2 : q = 2
    · simp only [if_pos h2]
      by_cases g1 : wrap64 (c - n) = 0
      · simp only [if_pos g1]
        by_cases g2 : 1 ≤ a ∧ a ≤ 3
        · simp only [decide_eq_true g2, if_true, Bool.true_and]
        · simp only [decide_eq_false g2, Bool.false_eq_true, if_false, Bool.false_and]
      · simp only [if_neg g1]
        by_cases g2 : 1 ≤ a ∧ a ≤ 3
        · simp only [decide_eq_true g2, if_true, Bool.true_and]
        · simp only [decide_eq_false g2, Bool.false_eq_true, if_false, Bool.false_and]
    · simp only [if_neg h2]
      by_cases h3 : q = 3
      · simp only [if_pos h3]
        by_cases g1 : a = 1
        · by_cases g2 : wrap64 (e + n) > d
          · rw [if_pos (show a = 1 ∧ wrap64 (e + n) > d from ⟨g1, g2⟩)]
            simp only [if_pos g1, decide_eq_true g2, if_true]
          · rw [if_neg (show ¬ (a = 1 ∧ wrap64 (e + n) > d) from fun h => g2 h.2)]
            simp only [if_pos g1, decide_eq_false g2, Bool.false_eq_true, if_false]
        · rw [if_neg (show ¬ (a = 1 ∧ wrap64 (e + n) > d) from fun h => g1 h.1)]
          simp only [if_neg g1, Bool.false_eq_true, if_false]
      · simp only [if_neg h3]
        by_cases h4 : q = 4
        · simp only [if_pos h4]
        · simp only [if_neg h4]
          by_cases h5 : q = 5
          · simp only [if_pos h5]
          · simp only [if_neg h5]
            by_cases g1 : a = 1
            · simp only [if_pos g1, decide_eq_true g1, Bool.true_and]
            · simp only [if_neg g1, decide_eq_false g1, Bool.false_and]

def canB (a b c d e q : Int) : Bool := (stepT a b c d e q (if q = 4 ∨ q = 5 then 0 else 1)).2.2.2.2.2
def kindsFrom (a b c d e : Int) : Nat → Int → List Int
  | 0, _ => []
  | D + 1, q => if canB a b c d e q = true then q :: kindsFrom a b c d e D (q + 1) else kindsFrom a b c d e D (q + 1)
theorem kindsFrom_len (a b c d e : Int) : ∀ D q, (kindsFrom a b c d e D q).length ≤ D := by
  intro D
  induction D with
  | zero => intro q; exact Nat.le_refl _
  | succ D ih =>
    intro q
    have := ih (q + 1)
    unfold kindsFrom
    split
    · rw [List.length_cons]; omega
    · omega
def nextTs (a b c d e : Int) : List Int × Bool := if goodT a b c d e = true then (kindsFrom a b c d e 6 1, true) else ([], false)
theorem sp_NextKinds_l0 (a b c d e : Int) : ∀ (D : Nat) (q : Int) (zs : List Int), q + D = 7 → 1 ≤ q → (zs.length : Int) ≤ q → Evn (fun k => spec_NextKinds.l0 k zs q a b c d e) (zs ++ kindsFrom a b c d e D q, true) := by
  intro D
  induction D with
  | zero =>
    intro q zs h _ _
    refine Evn.step ?_
    have h1 : ¬ q ≤ 6 := by omega
    simp only [spec_NextKinds.l0, if_neg h1, kindsFrom, List.append_nil]
    exact Evn.done _
  | succ D ih =>
    intro q zs h h0 hz
    have h1 : q ≤ 6 := by omega
    have hw : wrap64 (q + 1) = q + 1 := wrap_id (by omega) (by omega)
    have yes : canB a b c d e q = true → Evn (fun k => if zs.length < 17592186044416 then spec_NextKinds.l0 k (zs ++ [q]) (q + 1) a b c d e else none) (zs ++ kindsFrom a b c d e (D + 1) q, true) := by
      intro hc
      simp only [kindsFrom, hc, if_true]
      refine Evn.ite (fun _ => ?_) (fun c => absurd (by clear hw; omega) c)
      have h3 := ih (q + 1) (zs ++ [q]) (by clear hw; omega) (by clear hw; omega) (by rw [List.length_append, List.length_singleton]; clear hw; omega)
      rw [List.append_assoc] at h3
      exact h3
    have no : canB a b c d e q = false → Evn (fun k => spec_NextKinds.l0 k zs (q + 1) a b c d e) (zs ++ kindsFrom a b c d e (D + 1) q, true) := by
      intro hc
      simp only [kindsFrom, hc, Bool.false_eq_true, if_false]
      exact ih (q + 1) zs (by clear hw; omega) (by clear hw; omega) (by clear hw; omega)
    have key : ∀ t : Bool, t = decide (q = 4 ∨ q = 5) → Evn (fun k => spec_NextKinds.j1 k zs q t a b c d e q 1) (zs ++ kindsFrom a b c d e (D + 1) q, true) := by
      intro t ht
      refine Evn.step ?_
      simp only [spec_NextKinds.j1, hw]
      clear hw
      refine Evn.ite (fun c1 => ?_) (fun c1 => ?_)
      · rw [ht, decide_eq_true_eq] at c1
        refine Evn.bind (sp_l21Make a b c d e q 0) ?_
        have e1 : canB a b c d e q = (stepT a b c d e q 0).2.2.2.2.2 := by unfold canB; rw [if_pos c1]
        exact Evn.ite (fun c2 => yes (by rw [e1]; exact c2)) (fun c2 => no (by rw [e1]; exact Bool.eq_false_iff.mpr c2))
      · rw [ht, decide_eq_true_eq] at c1
        refine Evn.bind (sp_l21Make a b c d e q 1) ?_
        have e1 : canB a b c d e q = (stepT a b c d e q 1).2.2.2.2.2 := by unfold canB; rw [if_neg c1]
        exact Evn.ite (fun c2 => yes (by rw [e1]; exact c2)) (fun c2 => no (by rw [e1]; exact Bool.eq_false_iff.mpr c2))
    refine Evn.step ?_
    simp only [spec_NextKinds.l0, if_pos h1]
    refine Evn.ite (fun c => key true (by rw [decide_eq_true (Or.inl c)])) (fun c => key (q == 5) ?_)
    by_cases c5 : q = 5
    · rw [decide_eq_true (Or.inr c5)]; exact beq_iff_eq.2 c5
    · rw [decide_eq_false (by omega)]; exact beq_eq_false_iff_ne.2 c5
theorem sp_NextKinds (a b c d e : Int) : Evn (fun k => spec_NextKinds.f k a b c d e) (nextTs a b c d e) := by
  unfold spec_NextKinds.f nextTs
  simp only [Option.bind_some]
  refine Evn.bind (sp_l21Good a b c d e) ?_
  refine Evn.ite (fun c1 => ?_) (fun c1 => by rw [if_neg c1]; exact Evn.done _)
  rw [if_pos c1]
  have h := sp_NextKinds_l0 a b c d e 6 1 [] (by omega) (by omega) (by simp)
  simpa using h

theorem sp_l21Step (q n : Int) : spec_l21Step.f q n = some (goodS q n) := by
  unfold spec_l21Step.f goodS
  by_cases h4 : q = 4
  · simp [h4]
  · by_cases h5 : q = 5
    · simp [h5]
    · simp only [if_neg h4, if_neg h5, sp_l1In, Option.bind_some, ite_and]
      rw [if_neg (by omega)]

theorem sp_StepTrip (a b c d e q n : Int) : Evn (fun k => spec_StepTrip.f k a b c d e q n) (stepTs a b c d e q n) := by
  unfold spec_StepTrip.f stepTs
  refine Evn.bind (sp_l21Good a b c d e) ?_
  simp only [sp_l21Step, Option.bind_some]
  refine Evn.ite (fun c1 => Evn.step ?_) (fun c1 => Evn.step ?_)
  · simp only [spec_StepTrip.j0]
    refine Evn.ite (fun c2 => ?_) (fun c2 => ?_)
    · rw [if_neg (by intro h; rw [h.2] at c2; cases c2)]
      exact Evn.done _
    · rw [if_pos ⟨c1, by simpa using c2⟩]
      refine Evn.bind (sp_l21Make a b c d e q n) ?_
      unfold only
      exact Evn.ite (fun c3 => by rw [if_pos c3]; refine (Evn.done _).eq_ (by rw [← c3])) (fun c3 => by rw [if_neg c3]; exact Evn.done _)
  · simp only [spec_StepTrip.j0, if_true]
    rw [if_neg (fun h => c1 h.1)]
    exact Evn.done _

theorem good_of {a b c d e : Int} (h1 : 0 ≤ a ∧ a ≤ 5) (h2 : 1 ≤ b ∧ b ≤ 12) (h3 : 0 ≤ d ∧ d ≤ 999) (h4 : 0 ≤ e ∧ e ≤ 999) (h5 : 1 ≤ a → a ≤ 3 → (1 ≤ c ∧ c ≤ b) ∧ (a = 1 ↔ e ≤ d)) (h6 : ¬ (1 ≤ a ∧ a ≤ 3) → c = 0) : goodT a b c d e = true := by
  simp only [goodT, Bool.and_eq_true, decide_eq_true_eq]
  refine ⟨⟨h1, h2, h3, h4⟩, ?_⟩
  by_cases g : 1 ≤ a ∧ a ≤ 3
  · rw [if_pos g]
    obtain ⟨p, q⟩ := h5 g.1 g.2
    have e1 : ((a == 1) == decide (e ≤ d)) = true := by rw [beq_iff_eq, Bool.eq_iff_iff, beq_iff_eq, decide_eq_true_eq]; exact q
    rw [decide_eq_true p, e1]
    rfl
  · rw [if_neg g]; exact beq_iff_eq.2 (h6 g)
def runT (xs : List S49) : Nat → Nat → Int → Int → Int → Int → Int → Int → Int × Int × Int × Int × Int × Int × Bool
  | 0, _, a, b, c, d, e, m => (a, b, c, d, e, m, true)
  | k + 1, i, a, b, c, d, e, m =>
    if (stepT a b c d e (xs.getD i z49).f0 (xs.getD i z49).f1).2.2.2.2.2 = true then
      runT xs k (i + 1) (stepT a b c d e (xs.getD i z49).f0 (xs.getD i z49).f1).1 (stepT a b c d e (xs.getD i z49).f0 (xs.getD i z49).f1).2.1 (stepT a b c d e (xs.getD i z49).f0 (xs.getD i z49).f1).2.2.1 (stepT a b c d e (xs.getD i z49).f0 (xs.getD i z49).f1).2.2.2.1 (stepT a b c d e (xs.getD i z49).f0 (xs.getD i z49).f1).2.2.2.2.1 (m + 1)
    else runT xs k (i + 1) a b c d e m
def runTs (a b c d e : Int) (xs : List S49) : Int × Int × Int × Int × Int × Int × Bool :=
  if goodT a b c d e = true ∧ xs.length ≤ 20 ∧ (xs.all fun x => goodS x.f0 x.f1) = true then runT xs xs.length 0 a b c d e 0 else (0, 0, 0, 0, 0, 0, false)

theorem sp_RunTrip_l1 (xs : List S49) (hx : xs.length ≤ 1048576) : ∀ (D i : Nat) (m a b c d e : Int), i + D = xs.length → 0 ≤ m → m ≤ i → Evn (fun k => spec_RunTrip.l1 k xs m (i : Int) a b c d e) (runT xs D i a b c d e m) := by
  intro D
  induction D with
  | zero =>
    intro i m a b c d e h _ _
    refine Evn.step ?_
    have h1 : ¬ (i : Int) < (xs.length : Int) := by omega
    simp only [spec_RunTrip.l1, if_neg h1, runT]
    exact Evn.done _
  | succ D ih =>
    intro i m a b c d e h h0 hm
    have h1 : (i : Int) < (xs.length : Int) := by omega
    have h2 : 0 ≤ (i : Int) := by omega
    have hw := wrap_succ (show i < 4611686018427387904 by omega)
    have hw2 : wrap64 (m + 1) = m + 1 := wrap_id (by clear hw; omega) (by clear hw; omega)
    refine Evn.step ?_
    simp only [spec_RunTrip.l1, if_pos h1, if_pos h2, hw, hw2, rd_T49, Int.toNat_natCast]
    clear hw hw2
    refine Evn.bind (sp_l21Make a b c d e _ _) ?_
    unfold runT
    refine Evn.ite (fun c1 => ?_) (fun c1 => ?_)
    · rw [if_pos c1]
      exact ih (i + 1) (m + 1) _ _ _ _ _ (by omega) (by omega) (by omega)
    · rw [if_neg c1]
      exact ih (i + 1) m a b c d e (by omega) (by omega) (by omega)
theorem sp_RunTrip_l0 (xs : List S49) (hx : xs.length ≤ 1048576) (a b c d e : Int) : ∀ (D i : Nat), i + D = xs.length → Evn (fun k => spec_RunTrip.l0 k xs (i : Int) a b c d e) (if ((xs.drop i).all fun x => goodS x.f0 x.f1) = true then runT xs xs.length 0 a b c d e 0 else (0, 0, 0, 0, 0, 0, false)) := by
  intro D
  induction D with
  | zero =>
    intro i h
    refine Evn.step ?_
    have h1 : ¬ (i : Int) < (xs.length : Int) := by omega
    simp only [spec_RunTrip.l0, if_neg h1]
    rw [List.drop_eq_nil_of_le (by omega), List.all_nil, if_pos rfl]
    exact sp_RunTrip_l1 xs hx xs.length 0 0 a b c d e (by omega) (by omega) (by omega)
  | succ D ih =>
    intro i h
    have h1 : (i : Int) < (xs.length : Int) := by omega
    have h2 : 0 ≤ (i : Int) := by omega
    have hw := wrap_succ (show i < 4611686018427387904 by omega)
    refine Evn.step ?_
    simp only [spec_RunTrip.l0, if_pos h1, if_pos h2, hw, rd_T49, Int.toNat_natCast, sp_l21Step, Option.bind_some]
    clear hw
    rw [getD_drop xs i z49 (by omega), List.all_cons]
    refine Evn.ite (fun c1 => ?_) (fun c1 => ?_)
    · rw [c1, Bool.true_and]
      exact ih (i + 1) (by omega)
    · rw [Bool.eq_false_iff.mpr c1, Bool.false_and, if_neg (by decide)]
      exact Evn.done _
theorem sp_RunTrip (a b c d e : Int) (xs : List S49) (hx : xs.length ≤ 1048576) : Evn (fun k => spec_RunTrip.f k a b c d e xs) (runTs a b c d e xs) := by
  unfold spec_RunTrip.f runTs
  refine Evn.bind (sp_l21Good a b c d e) ?_
  refine Evn.ite (fun c1 => Evn.step ?_) (fun c1 => Evn.step ?_)
  · simp only [spec_RunTrip.j0]
    refine Evn.ite (fun c2 => ?_) (fun c2 => ?_)
    · rw [if_neg (by have := of_decide_eq_true c2; intro h; omega)]
      exact Evn.done _
    · have c3 : xs.length ≤ 20 := by
        rcases Nat.lt_or_ge 20 xs.length with hc | hc
        · exact absurd (decide_eq_true (show (xs.length : Int) > 20 by omega)) c2
        · exact hc
      have h := sp_RunTrip_l0 xs hx a b c d e xs.length 0 (by omega)
      rw [List.drop_zero] at h
      refine h.eq_ ?_
      by_cases c4 : (xs.all fun x => goodS x.f0 x.f1) = true
      · rw [if_pos c4, if_pos ⟨c1, c3, c4⟩]
      · rw [if_neg c4, if_neg (fun h => c4 h.2.2)]
  · simp only [spec_RunTrip.j0, if_true]
    rw [if_neg (fun h => c1 h.1)]
    exact Evn.done _

/-! The draws: a cursor over bytes. -/
def Byts (l : List Int) : Prop := ∀ x ∈ l, 0 ≤ x ∧ x ≤ 255
theorem bits255 (x : Int) : 0 ≤ Go.bits .and .u64 x 255 ∧ Go.bits .and .u64 x 255 ≤ 255 := by
  have h : (BitVec.ofInt 64 x &&& BitVec.ofInt 64 255).toNat ≤ 255 := by rw [BitVec.toNat_and]; exact Nat.le_trans Nat.and_le_right (by decide)
  have e : Go.bits .and .u64 x 255 = IntKind.u64.wrap ((BitVec.ofInt 64 x &&& BitVec.ofInt 64 255).toNat : Int) := rfl
  rw [e, IntKind.wrap_u64]
  omega
theorem Byts.at_ {l : List Int} (h : Byts l) (p : Int) : 0 ≤ rd l p ∧ rd l p ≤ 255 := by
  unfold rd
  by_cases g : p.toNat < l.length
  · rw [List.getD_eq_getElem?_getD, List.getElem?_eq_getElem g, Option.getD_some]
    exact h _ (List.getElem_mem g)
  · rw [List.getD_eq_getElem?_getD, List.getElem?_eq_none (by omega), Option.getD_none]
    omega
theorem dw_next {l : List Int} {p : Int} (hl : Byts l) (h0 : 0 ≤ p) (h1 : p ≤ 2000000000) (s : Int) : ∃ r, spec_l1Cur_next.f l p s = some r ∧ 0 ≤ r.1 ∧ r.1 ≤ 255 ∧ r.2.1 = p + 1 := by
  have hr := hl.at_ p
  have e : wrap64 (rd l p) = rd l p := wrap_id (by omega) (by omega)
  have e2 : wrap64 (p + 1) = p + 1 := wrap_id (by omega) (by omega)
  unfold spec_l1Cur_next.f
  rw [e, e2]
  split
  · (try rw [if_pos h0])
    split
    · exact ⟨_, rfl, hr.1, hr.2, rfl⟩
    · refine ⟨_, rfl, ?_, ?_, rfl⟩
      · dsimp only; rw [wrap_id (by have := bits255; exact Int.le_trans (by decide) (this _).1) (Int.le_trans (bits255 _).2 (by decide))]; exact (bits255 _).1
      · dsimp only; rw [wrap_id (by have := bits255; exact Int.le_trans (by decide) (this _).1) (Int.le_trans (bits255 _).2 (by decide))]; exact (bits255 _).2
  · split
    · exact ⟨_, rfl, by dsimp only; omega, by dsimp only; omega, rfl⟩
    · refine ⟨_, rfl, ?_, ?_, rfl⟩
      · dsimp only; rw [wrap_id (by have := bits255; exact Int.le_trans (by decide) (this _).1) (Int.le_trans (bits255 _).2 (by decide))]; exact (bits255 _).1
      · dsimp only; rw [wrap_id (by have := bits255; exact Int.le_trans (by decide) (this _).1) (Int.le_trans (bits255 _).2 (by decide))]; exact (bits255 _).2

theorem tmod_in {x n : Int} (hx : 0 ≤ x) (hn : 1 < n) : 0 ≤ Int.tmod x n ∧ Int.tmod x n < n := by
  rw [Int.tmod_eq_emod_of_nonneg hx]
  exact ⟨Int.emod_nonneg _ (by omega), Int.emod_lt_of_pos _ (by omega)⟩
theorem dw_pick {l : List Int} {p : Int} (hl : Byts l) (h0 : 0 ≤ p) (h1 : p ≤ 1000000000) (s n : Int) : ∃ r, spec_l1Cur_pick.f l p s n = some r ∧ 0 ≤ r.1 ∧ (r.1 < n ∨ r.1 = 0) ∧ p ≤ r.2.1 ∧ r.2.1 ≤ p + 2 := by
  unfold spec_l1Cur_pick.f
  by_cases c : n ≤ 1
  · rw [if_pos c]
    exact ⟨_, rfl, by dsimp only; omega, Or.inr rfl, Int.le_refl _, by dsimp only; omega⟩
  · rw [if_neg c]
    obtain ⟨a, ha, a0, a1, a2⟩ := dw_next hl h0 (by omega) s
    rw [ha, Option.bind_some]
    split
    · obtain ⟨b, hb, b0, b1, b2⟩ := dw_next hl (p := a.2.1) (by omega) (by omega) a.2.2
      rw [hb, Option.bind_some, if_neg (by omega)]
      have t := tmod_in (x := wrap64 (wrap64 (a.1 * 256) + b.1)) (n := n) (by rw [wrap_id (x := a.1 * 256) (by omega) (by omega), wrap_id (by omega) (by omega)]; omega) (by omega)
      exact ⟨_, rfl, t.1, Or.inl t.2, by dsimp only; omega, by dsimp only; omega⟩
    · rw [if_neg (by omega)]
      have t := tmod_in (x := a.1) (n := n) a0 (by omega)
      exact ⟨_, rfl, t.1, Or.inl t.2, by dsimp only; omega, by dsimp only; omega⟩

theorem rd_mem {L : List Int} {i : Int} (h0 : 0 ≤ i) (h1 : i < L.length) : rd L i ∈ L := by
  unfold rd
  rw [List.getD_eq_getElem?_getD, List.getElem?_eq_getElem (by omega), Option.getD_some]
  exact List.getElem_mem _
theorem dw_among {l : List Int} {p : Int} (hl : Byts l) (h0 : 0 ≤ p) (h1 : p ≤ 1000000000) (s : Int) (L : List Int) (hL : 0 < L.length) : ∃ r, spec_l1Cur_among.f l p s L = some r ∧ r.1 ∈ L ∧ p ≤ r.2.1 ∧ r.2.1 ≤ p + 2 := by
  unfold spec_l1Cur_among.f
  obtain ⟨a, ha, a0, a1, a2, a3⟩ := dw_pick hl h0 h1 s (L.length : Int)
  have a4 : a.1 < (L.length : Int) := by omega
  rw [ha, Option.bind_some, if_pos a0, if_pos a4]
  exact ⟨_, rfl, rd_mem a0 a4, a2, a3⟩

/-- A draw that comes to an end, with few bytes. -/
theorem dw_tripStep {l : List Int} {p : Int} (hl : Byts l) (h0 : 0 ≤ p) (h1 : p ≤ 900000000) (s : Int) : ∃ r, Evn (fun k => spec_l1Cur_tripStep.f k l p s) r ∧ p ≤ r.2.2.1 ∧ r.2.2.1 ≤ p + 8 := by
  have fin : ∀ (q t a b : Int), p ≤ q → q ≤ p + 4 → ∃ r, Evn (fun k => spec_l1Cur_tripStep.j1 k l q t a b) r ∧ p ≤ r.2.2.1 ∧ r.2.2.1 ≤ p + 8 := by
    intro q t a b hq hq2
    obtain ⟨u, hu, u0, u1, u2, u3⟩ := dw_pick hl (p := q) (by omega) (by omega) t 40
    by_cases c1 : u.1 = 0
    · obtain ⟨v, hv, _, v2, v3⟩ := dw_among hl (p := u.2.1) (by omega) (by omega) u.2.2 [0, 7] (by decide)
      refine ⟨(v.1, b, v.2.1, v.2.2), Evn.step ?_, by dsimp only; omega, by dsimp only; omega⟩
      simp only [spec_l1Cur_tripStep.j1, hu, Option.bind_some, if_pos c1, hv]
      exact Evn.done _
    · by_cases c2 : u.1 = 1
      · obtain ⟨v, hv, _, v2, v3⟩ := dw_among hl (p := u.2.1) (by omega) (by omega) u.2.2 [-1, 0, 1000] (by decide)
        refine ⟨(a, v.1, v.2.1, v.2.2), Evn.step ?_, by dsimp only; omega, by dsimp only; omega⟩
        simp only [spec_l1Cur_tripStep.j1, hu, Option.bind_some, if_neg c1, if_pos c2, hv]
        exact Evn.done _
      · refine ⟨(a, b, u.2.1, u.2.2), Evn.step ?_, by dsimp only; omega, by dsimp only; omega⟩
        simp only [spec_l1Cur_tripStep.j1, hu, Option.bind_some, if_neg c1, if_neg c2]
        exact Evn.done _
  have fin0 : ∀ (x : Bool) (q t a b : Int), p ≤ q → q ≤ p + 4 → ∃ r, Evn (fun k => spec_l1Cur_tripStep.j0 k x l q t a b) r ∧ p ≤ r.2.2.1 ∧ r.2.2.1 ≤ p + 8 := by
    intro x q t a b hq hq2
    cases x with
    | true =>
      obtain ⟨r, hr, h2⟩ := fin q t a 0 hq hq2
      refine ⟨r, Evn.step ?_, h2⟩
      simp only [spec_l1Cur_tripStep.j0, if_true]
      exact hr
    | false =>
      obtain ⟨r, hr, h2⟩ := fin q t a b hq hq2
      refine ⟨r, Evn.step ?_, h2⟩
      simp only [spec_l1Cur_tripStep.j0, Bool.false_eq_true, if_false]
      exact hr
  obtain ⟨a, ha, _, a2, a3⟩ := dw_among hl h0 (by omega) s [1, 1, 2, 2, 3, 3, 3, 4, 5, 6] (by decide)
  obtain ⟨b, hb, _, b2, b3⟩ := dw_among hl (p := a.2.1) (by omega) (by omega) a.2.2 [1, 1, 2, 3, 10, 50] (by decide)
  unfold spec_l1Cur_tripStep.f
  simp only [ha, hb, Option.bind_some]
  by_cases c : a.1 = 4
  · simp only [if_pos c]
    exact fin0 _ _ _ _ _ (by omega) (by omega)
  · simp only [if_neg c]
    exact fin0 _ _ _ _ _ (by omega) (by omega)

theorem dw_one {l : List Int} {p : Int} (hl : Byts l) (h0 : 0 ≤ p) (h1 : p ≤ 1000000000) (s n : Int) : ∃ r, spec_l1Cur_one.f l p s n = some r ∧ p ≤ r.2.1 ∧ r.2.1 ≤ p + 2 := by
  unfold spec_l1Cur_one.f
  obtain ⟨a, ha, a0, a1, a2, a3⟩ := dw_pick hl h0 h1 s n
  rw [ha, Option.bind_some]
  exact ⟨_, rfl, a2, a3⟩

theorem dw_trip_l0 {l : List Int} (hl : Byts l) : ∀ (D : Nat) (p s a b c d e : Int), 0 ≤ p → p ≤ 800000000 - 10 * (D : Int) → ∃ r, Evn (fun k => spec_l1Cur_trip.l0 k (D : Int) l p s a b c d e) r ∧ p ≤ r.2.2.2.2.2.1 ∧ r.2.2.2.2.2.1 ≤ p + 4 + 10 * (D : Int) := by
  intro D
  induction D with
  | zero =>
    intro p s a b c d e h0 h1
    obtain ⟨u, hu, u0, u1, u2, u3⟩ := dw_pick hl h0 (by omega) s 32
    have hn : ¬ ((0 : Nat) : Int) > 0 := by decide
    by_cases c1 : u.1 = 0
    · obtain ⟨v, hv, _, v2, v3⟩ := dw_among hl (p := u.2.1) (by omega) (by omega) u.2.2 [-1, 1, 2, 6] (by decide)
      refine ⟨(v.1, b, c, d, e, v.2.1, v.2.2), Evn.step ?_, by dsimp only; omega, by dsimp only; omega⟩
      simp only [spec_l1Cur_trip.l0, if_neg hn, hu, Option.bind_some, if_pos c1, hv]
      exact Evn.done _
    · by_cases c2 : u.1 = 1
      · refine ⟨(a, b, wrap64 (c + 1), d, e, u.2.1, u.2.2), Evn.step ?_, by dsimp only; omega, by dsimp only; omega⟩
        simp only [spec_l1Cur_trip.l0, if_neg hn, hu, Option.bind_some, if_neg c1, if_pos c2]
        exact Evn.done _
      · by_cases c3 : u.1 = 2
        · obtain ⟨v, hv, _, v2, v3⟩ := dw_among hl (p := u.2.1) (by omega) (by omega) u.2.2 [-1, 5, 1000] (by decide)
          refine ⟨(a, b, c, v.1, e, v.2.1, v.2.2), Evn.step ?_, by dsimp only; omega, by dsimp only; omega⟩
          simp only [spec_l1Cur_trip.l0, if_neg hn, hu, Option.bind_some, if_neg c1, if_neg c2, if_pos c3, hv]
          exact Evn.done _
        · refine ⟨(a, b, c, d, e, u.2.1, u.2.2), Evn.step ?_, by dsimp only; omega, by dsimp only; omega⟩
          simp only [spec_l1Cur_trip.l0, if_neg hn, hu, Option.bind_some, if_neg c1, if_neg c2, if_neg c3]
          exact Evn.done _
  | succ D ih =>
    intro p s a b c d e h0 h1
    obtain ⟨u, hu, u2, u3⟩ := dw_tripStep hl h0 (by omega) s
    have hp : ((D + 1 : Nat) : Int) > 0 := by omega
    have hw : wrap64 (((D + 1 : Nat) : Int) - 1) = (D : Int) := wrap_pred (by omega)
    -- the round's second half
    have go1 : ∀ (x : Bool) (q t y z : Int), p ≤ q → q ≤ p + 10 → ∃ r, Evn (fun k => spec_l1Cur_trip.j1 k ((D + 1 : Nat) : Int) x l q t a b c d e y z) r ∧ p ≤ r.2.2.2.2.2.1 ∧ r.2.2.2.2.2.1 ≤ p + 4 + 10 * ((D + 1 : Nat) : Int) := by
      intro x q t y z hq hq2
      have go2 : ∀ a b c d e, ∃ r, Evn (fun k => spec_l1Cur_trip.l0 k (D : Int) l q t a b c d e) r ∧ p ≤ r.2.2.2.2.2.1 ∧ r.2.2.2.2.2.1 ≤ p + 4 + 10 * ((D + 1 : Nat) : Int) := by
        intro a b c d e
        obtain ⟨r, hr, r1, r2⟩ := ih q t a b c d e (by omega) (by omega)
        exact ⟨r, hr, by omega, by omega⟩
      cases x with
      | false =>
        obtain ⟨r, hr, h2⟩ := go2 a b c d e
        refine ⟨r, Evn.step ?_, h2⟩
        simp only [spec_l1Cur_trip.j1, Bool.false_eq_true, if_false, hw]
        exact hr
      | true =>
        have hs := sp_StepTrip a b c d e y z
        generalize stepTs a b c d e y z = T at hs
        by_cases cT : T.2.2.2.2.2 = true
        · obtain ⟨r, hr, h2⟩ := go2 T.1 T.2.1 T.2.2.1 T.2.2.2.1 T.2.2.2.2.1
          refine ⟨r, Evn.step ?_, h2⟩
          simp only [spec_l1Cur_trip.j1, if_true, hw]
          refine Evn.bind hs ?_
          simp only [if_pos cT]
          exact hr
        · obtain ⟨r, hr, h2⟩ := go2 a b c d e
          refine ⟨r, Evn.step ?_, h2⟩
          simp only [spec_l1Cur_trip.j1, if_true, hw]
          refine Evn.bind hs ?_
          simp only [if_neg cT]
          exact hr
    by_cases c1 : goodS u.1 u.2.1 = true
    · by_cases c2 : u.1 = 5
      · obtain ⟨v, hv, v2, v3⟩ := dw_one hl (p := u.2.2.1) (by omega) (by omega) u.2.2.2 8
        obtain ⟨r, hr, h2⟩ := go1 v.1 v.2.1 v.2.2 u.1 u.2.1 (by omega) (by omega)
        refine ⟨r, Evn.step ?_, h2⟩
        simp only [spec_l1Cur_trip.l0, if_pos hp]
        refine Evn.bind hu ?_
        simp only [sp_l21Step, Option.bind_some, if_pos c1, if_pos c2, hv]
        exact hr
      · obtain ⟨r, hr, h2⟩ := go1 true u.2.2.1 u.2.2.2 u.1 u.2.1 (by omega) (by omega)
        refine ⟨r, Evn.step ?_, h2⟩
        simp only [spec_l1Cur_trip.l0, if_pos hp]
        refine Evn.bind hu ?_
        simp only [sp_l21Step, Option.bind_some, if_pos c1, if_neg c2]
        exact hr
    · obtain ⟨v, hv, v2, v3⟩ := dw_one hl (p := u.2.2.1) (by omega) (by omega) u.2.2.2 8
      obtain ⟨r, hr, h2⟩ := go1 v.1 v.2.1 v.2.2 u.1 u.2.1 (by omega) (by omega)
      refine ⟨r, Evn.step ?_, h2⟩
      simp only [spec_l1Cur_trip.l0, if_pos hp]
      refine Evn.bind hu ?_
      simp only [sp_l21Step, Option.bind_some, if_neg c1, hv]
      exact hr
theorem dw_trip {l : List Int} {p : Int} (hl : Byts l) (h0 : 0 ≤ p) (h1 : p ≤ 700000000) (s : Int) : ∃ r, Evn (fun k => spec_l1Cur_trip.f k l p s) r ∧ p ≤ r.2.2.2.2.2.1 ∧ r.2.2.2.2.2.1 ≤ p + 100 := by
  unfold spec_l1Cur_trip.f
  obtain ⟨a, ha, a0, a1, a2, a3⟩ := dw_pick hl h0 (by omega) s 6
  obtain ⟨b, hb, _, b2, b3⟩ := dw_among hl (p := a.2.1) (by omega) (by omega) a.2.2 [10, 50, 100, 999] (by decide)
  obtain ⟨c, hc, c0, c1, c2, c3⟩ := dw_pick hl (p := b.2.1) (by omega) (by omega) b.2.2 12
  obtain ⟨d, hd, d0, d1, d2, d3⟩ := dw_pick hl (p := c.2.1) (by omega) (by omega) c.2.2 7
  simp only [ha, hb, hc, hd, Option.bind_some]
  obtain ⟨D, hD⟩ : ∃ D : Nat, d.1 = D := ⟨d.1.toNat, by omega⟩
  rw [hD]
  obtain ⟨r, hr, r1, r2⟩ := dw_trip_l0 hl D d.2.1 d.2.2 0 (wrap64 (1 + a.1)) 0 b.1 c.1 (by omega) (by omega)
  exact ⟨r, hr, by omega, by omega⟩

theorem dw_DrawStepTrip {l : List Int} (hl : Byts l) : ∃ r, Evn (fun k => spec_DrawStepTrip.f k l) r := by
  unfold spec_DrawStepTrip.f
  obtain ⟨a, ha, a2, a3⟩ := dw_trip hl (p := 0) (by decide) (by decide) 0
  obtain ⟨b, hb, b2, b3⟩ := dw_tripStep hl (p := a.2.2.2.2.2.1) (by omega) (by omega) a.2.2.2.2.2.2
  exact ⟨_, Evn.bind ha (Evn.bind hb (Evn.done _))⟩

theorem dw_DrawRunTrip_l1 {l : List Int} (hl : Byts l) (a b c d e : Int) : ∀ (D : Nat) (zs : List S49) (p s : Int), zs.length + D = 21 → 0 ≤ p → p ≤ 100000000 - 2 * (D : Int) → ∃ r, Evn (fun k => spec_DrawRunTrip.l1 k zs l p s a b c d e) r ∧ r.2.2.2.2.2.length ≤ 100 := by
  intro D
  induction D with
  | zero =>
    intro zs p s hz h0 h1
    obtain ⟨u, hu, u0, u1, u2, u3⟩ := dw_pick hl h0 (by omega) s 2
    refine ⟨(a, b, c, d, e, zs), Evn.step ?_, by dsimp only; omega⟩
    have hn : ¬ (zs.length : Int) < wrap64 (20 + u.1) := by rw [wrap_id (by omega) (by omega)]; omega
    simp only [spec_DrawRunTrip.l1, hu, Option.bind_some, if_neg hn]
    exact Evn.done _
  | succ D ih =>
    intro zs p s hz h0 h1
    obtain ⟨u, hu, u0, u1, u2, u3⟩ := dw_pick hl h0 (by omega) s 2
    by_cases c1 : (zs.length : Int) < wrap64 (20 + u.1)
    · obtain ⟨r, hr, h2⟩ := ih (zs ++ [⟨3, 1⟩]) u.2.1 u.2.2 (by rw [List.length_append, List.length_singleton]; omega) (by omega) (by omega)
      refine ⟨r, Evn.step ?_, h2⟩
      have hq : zs.length < 8796093022208 := by omega
      simp only [spec_DrawRunTrip.l1, hu, Option.bind_some, if_pos c1, if_pos hq]
      exact hr
    · refine ⟨(a, b, c, d, e, zs), Evn.step ?_, by dsimp only; omega⟩
      simp only [spec_DrawRunTrip.l1, hu, Option.bind_some, if_neg c1]
      exact Evn.done _
theorem dw_DrawRunTrip_l0 {l : List Int} (hl : Byts l) (a b c d e : Int) : ∀ (D : Nat) (zs : List S49) (p s : Int), zs.length + D ≤ 20 → 0 ≤ p → p ≤ 1000000 - 10 * (D : Int) → ∃ r, Evn (fun k => spec_DrawRunTrip.l0 k zs (D : Int) l p s a b c d e) r ∧ r.2.2.2.2.2.length ≤ 100 := by
  intro D
  induction D with
  | zero =>
    intro zs p s hz h0 h1
    obtain ⟨u, hu, u2, u3⟩ := dw_one hl h0 (by omega) s 24
    have hn : ¬ ((0 : Nat) : Int) > 0 := by decide
    by_cases c1 : u.1 = true
    · obtain ⟨r, hr, h2⟩ := dw_DrawRunTrip_l1 hl a b c d e (21 - zs.length) zs u.2.1 u.2.2 (by omega) (by omega) (by omega)
      refine ⟨r, Evn.step ?_, h2⟩
      simp only [spec_DrawRunTrip.l0, if_neg hn, hu, Option.bind_some, if_pos c1]
      exact hr
    · refine ⟨(a, b, c, d, e, zs), Evn.step ?_, by dsimp only; omega⟩
      simp only [spec_DrawRunTrip.l0, if_neg hn, hu, Option.bind_some, if_neg c1]
      exact Evn.done _
  | succ D ih =>
    intro zs p s hz h0 h1
    obtain ⟨u, hu, u2, u3⟩ := dw_tripStep hl h0 (by omega) s
    have hp : ((D + 1 : Nat) : Int) > 0 := by omega
    have hw : wrap64 (((D + 1 : Nat) : Int) - 1) = (D : Int) := wrap_pred (by omega)
    obtain ⟨r, hr, h2⟩ := ih (zs ++ [⟨u.1, u.2.1⟩]) u.2.2.1 u.2.2.2 (by rw [List.length_append, List.length_singleton]; omega) (by omega) (by omega)
    refine ⟨r, Evn.step ?_, h2⟩
    have hq : zs.length < 8796093022208 := by omega
    simp only [spec_DrawRunTrip.l0, if_pos hp, hw]
    refine Evn.bind hu ?_
    simp only [if_pos hq]
    exact hr
theorem dw_DrawRunTrip {l : List Int} (hl : Byts l) : ∃ r, Evn (fun k => spec_DrawRunTrip.f k l) r ∧ r.2.2.2.2.2.length ≤ 100 := by
  unfold spec_DrawRunTrip.f
  obtain ⟨a, ha, a2, a3⟩ := dw_trip hl (p := 0) (by decide) (by decide) 0
  obtain ⟨b, hb, b0, b1, b2, b3⟩ := dw_pick hl (p := a.2.2.2.2.2.1) (by omega) (by omega) a.2.2.2.2.2.2 9
  obtain ⟨D, hD⟩ : ∃ D : Nat, b.1 = D := ⟨b.1.toNat, by omega⟩
  obtain ⟨r, hr, h2⟩ := dw_DrawRunTrip_l0 hl a.1 a.2.1 a.2.2.1 a.2.2.2.1 a.2.2.2.2.1 D [] b.2.1 b.2.2 (by simp only [List.length_nil]; omega) (by omega) (by omega)
  refine ⟨r, Evn.bind ha ?_, h2⟩
  simp only [hb, Option.bind_some, hD]
  exact hr

theorem dw_DrawIsTrip {l : List Int} (hl : Byts l) : ∃ r, Evn (fun k => spec_DrawIsTrip.f k l) r := by
  unfold spec_DrawIsTrip.f
  obtain ⟨a, ha, a2, a3⟩ := dw_trip hl (p := 0) (by decide) (by decide) 0
  exact ⟨_, Evn.bind ha (Evn.done _)⟩

theorem dw_DrawNextKinds {l : List Int} (hl : Byts l) : ∃ r, Evn (fun k => spec_DrawNextKinds.f k l) r := by
  unfold spec_DrawNextKinds.f
  obtain ⟨a, ha⟩ := dw_DrawIsTrip hl
  exact ⟨_, Evn.bind ha (Evn.done _)⟩

theorem dw_DrawTimeLeft {l : List Int} (hl : Byts l) : ∃ r, Evn (fun k => spec_DrawTimeLeft.f k l) r := by
  unfold spec_DrawTimeLeft.f
  obtain ⟨a, ha⟩ := dw_DrawIsTrip hl
  exact ⟨_, Evn.bind ha (Evn.done _)⟩

theorem im_within (x y z : Int) : impl_within.f x y z = some (decide (y ≤ x ∧ x ≤ z)) := by
  unfold impl_within.f
  by_cases h : x ≥ y <;> simp [h] <;> omega

theorem im_isTime (x : Int) : impl_isTime.f x = some (decide (0 ≤ x ∧ x ≤ 999)) := by
  simp only [impl_isTime.f, im_within, Option.bind_some]
theorem im_IsTrip_j1 (k : Nat) (p b c d e : Int) (q : Bool) (hq : q = decide (p = 0 ∨ p = 4 ∨ p = 5)) : impl_IsTrip.j1 (k + 1) p q p b c d e = some (decide (0 ≤ p ∧ p ≤ 5) && (if 1 ≤ p ∧ p ≤ 3 then decide (1 ≤ c ∧ c ≤ b) && ((p == 1) == decide (e ≤ d)) else c == 0)) := by
  subst hq
  simp only [impl_IsTrip.j1, im_within, Option.bind_some, ite_and]
  by_cases h0 : p = 0
  · subst h0; simp
  by_cases h4 : p = 4
  · subst h4; simp
  by_cases h5 : p = 5
  · subst h5; simp
  by_cases h1 : p = 1
  · subst h1; simp
  have hn : decide (d < e) = !decide (e ≤ d) := by by_cases h : e ≤ d <;> simp [h] <;> omega
  by_cases h2 : p = 2
  · subst h2; simp [hn]
  by_cases h3 : p = 3
  · subst h3; simp [hn]
  have : ¬ (0 ≤ p ∧ p ≤ 5) := by omega
  simp [h0, h1, h2, h3, h4, h5, this]
theorem im_IsTrip (a b c d e : Int) : Evn (fun k => impl_IsTrip.f k a b c d e) (goodT a b c d e) := by
  refine Evn.step (Evn.step ?_)
  refine Evn.of fun k => ?_
  unfold goodT
  simp only [impl_IsTrip.f, impl_IsTrip.j0, im_isTime, im_within, Option.bind_some]
  have e0 : impl_IsTrip.j1 (k + 1) a (a == 0) a b c d e = impl_IsTrip.j1 (k + 1) a (a == 0) a b c d e := rfl
  by_cases h2 : 1 ≤ b ∧ b ≤ 12
  · by_cases h3 : 0 ≤ d ∧ d ≤ 999
    · by_cases h4 : 0 ≤ e ∧ e ≤ 999
      · by_cases g0 : a = 0
        · rw [if_pos (decide_eq_true h2), if_pos (decide_eq_true h3), decide_eq_true h4, if_neg (by decide), if_pos g0, im_IsTrip_j1 k a b c d e _ (by simp [g0])]
          simp [h2, h3]
        · by_cases g4 : a = 4
          · rw [if_pos (decide_eq_true h2), if_pos (decide_eq_true h3), decide_eq_true h4, if_neg (by decide), if_neg g0, if_pos g4, im_IsTrip_j1 k a b c d e _ (by simp [g4])]
            simp [h2, h3]
          · rw [if_pos (decide_eq_true h2), if_pos (decide_eq_true h3), decide_eq_true h4, if_neg (by decide), if_neg g0, if_neg g4, im_IsTrip_j1 k a b c d e _ (by by_cases g5 : a = 5 <;> simp [g0, g4, g5])]
            simp [h2, h3]
      · simp [h2, h3, h4]
    · simp [h2, h3]
  · simp [h2]

theorem good_in {a b c d e : Int} (h : goodT a b c d e = true) : (0 ≤ a ∧ a ≤ 5) ∧ (1 ≤ b ∧ b ≤ 12) ∧ (0 ≤ d ∧ d ≤ 999) ∧ (0 ≤ e ∧ e ≤ 999) ∧ (1 ≤ a → a ≤ 3 → (1 ≤ c ∧ c ≤ b) ∧ (a = 1 ↔ e ≤ d)) ∧ (¬ (1 ≤ a ∧ a ≤ 3) → c = 0) := by
  simp only [goodT, Bool.and_eq_true, decide_eq_true_eq] at h
  obtain ⟨⟨h1, h2, h3, h4⟩, h5⟩ := h
  refine ⟨h1, h2, h3, h4, fun g1 g2 => ?_, fun g => ?_⟩
  · rw [if_pos ⟨g1, g2⟩] at h5
    simp only [Bool.and_eq_true, decide_eq_true_eq] at h5
    refine ⟨h5.1, ?_⟩
    have h6 := h5.2
    by_cases ha : a = 1 <;> by_cases hd : e ≤ d <;> simp [ha, hd] at h6 ⊢
  · rw [if_neg g] at h5
    simpa using h5
def mostT (a b c d e q : Int) : Int :=
  if q = 1 then (if (a = 0 ∨ a = 1) ∧ e < d then (if b - c = 0 then -1 else b - c) else -1)
  else if q = 2 then (if c = 0 then -1 else c) else if q = 3 then (if 999 - e = 0 then -1 else 999 - e)
  else if q = 6 then (if a = 1 then (if 999 - d = 0 then -1 else 999 - d) else -1)
  else if q = 4 then (if a = 2 then 0 else -1) else if q = 5 then (if a = 0 then 0 else -1) else -1
theorem im_most {a b c d e : Int} (h : goodT a b c d e = true) (q : Int) : Evn (fun k => impl_Trip_most.f k a b c d e q) (mostT a b c d e q) := by
  obtain ⟨h1, h2, h3, h4, h5, h6⟩ := good_in h
  have hc : 0 ≤ c ∧ c ≤ 12 := by
    by_cases g : 1 ≤ a ∧ a ≤ 3
    · have := (h5 g.1 g.2).1; omega
    · have := h6 g; omega
  refine Evn.step ?_
  refine Evn.of fun k => ?_
  have w1 : wrap64 (b - c) = b - c := wrap_id (by omega) (by omega)
  have w2 : wrap64 (999 - e) = 999 - e := wrap_id (by clear w1; omega) (by clear w1; omega)
  have w3 : wrap64 (999 - d) = 999 - d := wrap_id (by clear w1 w2; omega) (by clear w1 w2; omega)
  unfold mostT
  simp only [impl_Trip_most.f, impl_Trip_most.j0, w1, w2, w3]
  clear w1 w2 w3
  by_cases g1 : q = 1
  · simp only [if_pos g1]
    by_cases g2 : e < d
    · by_cases g3 : a = 0
      · rw [if_pos (show (a = 0 ∨ a = 1) ∧ e < d from ⟨.inl g3, g2⟩)]
        simp only [if_pos g3, decide_eq_true g2, if_true]
        split <;> rfl
      · by_cases g4 : a = 1
        · rw [if_pos (show (a = 0 ∨ a = 1) ∧ e < d from ⟨.inr g4, g2⟩)]
          simp only [if_neg g3, if_pos g4, decide_eq_true g2, if_true]
          split <;> rfl
        · rw [if_neg (show ¬ ((a = 0 ∨ a = 1) ∧ e < d) from fun h => by omega)]
          simp only [if_neg g3, if_neg g4, Bool.false_eq_true, if_false]
          rfl
    · rw [if_neg (show ¬ ((a = 0 ∨ a = 1) ∧ e < d) from fun h => g2 h.2)]
      simp only [decide_eq_false g2, Bool.false_eq_true, if_false]
      split
      · rfl
      · split <;> rfl
  · simp only [if_neg g1]
    repeat' split
    all_goals first | rfl | (exfalso; omega) | contradiction

theorem most_can {a b c d e : Int} (h : goodT a b c d e = true) (q : Int) (hq : 1 ≤ q ∧ q ≤ 6) : canB a b c d e q = decide (mostT a b c d e q ≥ 0) := by
  obtain ⟨h1, h2, h3, h4, h5, h6⟩ := good_in h
  have hc : 0 ≤ c ∧ c ≤ 12 := by
    by_cases g : 1 ≤ a ∧ a ≤ 3
    · have := (h5 g.1 g.2).1; omega
    · have := h6 g; omega
  have w1 : wrap64 (b - c) = b - c := wrap_id (by omega) (by omega)
  have w2 : wrap64 (999 - e) = 999 - e := wrap_id (by clear w1; omega) (by clear w1; omega)
  have w3 : wrap64 (999 - d) = 999 - d := wrap_id (by clear w1 w2; omega) (by clear w1 w2; omega)
  unfold canB stepT mostT
  rw [w1, w2, w3, Bool.eq_iff_iff, decide_eq_true_eq]
  clear w1 w2 w3
  by_cases g1 : q = 1
  · rw [if_neg (show ¬ (q = 4 ∨ q = 5) by omega), if_pos g1, if_pos g1]
    simp only [Bool.and_eq_true, decide_eq_true_eq]
    split
    · split <;> omega
    · omega
  by_cases g2 : q = 2
  · rw [if_neg (show ¬ (q = 4 ∨ q = 5) by omega), if_neg g1, if_pos g2, if_neg g1, if_pos g2]
    simp only [Bool.and_eq_true, decide_eq_true_eq]
    by_cases g : 1 ≤ a ∧ a ≤ 3
    · have := h5 g.1 g.2
      split <;> omega
    · have := h6 g
      split <;> omega
  by_cases g3 : q = 3
  · rw [if_neg (show ¬ (q = 4 ∨ q = 5) by omega), if_neg g1, if_neg g2, if_pos g3, if_neg g1, if_neg g2, if_pos g3]
    simp only [decide_eq_true_eq]
    split <;> omega
  by_cases g4 : q = 4
  · rw [if_pos (show (q = 4 ∨ q = 5) by omega), if_neg g1, if_neg g2, if_neg g3, if_pos g4, if_neg g1, if_neg g2, if_neg g3, if_neg (show ¬ q = 6 by omega), if_pos g4]
    simp only [beq_iff_eq]
    split <;> omega
  by_cases g5 : q = 5
  · rw [if_pos (show (q = 4 ∨ q = 5) by omega), if_neg g1, if_neg g2, if_neg g3, if_neg g4, if_pos g5, if_neg g1, if_neg g2, if_neg g3, if_neg (show ¬ q = 6 by omega), if_neg g4, if_pos g5]
    simp only [beq_iff_eq]
    split <;> omega
  · have g6 : q = 6 := by omega
    rw [if_neg (show ¬ (q = 4 ∨ q = 5) by omega), if_neg g1, if_neg g2, if_neg g3, if_neg g4, if_neg g5, if_neg g1, if_neg g2, if_neg g3, if_pos g6]
    simp only [Bool.and_eq_true, decide_eq_true_eq]
    split
    · split <;> omega
    · omega
theorem im_NextKinds_l0 {a b c d e : Int} (hg : goodT a b c d e = true) : ∀ (D : Nat) (q : Int) (zs : List Int), q + D = 7 → 1 ≤ q → (zs.length : Int) ≤ q → Evn (fun k => impl_NextKinds.l0 k zs q a b c d e) (zs ++ kindsFrom a b c d e D q, true) := by
  intro D
  induction D with
  | zero =>
    intro q zs h _ _
    refine Evn.step ?_
    have h1 : ¬ q ≤ 6 := by omega
    simp only [impl_NextKinds.l0, if_neg h1, kindsFrom, List.append_nil]
    exact Evn.done _
  | succ D ih =>
    intro q zs h h0 hz
    have h1 : q ≤ 6 := by omega
    have hw : wrap64 (q + 1) = q + 1 := wrap_id (by omega) (by omega)
    refine Evn.step ?_
    simp only [impl_NextKinds.l0, if_pos h1, hw]
    clear hw
    refine Evn.bind (im_most hg q) ?_
    have e1 := most_can hg q ⟨h0, h1⟩
    refine Evn.ite (fun c1 => ?_) (fun c1 => ?_)
    · rw [decide_eq_true c1] at e1
      simp only [kindsFrom, e1, if_true]
      refine Evn.ite (fun _ => ?_) (fun c => absurd (by omega) c)
      have h3 := ih (q + 1) (zs ++ [q]) (by omega) (by omega) (by rw [List.length_append, List.length_singleton]; omega)
      rw [List.append_assoc] at h3
      exact h3
    · rw [decide_eq_false c1] at e1
      simp only [kindsFrom, e1, Bool.false_eq_true, if_false]
      exact ih (q + 1) zs (by omega) (by omega) (by omega)
theorem im_NextKinds (a b c d e : Int) : Evn (fun k => impl_NextKinds.f k a b c d e) (nextTs a b c d e) := by
  unfold impl_NextKinds.f nextTs
  refine Evn.bind (im_IsTrip a b c d e) ?_
  refine Evn.ite (fun c1 => ?_) (fun c1 => by rw [if_neg c1]; exact Evn.done _)
  rw [if_pos c1]
  have h := im_NextKinds_l0 c1 6 1 [] (by omega) (by omega) (by simp)
  simpa using h

theorem im_isTripStep (q n : Int) : impl_isTripStep.f q n = some (goodS q n) := by
  unfold impl_isTripStep.f goodS
  by_cases h4 : q = 4
  · simp [h4]
  · by_cases h5 : q = 5
    · simp [h5]
    · simp only [if_neg h4, if_neg h5, im_within, Option.bind_some, ite_and]
      rw [if_neg (by omega)]

theorem im_Trip_step {a b c d e : Int} (h : goodT a b c d e = true) {q n : Int} (hs : goodS q n = true) : Evn (fun k => impl_Trip_step.f k a b c d e q n) (only (stepT a b c d e q n)) := by
  obtain ⟨h1, h2, h3, h4, h5, h6⟩ := good_in h
  have hc : 0 ≤ c ∧ c ≤ 12 := by
    by_cases g : 1 ≤ a ∧ a ≤ 3
    · have := (h5 g.1 g.2).1; omega
    · have := h6 g; omega
  have hm := im_most h q
  have hj : ∀ low : Int, low = (if q = 4 ∨ q = 5 then 0 else 1) → Evn (fun k => impl_Trip_step.j1 k low a b c d e q n) (only (stepT a b c d e q n)) := by
    intro low hlow
    refine Evn.step ?_
    simp only [impl_Trip_step.j1]
    refine Evn.bind hm ?_
    simp only [im_within, Option.bind_some]
    refine Evn.of fun k => ?_
    unfold goodS at hs
    by_cases g1 : q = 1
    · rw [if_neg (by omega)] at hlow
      subst hlow
      have e1 : (decide (a ≤ 1) && (decide (1 ≤ n ∧ n ≤ wrap64 (b - c)) && decide (e < d))) = decide (1 ≤ n ∧ n ≤ mostT a b c d e q) := by
        rw [(wrap_id (by omega) (by omega) : wrap64 (b - c) = b - c), Bool.eq_iff_iff]
        simp only [Bool.and_eq_true, decide_eq_true_eq]
        unfold mostT
        rw [if_pos g1]
        split
        · split <;> omega
        · omega
      unfold stepT only
      simp only [if_pos g1, e1]
      split
      · rename_i hh; rw [hh]
      · rfl
    by_cases g2 : q = 2
    · rw [if_neg (by omega)] at hlow
      subst hlow
      have e1 : (decide (1 ≤ a ∧ a ≤ 3) && decide (1 ≤ n ∧ n ≤ c)) = decide (1 ≤ n ∧ n ≤ mostT a b c d e q) := by
        rw [Bool.eq_iff_iff]
        simp only [Bool.and_eq_true, decide_eq_true_eq]
        unfold mostT
        rw [if_neg g1, if_pos g2]
        by_cases g : 1 ≤ a ∧ a ≤ 3
        · split <;> omega
        · have := h6 g
          split <;> omega
      unfold stepT only
      simp only [if_neg g1, if_pos g2, e1]
      split
      · rename_i hh; rw [hh]; split <;> rfl
      · rfl
    by_cases g3 : q = 3
    · rw [if_neg (by omega)] at hlow
      subst hlow
      have e1 : decide (1 ≤ n ∧ n ≤ wrap64 (999 - e)) = decide (1 ≤ n ∧ n ≤ mostT a b c d e q) := by
        rw [(wrap_id (by omega) (by omega) : wrap64 (999 - e) = 999 - e), Bool.eq_iff_iff]
        simp only [decide_eq_true_eq]
        unfold mostT
        rw [if_neg g1, if_neg g2, if_pos g3]
        split <;> omega
      unfold stepT only
      simp only [if_neg g1, if_neg g2, if_pos g3, e1]
      split
      · rename_i hh
        rw [hh]
        by_cases ga : a = 1
        · by_cases gw : wrap64 (e + n) > d
          · rw [if_pos ga, if_pos gw, if_pos (show a = 1 ∧ wrap64 (e + n) > d from ⟨ga, gw⟩)]
          · rw [if_pos ga, if_neg gw, if_neg (show ¬ (a = 1 ∧ wrap64 (e + n) > d) from fun hx => gw hx.2)]
        · rw [if_neg ga, if_neg (show ¬ (a = 1 ∧ wrap64 (e + n) > d) from fun hx => ga hx.1)]
      · rfl
    by_cases g4 : q = 4
    · rw [if_pos (Or.inl g4)] at hlow hs
      subst hlow
      have hn : n = 0 := by simpa using hs
      have e1 : (a == 2) = decide (0 ≤ n ∧ n ≤ mostT a b c d e q) := by
        rw [Bool.eq_iff_iff]
        simp only [beq_iff_eq, decide_eq_true_eq]
        unfold mostT
        rw [if_neg g1, if_neg g2, if_neg g3, if_neg (by omega), if_pos g4]
        split <;> omega
      unfold stepT only
      simp only [if_neg g1, if_neg g2, if_neg g3, if_pos g4, e1]
      split
      · rename_i hh; rw [hh]
      · rfl
    by_cases g5 : q = 5
    · rw [if_pos (Or.inr g5)] at hlow hs
      subst hlow
      have hn : n = 0 := by simpa using hs
      have e1 : (a == 0) = decide (0 ≤ n ∧ n ≤ mostT a b c d e q) := by
        rw [Bool.eq_iff_iff]
        simp only [beq_iff_eq, decide_eq_true_eq]
        unfold mostT
        rw [if_neg g1, if_neg g2, if_neg g3, if_neg (by omega), if_neg g4, if_pos g5]
        split <;> omega
      unfold stepT only
      simp only [if_neg g1, if_neg g2, if_neg g3, if_neg g4, if_pos g5, e1]
      split
      · rename_i hh; rw [hh]
      · rfl
    · have g45 : ¬ (q = 4 ∨ q = 5) := by omega
      rw [if_neg g45] at hlow hs
      subst hlow
      have g6 : q = 6 := by
        simp only [Bool.and_eq_true, decide_eq_true_eq] at hs
        omega
      have e1 : (decide (a = 1) && decide (1 ≤ n ∧ n ≤ wrap64 (999 - d))) = decide (1 ≤ n ∧ n ≤ mostT a b c d e q) := by
        rw [(wrap_id (by omega) (by omega) : wrap64 (999 - d) = 999 - d), Bool.eq_iff_iff]
        simp only [Bool.and_eq_true, decide_eq_true_eq]
        unfold mostT
        rw [if_neg g1, if_neg g2, if_neg g3, if_pos g6]
        split
        · split <;> omega
        · omega
      unfold stepT only
      simp only [if_neg g1, if_neg g2, if_neg g3, if_neg g4, if_neg g5, if_pos g6, e1]
      split
      · rename_i hh; rw [hh]
      · rfl
  unfold impl_Trip_step.f
  refine Evn.ite (fun g4 => Evn.step ?_) (fun g4 => Evn.step ?_)
  · simp only [impl_Trip_step.j0, if_true]
    exact hj 0 (by rw [if_pos (Or.inl g4)])
  · simp only [impl_Trip_step.j0]
    refine Evn.ite (fun g5 => ?_) (fun g5 => ?_)
    · exact hj 0 (by rw [if_pos (Or.inr (by simpa using g5))])
    · exact hj 1 (by rw [if_neg (by intro hx; rcases hx with hx | hx; exact g4 hx; exact g5 (by simp [hx]))])

theorem im_StepTrip (a b c d e q n : Int) : Evn (fun k => impl_StepTrip.f k a b c d e q n) (stepTs a b c d e q n) := by
  unfold impl_StepTrip.f stepTs
  refine Evn.bind (im_IsTrip a b c d e) ?_
  simp only [im_isTripStep, Option.bind_some]
  refine Evn.ite (fun c1 => ?_) (fun c1 => by rw [if_neg (fun h => c1 h.1)]; exact Evn.done _)
  refine Evn.ite (fun c2 => ?_) (fun c2 => by rw [if_neg (fun h => c2 h.2)]; exact Evn.done _)
  rw [if_pos ⟨c1, c2⟩]
  exact Evn.bind (im_Trip_step c1 c2) (Evn.done _)

theorem good_step {a b c d e : Int} (h : goodT a b c d e = true) {q n : Int} (hs : goodS q n = true) (ok : (stepT a b c d e q n).2.2.2.2.2 = true) : goodT (stepT a b c d e q n).1 (stepT a b c d e q n).2.1 (stepT a b c d e q n).2.2.1 (stepT a b c d e q n).2.2.2.1 (stepT a b c d e q n).2.2.2.2.1 = true := by
  obtain ⟨h1, h2, h3, h4, h5, h6⟩ := good_in h
  have hc : 0 ≤ c ∧ c ≤ 12 := by
    by_cases g : 1 ≤ a ∧ a ≤ 3
    · have := (h5 g.1 g.2).1; omega
    · have := h6 g; omega
  unfold stepT at ok ⊢
  by_cases g1 : q = 1
  · simp only [if_pos g1, Bool.and_eq_true, decide_eq_true_eq] at ok ⊢
    rw [(wrap_id (by omega) (by omega) : wrap64 (b - c) = b - c)] at ok
    rw [(wrap_id (by omega) (by omega) : wrap64 (c + n) = c + n)]
    exact good_of (by omega) (by omega) (by omega) (by omega) (fun _ _ => by omega) (fun _ => by omega)
  by_cases g2 : q = 2
  · simp only [if_neg g1, if_pos g2, Bool.and_eq_true, decide_eq_true_eq] at ok ⊢
    rw [(wrap_id (by omega) (by omega) : wrap64 (c - n) = c - n)]
    have h7 := h5 ok.1.1 ok.1.2
    split
    · exact good_of (by omega) (by omega) (by omega) (by omega) (fun _ _ => by omega) (fun _ => by omega)
    · exact good_of (by omega) (by omega) (by omega) (by omega) (fun _ _ => ⟨by omega, h7.2⟩) (fun _ => by omega)
  by_cases g3 : q = 3
  · simp only [if_neg g1, if_neg g2, if_pos g3, decide_eq_true_eq] at ok ⊢
    rw [(wrap_id (by omega) (by omega) : wrap64 (999 - e) = 999 - e)] at ok
    rw [(wrap_id (by omega) (by omega) : wrap64 (e + n) = e + n)]
    split
    · rename_i g
      have h7 := h5 (by omega) (by omega)
      exact good_of (by omega) (by omega) (by omega) (by omega) (fun _ _ => by omega) (fun _ => by omega)
    · rename_i g
      refine good_of (by omega) (by omega) (by omega) (by omega) (fun g7 g8 => ?_) h6
      have h7 := h5 g7 g8
      refine ⟨h7.1, ?_⟩
      omega
  by_cases g4 : q = 4
  · simp only [if_neg g1, if_neg g2, if_neg g3, if_pos g4, beq_iff_eq] at ok ⊢
    have h7 := h5 (by omega) (by omega)
    exact good_of (by omega) (by omega) (by omega) (by omega) (fun _ _ => by omega) (fun _ => by omega)
  by_cases g5 : q = 5
  · simp only [if_neg g1, if_neg g2, if_neg g3, if_neg g4, if_pos g5, beq_iff_eq] at ok ⊢
    have h7 := h6 (by omega)
    exact good_of (by omega) (by omega) (by omega) (by omega) (fun _ _ => by omega) (fun _ => by omega)
  · simp only [if_neg g1, if_neg g2, if_neg g3, if_neg g4, if_neg g5, Bool.and_eq_true, decide_eq_true_eq] at ok ⊢
    rw [(wrap_id (by omega) (by omega) : wrap64 (999 - d) = 999 - d)] at ok
    rw [(wrap_id (by omega) (by omega) : wrap64 (d + n) = d + n)]
    have h7 := h5 (by omega) (by omega)
    exact good_of (by omega) (by omega) (by omega) (by omega) (fun _ _ => by omega) (fun _ => by omega)
theorem all_getD {α : Type} {p : α → Bool} {xs : List α} (h : xs.all p = true) (z : α) (i : Nat) (hi : i < xs.length) : p (xs.getD i z) = true := by
  rw [List.all_eq_true] at h
  refine h _ ?_
  rw [List.getD_eq_getElem?_getD, List.getElem?_eq_getElem hi]
  exact List.getElem_mem hi
theorem im_RunTrip_l0 (xs : List S49) (hx : xs.length ≤ 1048576) (ha : (xs.all fun x => goodS x.f0 x.f1) = true) : ∀ (D i : Nat) (m a b c d e : Int), i + D = xs.length → 0 ≤ m → m ≤ i → goodT a b c d e = true → Evn (fun k => impl_RunTrip.l0 k m xs (xs.length : Int) (i : Int) a b c d e) (runT xs D i a b c d e m) := by
  intro D
  induction D with
  | zero =>
    intro i m a b c d e h _ _ _
    refine Evn.step ?_
    have h1 : ¬ (i : Int) < (xs.length : Int) := by omega
    simp only [impl_RunTrip.l0, if_neg h1, runT]
    exact Evn.done _
  | succ D ih =>
    intro i m a b c d e h h0 hm hg
    have h1 : (i : Int) < (xs.length : Int) := by omega
    have h2 : 0 ≤ (i : Int) := by omega
    have hw := wrap_succ (show i < 4611686018427387904 by omega)
    have hw2 : wrap64 (m + 1) = m + 1 := wrap_id (by clear hw; omega) (by clear hw; omega)
    refine Evn.step ?_
    simp only [impl_RunTrip.l0, if_pos h1, if_pos h2, hw, hw2, rd_T49, Int.toNat_natCast]
    clear hw hw2
    have hs : goodS (xs.getD i z49).f0 (xs.getD i z49).f1 = true := all_getD ha z49 i (by omega)
    refine Evn.bind (im_Trip_step hg hs) ?_
    unfold runT only
    by_cases c1 : (stepT a b c d e (xs.getD i z49).f0 (xs.getD i z49).f1).2.2.2.2.2 = true
    · rw [if_pos c1]
      simp only [if_pos c1]
      exact ih (i + 1) (m + 1) _ _ _ _ _ (by omega) (by omega) (by omega) (good_step hg hs c1)
    · rw [if_neg c1]
      simp only [if_neg c1, Bool.false_eq_true, if_false]
      exact ih (i + 1) m a b c d e (by omega) (by omega) (by omega) hg
theorem some_beq_false (b : Bool) : (some b == some false) = !b := by cases b <;> rfl
theorem im_xBadStep (xs : List S49) : impl_xBadStep.f xs = some (!(xs.all fun x => goodS x.f0 x.f1)) := by
  simp only [impl_xBadStep.f, im_isTripStep, some_beq_false]
  congr 1
  induction xs with
  | nil => rfl
  | cons x xs ih => rw [List.any_cons, List.all_cons, ih, Bool.not_and]
theorem im_RunTrip (a b c d e : Int) (xs : List S49) (hx : xs.length ≤ 1048576) : Evn (fun k => impl_RunTrip.f k a b c d e xs) (runTs a b c d e xs) := by
  unfold impl_RunTrip.f runTs
  refine Evn.bind (im_IsTrip a b c d e) ?_
  refine Evn.ite (fun c1 => ?_) (fun c1 => Evn.step ?_)
  · refine Evn.ite (fun c2 => Evn.step ?_) (fun c2 => ?_)
    · simp only [impl_RunTrip.j0, if_true]
      rw [if_neg (by intro h; omega)]
      exact Evn.done _
    · simp only [im_xBadStep, Option.bind_some]
      refine Evn.step ?_
      simp only [impl_RunTrip.j0]
      by_cases c4 : (xs.all fun x => goodS x.f0 x.f1) = true
      · rw [if_pos ⟨c1, by omega, c4⟩, c4]
        simp only [Bool.not_true, Bool.false_eq_true, if_false]
        exact im_RunTrip_l0 xs hx c4 xs.length 0 0 a b c d e (by omega) (by omega) (by omega) c1
      · rw [if_neg (fun h => c4 h.2.2), Bool.eq_false_iff.mpr c4]
        simp only [Bool.not_false, if_true]
        exact Evn.done _
  · simp only [impl_RunTrip.j0, if_true]
    rw [if_neg (fun h => c1 h.1)]
    exact Evn.done _

theorem ev_vHas_l0 (xs : List Int) (x : Int) : ∀ (D i : Nat), i + D = xs.length → xs.length ≤ 4611686018427387904 → Evn (fun k => laws_vHas.l0 k xs x (i : Int)) ((xs.drop i).contains x) := by
  intro D
  induction D with
  | zero =>
    intro i h hx
    refine Evn.step ?_
    have h1 : ¬ (i : Int) < (xs.length : Int) := by omega
    simp only [laws_vHas.l0, if_neg h1]
    rw [List.drop_eq_nil_of_le (by omega)]
    exact Evn.done _
  | succ D ih =>
    intro i h hx
    refine Evn.step ?_
    have h1 : (i : Int) < (xs.length : Int) := by omega
    have h2 : 0 ≤ (i : Int) := by omega
    simp only [laws_vHas.l0, if_pos h1, if_pos h2, wrap_succ (show i < 4611686018427387904 by omega)]
    have e : rd xs (i : Int) = xs.getD i 0 := rfl
    rw [getD_drop xs i 0 (by omega), e, List.contains_cons]
    refine Evn.ite (fun c => ?_) (fun c => ?_)
    · rw [c, beq_self_eq_true, Bool.true_or]; exact Evn.done _
    · rw [beq_eq_false_iff_ne.mpr (Ne.symm c), Bool.false_or]; exact ih (i + 1) (by omega) hx
theorem ev_vHas (xs : List Int) (x : Int) (hx : xs.length ≤ 4611686018427387904) : Evn (fun k => laws_vHas.f k xs x) (xs.contains x) := by
  have h := ev_vHas_l0 xs x xs.length 0 (by omega) hx
  rw [List.drop_zero] at h
  exact h

theorem ev_vInts_l0 (xs ys : List Int) (e : xs = ys) : ∀ (D i : Nat), i + D = xs.length → xs.length ≤ 4611686018427387904 → Evn (fun k => laws_vInts.l0 k xs ys (i : Int)) true := by
  subst e
  intro D
  induction D with
  | zero =>
    intro i h hx
    refine Evn.step ?_
    have h1 : ¬ (i : Int) < (xs.length : Int) := by omega
    simp only [laws_vInts.l0, if_neg h1]
    exact Evn.done _
  | succ D ih =>
    intro i h hx
    refine Evn.step ?_
    have h1 : (i : Int) < (xs.length : Int) := by omega
    have h2 : 0 ≤ (i : Int) := by omega
    simp only [laws_vInts.l0, if_pos h1, if_pos h2, if_true, wrap_succ (show i < 4611686018427387904 by omega)]
    exact ih (i + 1) (by omega) hx
theorem ev_vInts (xs : List Int) (hx : xs.length ≤ 4611686018427387904) : Evn (fun k => laws_vInts.f k xs xs) true := by
  unfold laws_vInts.f
  simp only [if_true]
  exact ev_vInts_l0 xs xs rfl xs.length 0 (by omega) hx

theorem byts_of {l : List Int} (h : ∀ x ∈ l, (Lit.int .u8 x).wf = true) : Byts l := by
  intro x hx
  have h1 := h x hx
  simp [Lit.wf, IntKind.min, IntKind.max, IntKind.signed, IntKind.bits] at h1
  omega

theorem left_pos (a b c d e : Int) : ∃ r, Evn (fun k => spec_TimeLeft.f k a b c d e) r ∧ Evn (fun k => impl_TimeLeft.f k a b c d e) r ∧ r.1 ≥ 0 := by
  unfold spec_TimeLeft.f impl_TimeLeft.f
  by_cases hg : goodT a b c d e = true
  · obtain ⟨_, _, h3, h4, _, _⟩ := good_in hg
    by_cases hs : 1 ≤ a ∧ a ≤ 3
    · refine ⟨(max 0 (d - e), true), Evn.bind (sp_l21Good a b c d e) ?_, Evn.bind (im_IsTrip a b c d e) ?_, by dsimp only; omega⟩
      · simp only [hg, if_true, sp_l21In, sp_l1Most, Option.bind_some, decide_eq_true hs, wrap_id (show -9223372036854775808 ≤ d - e by omega) (by omega)]
        exact Evn.done _
      · simp only [hg, if_true, im_within, Option.bind_some, decide_eq_true hs, wrap_id (show -9223372036854775808 ≤ d - e by omega) (by omega)]
        refine (Evn.done _).eq_ ?_
        simp only [Prod.mk.injEq, and_true]
        unfold mx
        omega
    · refine ⟨(0, false), Evn.bind (sp_l21Good a b c d e) ?_, Evn.bind (im_IsTrip a b c d e) ?_, by decide⟩
      · simp only [hg, if_true, sp_l21In, Option.bind_some, decide_eq_false hs, Bool.false_eq_true, if_false]
        exact Evn.done _
      · simp only [hg, if_true, im_within, Option.bind_some, decide_eq_false hs, Bool.false_eq_true, if_false]
        exact Evn.done _
  · have hf := Bool.eq_false_iff.mpr hg
    refine ⟨(0, false), Evn.bind (sp_l21Good a b c d e) ?_, Evn.bind (im_IsTrip a b c d e) ?_, by decide⟩
    · simp only [hf, Bool.false_eq_true, if_false]
      exact Evn.done _
    · simp only [hf, Bool.false_eq_true, if_false]
      exact Evn.done _
theorem kinds_mem (a b c d e q : Int) (hq : canB a b c d e q = true) : ∀ (D : Nat) (p : Int), p ≤ q → q < p + D → (kindsFrom a b c d e D p).contains q = true := by
  intro D
  induction D with
  | zero => intro p h1 h2; omega
  | succ D ih =>
    intro p h1 h2
    unfold kindsFrom
    by_cases e1 : p = q
    · subst e1
      rw [if_pos hq, List.contains_cons, beq_self_eq_true, Bool.true_or]
    · have h3 := ih (p + 1) (by omega) (by omega)
      split
      · rw [List.contains_cons, h3, Bool.or_true]
      · exact h3
theorem goodS_q {q n : Int} (h : goodS q n = true) : 1 ≤ q ∧ q ≤ 6 := by
  unfold goodS at h
  split at h
  · omega
  · simp only [Bool.and_eq_true, decide_eq_true_eq] at h; exact h.1
theorem step_can {a b c d e q n : Int} (hs : goodS q n = true) (ok : (stepT a b c d e q n).2.2.2.2.2 = true) : canB a b c d e q = true := by
  unfold canB
  by_cases g : q = 4 ∨ q = 5
  · unfold goodS at hs
    rw [if_pos g] at hs ⊢
    rw [beq_iff_eq] at hs
    rw [← hs]; exact ok
  · rw [if_neg g]
    unfold stepT at ok ⊢
    by_cases g1 : q = 1
    · simp only [if_pos g1, Bool.and_eq_true, decide_eq_true_eq] at ok ⊢
      omega
    by_cases g2 : q = 2
    · simp only [if_neg g1, if_pos g2, Bool.and_eq_true, decide_eq_true_eq] at ok ⊢
      omega
    by_cases g3 : q = 3
    · simp only [if_neg g1, if_neg g2, if_pos g3, decide_eq_true_eq] at ok ⊢
      omega
    · have g4 : ¬ q = 4 := fun x => g (Or.inl x)
      have g5 : ¬ q = 5 := fun x => g (Or.inr x)
      simp only [if_neg g1, if_neg g2, if_neg g3, if_neg g4, if_neg g5, Bool.and_eq_true, decide_eq_true_eq] at ok ⊢
      omega
theorem step_facts {a b c d e : Int} (h : goodT a b c d e = true) {q n : Int} (hs : goodS q n = true) (ok : (stepT a b c d e q n).2.2.2.2.2 = true) :
    ¬ (stepT a b c d e q n).2.2.2.2.1 < e ∧ ((stepT a b c d e q n).1 = 4 → (stepT a b c d e q n).2.2.1 = 0) ∧ (a ≥ 4 → q = 3) ∧ (a = 1 → ¬ (stepT a b c d e q n).1 = 5) := by
  obtain ⟨h1, h2, h3, h4, h5, h6⟩ := good_in h
  unfold stepT at ok ⊢
  by_cases g1 : q = 1
  · simp only [if_pos g1, Bool.and_eq_true, decide_eq_true_eq] at ok ⊢
    exact ⟨by omega, fun x => by omega, fun x => by omega, fun _ x => by omega⟩
  by_cases g2 : q = 2
  · simp only [if_neg g1, if_pos g2, Bool.and_eq_true, decide_eq_true_eq] at ok ⊢
    refine ⟨by omega, ?_, fun x => by omega, ?_⟩
    · split
      · rename_i g; intro _; exact g
      · intro x; omega
    · intro x
      split
      · decide
      · omega
  by_cases g3 : q = 3
  · simp only [if_neg g1, if_neg g2, if_pos g3, decide_eq_true_eq] at ok ⊢
    rw [(wrap_id (by omega) (by omega) : wrap64 (999 - e) = 999 - e)] at ok
    rw [(wrap_id (by omega) (by omega) : wrap64 (e + n) = e + n)]
    refine ⟨by omega, ?_, fun _ => g3, ?_⟩
    · split
      · intro x; omega
      · intro x; exact h6 (by omega)
    · intro x
      split
      · decide
      · omega
  by_cases g4 : q = 4
  · simp only [if_neg g1, if_neg g2, if_neg g3, if_pos g4, beq_iff_eq] at ok ⊢
    exact ⟨by omega, fun x => by omega, fun x => by omega, fun _ x => by omega⟩
  by_cases g5 : q = 5
  · simp only [if_neg g1, if_neg g2, if_neg g3, if_neg g4, if_pos g5, beq_iff_eq] at ok ⊢
    exact ⟨by omega, fun x => by omega, fun x => by omega, fun y x => by omega⟩
  · simp only [if_neg g1, if_neg g2, if_neg g3, if_neg g4, if_neg g5, Bool.and_eq_true, decide_eq_true_eq] at ok ⊢
    exact ⟨by omega, fun x => by omega, fun x => by omega, fun _ x => by omega⟩
theorem same5 (a b c d e : Int) : (!(a == a) || (!(b == b) || (!(c == c) || (!(d == d) || !(e == e))))) = false := by simp
theorem law_l0 (l : List Int) (xs : List S49) (hx : xs.length ≤ 1048576) (ha : (xs.all fun x => goodS x.f0 x.f1) = true) (M A B C D' E : Int) (h5 : Evn (fun k => laws_FnTrips.j5 k l) true) :
    ∀ (D i : Nat) (m a b c d e : Int), i + D = xs.length → 0 ≤ m → m ≤ i → goodT a b c d e = true → runT xs D i a b c d e m = (A, B, C, D', E, M, true) → Evn (fun k => laws_FnTrips.l0 k l xs M m (i : Int) A B C D' E a b c d e) true := by
  intro D
  induction D with
  | zero =>
    intro i m a b c d e h hm hm2 hg hr
    simp only [runT, Prod.mk.injEq] at hr
    obtain ⟨rfl, rfl, rfl, rfl, rfl, rfl, _⟩ := hr
    refine Evn.step ?_
    have h1 : ¬ (i : Int) < (xs.length : Int) := by omega
    simp only [laws_FnTrips.l0, if_neg h1, same5, Bool.false_eq_true, if_false, if_true]
    exact h5
  | succ D ih =>
    intro i m a b c d e h hm hm2 hg hr
    refine Evn.step ?_
    have h1 : (i : Int) < (xs.length : Int) := by omega
    have h2 : 0 ≤ (i : Int) := by omega
    have hw := wrap_succ (show i < 4611686018427387904 by omega)
    have hwm : wrap64 (m + 1) = m + 1 := wrap_id (by omega) (by omega)
    simp only [laws_FnTrips.l0, if_pos h1, if_pos h2, hw, hwm]
    clear hw hwm
    have hs := all_getD ha z49 i (by omega)
    have hT := im_StepTrip a b c d e (rd_T49 xs (i : Int)).f0 (rd_T49 xs (i : Int)).f1
    have er : rd_T49 xs (i : Int) = xs.getD i z49 := rfl
    rw [er] at hT ⊢
    refine Evn.bind hT ?_
    unfold stepTs
    rw [if_pos ⟨hg, hs⟩]
    rw [runT] at hr
    unfold only
    by_cases ok : (stepT a b c d e (xs.getD i z49).f0 (xs.getD i z49).f1).2.2.2.2.2 = true
    · simp only [if_pos ok] at hr ⊢
      exact ih (i + 1) (m + 1) _ _ _ _ _ (by omega) (by omega) (by omega) (good_step hg hs ok) hr
    · simp only [if_neg ok] at hr ⊢
      simp only [Bool.false_eq_true, if_false]
      exact ih (i + 1) m _ _ _ _ _ (by omega) hm (by omega) hg hr
theorem FnTrips : laws_FnTrips.Pure := by
  intro l hl _ hb
  apply Evn.get
  have hB : Byts l := byts_of hb
  have j6 : Evn (fun k => laws_FnTrips.j6 k l false) true := by
    refine Evn.step ?_
    simp only [laws_FnTrips.j6, Bool.false_eq_true, if_false]
    obtain ⟨t, ht⟩ := dw_DrawTimeLeft hB
    refine Evn.bind ht ?_
    obtain ⟨r, hs, hi, hp⟩ := left_pos t.1 t.2.1 t.2.2.1 t.2.2.2.1 t.2.2.2.2
    refine Evn.bind hi (Evn.bind hs ?_)
    simp only [if_true, beq_self_eq_true, decide_eq_true hp]
    exact Evn.done _
  have j5 : Evn (fun k => laws_FnTrips.j5 k l) true := by
    refine Evn.step ?_
    simp only [laws_FnTrips.j5]
    obtain ⟨t, ht⟩ := dw_DrawNextKinds hB
    refine Evn.bind ht ?_
    have hi := im_NextKinds t.1 t.2.1 t.2.2.1 t.2.2.2.1 t.2.2.2.2
    have hs := sp_NextKinds t.1 t.2.1 t.2.2.1 t.2.2.2.1 t.2.2.2.2
    have hn : (nextTs t.1 t.2.1 t.2.2.1 t.2.2.2.1 t.2.2.2.2).1.length ≤ 4611686018427387904 := by
      unfold nextTs
      split
      · have := kindsFrom_len t.1 t.2.1 t.2.2.1 t.2.2.2.1 t.2.2.2.2 6 1
        dsimp only; omega
      · simp
    generalize nextTs t.1 t.2.1 t.2.2.1 t.2.2.2.1 t.2.2.2.2 = r at hi hs hn
    refine Evn.bind hi (Evn.bind hs ?_)
    simp only [bne_self_eq_false, Bool.false_eq_true, if_false]
    refine Evn.bind (ev_vInts _ hn) ?_
    rw [Bool.not_true]
    exact j6
  have j2 : Evn (fun k => laws_FnTrips.j2 k l) true := by
    refine Evn.step ?_
    simp only [laws_FnTrips.j2]
    obtain ⟨t, ht, hlen⟩ := dw_DrawRunTrip hB
    refine Evn.bind ht ?_
    have hi := im_RunTrip t.1 t.2.1 t.2.2.1 t.2.2.2.1 t.2.2.2.2.1 t.2.2.2.2.2 (by omega)
    have hs := sp_RunTrip t.1 t.2.1 t.2.2.1 t.2.2.2.1 t.2.2.2.2.1 t.2.2.2.2.2 (by omega)
    refine Evn.bind hi (Evn.bind hs ?_)
    simp only [same5, Bool.false_eq_true, if_false, if_true, bne_self_eq_false]
    refine Evn.step ?_
    simp only [laws_FnTrips.j3, Bool.false_eq_true, if_false]
    refine Evn.ite (fun ok => ?_) (fun _ => j5)
    unfold runTs at ok ⊢
    split at ok
    · rename_i hg
      rw [if_pos hg]
      obtain ⟨g1, g2, g3⟩ := hg
      have hz : ((0 : Nat) : Int) = 0 := rfl
      rw [← hz]
      refine law_l0 l _ (by omega) g3 _ _ _ _ _ _ j5 t.2.2.2.2.2.length 0 0 _ _ _ _ _ (by omega) (by decide) (by decide) g1 ?_
      rw [← ok]
      rfl
    · exact absurd ok (by decide)
  have j1 : ∀ a b c d e q n : Int, goodT a b c d e = true → goodS q n = true → (stepT a b c d e q n).2.2.2.2.2 = true → Evn (fun k => laws_FnTrips.j1 k l false a b c d e q n (stepT a b c d e q n).1 (stepT a b c d e q n).2.1 (stepT a b c d e q n).2.2.1 (stepT a b c d e q n).2.2.2.1 (stepT a b c d e q n).2.2.2.2.1) true := by
    intro a b c d e q n hg hs ok
    obtain ⟨_, _, f3, f4⟩ := step_facts hg hs ok
    refine Evn.step ?_
    simp only [laws_FnTrips.j1, Bool.false_eq_true, if_false]
    refine Evn.ite (fun c1 => ?_) (fun c1 => ?_)
    · refine Evn.ite (fun c2 => ?_) (fun c2 => absurd (f3 c1) c2)
      exact Evn.ite (fun c3 => by omega) (fun _ => j2)
    · refine Evn.ite (fun c3 => ?_) (fun _ => j2)
      exact Evn.ite (fun c4 => absurd c4 (f4 c3)) (fun _ => j2)
  unfold laws_FnTrips.f laws_vBig.f
  simp only [Option.bind_some]
  refine Evn.ite (fun _ => Evn.done _) (fun _ => ?_)
  obtain ⟨t, ht⟩ := dw_DrawStepTrip hB
  refine Evn.bind ht ?_
  obtain ⟨a, b, c, d, e, q, n⟩ := t
  dsimp only
  refine Evn.bind (im_StepTrip a b c d e q n) (Evn.bind (sp_StepTrip a b c d e q n) ?_)
  simp only [same5, Bool.false_eq_true, if_false, bne_self_eq_false]
  refine Evn.bind (im_IsTrip a b c d e) (Evn.bind (sp_IsTrip a b c d e) ?_)
  rw [bne_self_eq_false]
  refine Evn.step ?_
  simp only [laws_FnTrips.j0, Bool.false_eq_true, if_false]
  refine Evn.ite (fun ok => ?_) (fun _ => j2)
  unfold stepTs at ok ⊢
  split at ok
  · rename_i hg
    rw [if_pos hg]
    unfold only at ok ⊢
    split at ok
    · rename_i ok2
      rw [if_pos ok2]
      obtain ⟨f1, f2, _, _⟩ := step_facts hg.1 hg.2 ok2
      refine Evn.bind (im_NextKinds a b c d e) (Evn.bind (im_IsTrip _ _ _ _ _) ?_)
      have hq := goodS_q hg.2
      have hm := kinds_mem a b c d e q (step_can hg.2 ok2) 6 1 (by omega) (by omega)
      have hn := kindsFrom_len a b c d e 6 1
      unfold nextTs
      simp only [good_step hg.1 hg.2 ok2, hg.1, if_true]
      refine Evn.bind (ev_vHas _ _ (by omega)) ?_
      simp only [hm, if_true, if_neg f1]
      refine Evn.ite (fun c1 => ?_) (fun _ => j1 a b c d e q n hg.1 hg.2 ok2)
      rw [f2 c1]
      have := j1 a b c d e q n hg.1 hg.2 ok2
      rw [f2 c1] at this
      exact this
    · exact absurd ok (by decide)
  · exact absurd ok (by decide)

end Go.Proofs.Ytmeaacbnjpgepaa.Pure
