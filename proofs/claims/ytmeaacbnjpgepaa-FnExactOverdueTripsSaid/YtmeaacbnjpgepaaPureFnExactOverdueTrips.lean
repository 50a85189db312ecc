/- The plain statement of FnExactOverdueTrips: its plain function returns true at every input. No condition beyond the arguments' own bounds. -/
import Derived.Test.YtmeaacbnjpgepaaQFnExactOverdueTripsx6
import Derived.Test.YtmeaacbnjpgepaaAid
namespace Go.Proofs.Ytmeaacbnjpgepaa.Pure
open Go.RowKit Go.Proofs.YtmeaacbnjpgepaaW.PrintWords Go.Proofs.YtmeaacbnjpgepaaW.PrintLast Go.Proofs.Ytmeaacbnjpgepaa.Aid Go.Proofs.Ytmeaacbnjpgepaa.QFnExactOverdueTrips
set_option linter.unusedVariables false
set_option linter.unusedSimpArgs false

theorem ev_szTripS (l : List S23) (q : Int) : laws_szTripS.f l q = some (if wrap64 (q - (l.length : Int)) < 0 then -1 else wrap64 (q - (l.length : Int))) := by
  unfold laws_szTripS.f
  split <;> rfl

-- laws_toTrip: as it stands

def convTrip (x : S23) : S25 := ⟨x.f0, x.f1, x.f2, x.f3, x.f4⟩
theorem ev_toTripS_l0 (xs : List S23) (hx : xs.length ≤ 1048576) : ∀ (d i : Nat) (ys : List S25), i + d = xs.length → ys.length = xs.length → Evn (fun k => laws_toTripS.l0 k xs ys (i : Int)) (ys.take i ++ (xs.drop i).map convTrip) := by
  intro d
  induction d with
  | zero =>
    intro i ys h hy
    refine Evn.step ?_
    have h1 : ¬ (i : Int) < (xs.length : Int) := by omega
    simp only [laws_toTripS.l0, if_neg h1]
    have e : ys.take i ++ (xs.drop i).map convTrip = ys := by rw [List.take_of_length_le (by omega), List.drop_eq_nil_of_le (by omega)]; simp
    rw [e]
    exact Evn.done _
  | succ d ih =>
    intro i ys h hy
    refine Evn.step ?_
    have h1 : (i : Int) < (xs.length : Int) := by omega
    have h2 : 0 ≤ (i : Int) := by omega
    have h3 : (i : Int) < (ys.length : Int) := by omega
    simp only [laws_toTripS.l0, laws_toTrip.f, if_pos h1, if_pos h2, if_pos h3, Option.bind_some, Int.toNat_natCast, wrap_succ (show i < 4611686018427387904 by omega)]
    refine (ih (i + 1) _ (by omega) (by simpa using hy)).eq_ ?_
    rw [set_take _ _ _ (by omega), getD_drop xs i z23 (by omega)]
    simp [convTrip, rd_T23]
theorem ev_toTripS (xs : List S23) (hx : xs.length ≤ 1048576) : Evn (fun k => laws_toTripS.f k xs) (xs.map convTrip) := by
  unfold laws_toTripS.f
  refine Evn.ite (fun _ => Evn.ite (fun _ => ?_) (fun h => (h (by omega)).elim)) (fun h => (h (by omega)).elim)
  have h := ev_toTripS_l0 xs hx xs.length 0 (List.replicate (xs.length : Int).toNat z25) (by omega) (by simp)
  simpa using h

-- laws_eqTrip: as it stands

theorem ev_eqTripS_l0 (xs : List S25) (hx : xs.length ≤ 4194304) : ∀ (d i : Nat), i + d = xs.length → Evn (fun k => laws_eqTripS.l0 k xs xs (i : Int)) true := by
  intro d
  induction d with
  | zero =>
    intro i h
    refine Evn.step ?_
    have h1 : ¬ (i : Int) < (xs.length : Int) := by omega
    simp only [laws_eqTripS.l0, if_neg h1]
    exact Evn.done _
  | succ d ih =>
    intro i h
    refine Evn.step ?_
    have h1 : (i : Int) < (xs.length : Int) := by omega
    have h2 : 0 ≤ (i : Int) := by omega
    simp only [laws_eqTripS.l0, laws_eqTrip.f, if_pos h1, if_pos h2, Option.bind_some, if_true, wrap_succ (show i < 4611686018427387904 by omega)]
    exact ih (i + 1) (by omega)
theorem ev_eqTripS (xs : List S25) (hx : xs.length ≤ 4194304) : Evn (fun k => laws_eqTripS.f k xs xs) true := by
  simp only [laws_eqTripS.f, if_true]
  exact ev_eqTripS_l0 xs hx xs.length 0 (by omega)

theorem ev_eqIntS_l0 (xs : List Int) (hx : xs.length ≤ 4194304) : ∀ (d i : Nat), i + d = xs.length → Evn (fun k => laws_eqIntS.l0 k xs xs (i : Int)) true := by
  intro d
  induction d with
  | zero =>
    intro i h
    refine Evn.step ?_
    have h1 : ¬ (i : Int) < (xs.length : Int) := by omega
    simp only [laws_eqIntS.l0, if_neg h1]
    exact Evn.done _
  | succ d ih =>
    intro i h
    refine Evn.step ?_
    have h1 : (i : Int) < (xs.length : Int) := by omega
    have h2 : 0 ≤ (i : Int) := by omega
    simp only [laws_eqIntS.l0, if_pos h1, if_pos h2, if_true, wrap_succ (show i < 4611686018427387904 by omega)]
    exact ih (i + 1) (by omega)
theorem ev_eqIntS (xs : List Int) (hx : xs.length ≤ 4194304) : Evn (fun k => laws_eqIntS.f k xs xs) true := by
  simp only [laws_eqIntS.f, if_true]
  exact ev_eqIntS_l0 xs hx xs.length 0 (by omega)

/-! The marks: a, a + 1, .. -/
def marksI (a : Int) : Nat → List Int
  | 0 => []
  | n + 1 => marksI a n ++ [a + n]
theorem marksI_len (a : Int) (n : Nat) : (marksI a n).length = n := by
  induction n with
  | zero => rfl
  | succ n ih => simp [marksI, ih]
theorem marksI_get (a : Int) (n : Nat) : ∀ i, i < n → (marksI a n).getD i 0 = a + i := by
  induction n with
  | zero => intro i h; omega
  | succ n ih =>
    intro i h
    rw [marksI, List.getD_eq_getElem?_getD]
    rcases Nat.lt_or_ge i n with hi | hi
    · rw [List.getElem?_append_left (by rw [marksI_len]; exact hi), ← List.getD_eq_getElem?_getD]
      exact ih i hi
    · obtain rfl : i = n := by omega
      rw [List.getElem?_append_right (by rw [marksI_len]; omega), marksI_len]
      simp
theorem ev_markIntS_l0 (a : Int) (ha : 0 ≤ a) (ha2 : a ≤ 1099511627776) (n : Nat) (hn : n ≤ 4194304) : ∀ (d i : Nat) (ys : List Int), i + d = n → ys.length = n → ys.take i = marksI a i → Evn (fun k => laws_markIntS.l0 k ys (a + i) (i : Int)) (a + n, marksI a n) := by
  intro d
  induction d with
  | zero =>
    intro i ys h hy ht
    refine Evn.step ?_
    have h1 : ¬ (i : Int) < (ys.length : Int) := by omega
    simp only [laws_markIntS.l0, if_neg h1]
    obtain rfl : i = n := by omega
    rw [List.take_of_length_le (by omega)] at ht
    rw [ht]
    exact Evn.done _
  | succ d ih =>
    intro i ys h hy ht
    refine Evn.step ?_
    have h1 : (i : Int) < (ys.length : Int) := by omega
    have h2 : 0 ≤ (i : Int) := by omega
    have e : wrap64 (a + i + 1) = a + ((i + 1 : Nat) : Int) := by rw [wrap_id (by omega) (by omega)]; omega
    simp only [laws_markIntS.l0, if_pos h1, if_pos h2, Int.toNat_natCast, e, wrap_succ (show i < 4611686018427387904 by omega)]
    exact ih (i + 1) _ (by omega) (by simpa using hy) (by rw [set_take _ _ _ (by omega), ht, marksI])
theorem ev_markIntS (ys : List Int) (a : Int) (ha : 0 ≤ a) (ha2 : a ≤ 1099511627776) (hn : ys.length ≤ 4194304) : Evn (fun k => laws_markIntS.f k ys a) (a + ys.length, marksI a ys.length) := by
  have h := ev_markIntS_l0 a ha ha2 ys.length hn ys.length 0 ys (by omega) rfl rfl
  simpa [laws_markIntS.f] using h

theorem ev_heldIntS_l0 (a : Int) (ha : 0 ≤ a) (ha2 : a ≤ 1099511627776) (n : Nat) (hn : n ≤ 4194304) : ∀ (d i : Nat), i + d = n → Evn (fun k => laws_heldIntS.l0 k (marksI a n) (a + i) (i : Int)) (a + n) := by
  intro d
  induction d with
  | zero =>
    intro i h
    refine Evn.step ?_
    have h1 : ¬ (i : Int) < ((marksI a n).length : Int) := by rw [marksI_len]; omega
    simp only [laws_heldIntS.l0, if_neg h1]
    obtain rfl : i = n := by omega
    exact Evn.done _
  | succ d ih =>
    intro i h
    refine Evn.step ?_
    have h1 : (i : Int) < ((marksI a n).length : Int) := by rw [marksI_len]; omega
    have h2 : 0 ≤ (i : Int) := by omega
    have h3 : rd (marksI a n) (i : Int) = a + i := by unfold rd; rw [Int.toNat_natCast]; exact marksI_get a n i (by omega)
    have e : wrap64 (a + i + 1) = a + ((i + 1 : Nat) : Int) := by rw [wrap_id (by omega) (by omega)]; omega
    simp only [laws_heldIntS.l0, if_pos h1, if_pos h2, if_pos h3, e, wrap_succ (show i < 4611686018427387904 by omega)]
    exact ih (i + 1) (by omega)
theorem ev_heldIntS (n : Nat) (a : Int) (ha : 0 ≤ a) (ha2 : a ≤ 1099511627776) (hn : n ≤ 4194304) : Evn (fun k => laws_heldIntS.f k (marksI a n) a) (a + n) := by
  have h := ev_heldIntS_l0 a ha ha2 n hn n 0 (by omega)
  simpa [laws_heldIntS.f] using h

theorem sp_l1In (x y z : Int) : spec_l1In.f x y z = some (decide (y ≤ x ∧ x ≤ z)) := by
  unfold spec_l1In.f
  by_cases h : x ≥ y <;> simp [h] <;> omega

/-! A trip's rules. -/
def goodT (a b c d e : Int) : Bool := (decide (0 ≤ a ∧ a ≤ 5) && (decide (1 ≤ b ∧ b ≤ 12) && (decide (0 ≤ d ∧ d ≤ 999) && decide (0 ≤ e ∧ e ≤ 999)))) && (if 1 ≤ a ∧ a ≤ 3 then decide (1 ≤ c ∧ c ≤ b) && ((a == 1) == decide (e ≤ d)) else c == 0)

theorem sp_l21In (x : Int) : spec_l21In.f x = some (decide (1 ≤ x ∧ x ≤ 3)) := by
  simp only [spec_l21In.f, sp_l1In, Option.bind_some]
theorem sp_l21Time (x : Int) : spec_l21Time.f x = some (decide (0 ≤ x ∧ x ≤ 999)) := by
  simp only [spec_l21Time.f, sp_l1In, Option.bind_some]
theorem sp_l21Good (a b c d e : Int) : Evn (fun k => spec_l21Good.f k a b c d e) (goodT a b c d e) := by
  refine Evn.step ?_
  refine Evn.of fun k => ?_
  unfold goodT
  simp only [spec_l21Good.f, spec_l21Good.j0, sp_l21In, sp_l21Time, sp_l1In, Option.bind_some, ite_and]
  by_cases h1 : 0 ≤ a ∧ a ≤ 5
  · by_cases h2 : 1 ≤ b ∧ b ≤ 12
    · by_cases h3 : 0 ≤ d ∧ d ≤ 999
      · by_cases h4 : 0 ≤ e ∧ e ≤ 999
        · by_cases h5 : 1 ≤ a ∧ a ≤ 3
          · simp [h1, h2, h3, h4, h5]
          · simp [h1, h2, h3, h4, h5]
        · simp [h1, h2, h3, h4]
      · simp [h1, h2, h3]
    · simp [h1, h2]
  · simp [h1]

def okT (x : S25) : Bool := goodT x.f0 x.f1 x.f2 x.f3 x.f4
theorem sp_l21All_l0 (xs : List S25) (hx : xs.length ≤ 4194304) : ∀ (d i : Nat), i + d = xs.length → Evn (fun k => spec_l21All.l0 k xs (i : Int)) ((xs.drop i).all okT) := by
  intro d
  induction d with
  | zero =>
    intro i h
    refine Evn.step ?_
    have h1 : ¬ (i : Int) < (xs.length : Int) := by omega
    simp only [spec_l21All.l0, if_neg h1]
    rw [List.drop_eq_nil_of_le (by omega)]
    exact Evn.done _
  | succ d ih =>
    intro i h
    refine Evn.step ?_
    have h1 : (i : Int) < (xs.length : Int) := by omega
    have h2 : 0 ≤ (i : Int) := by omega
    simp only [spec_l21All.l0, if_pos h1, if_pos h2, wrap_succ (show i < 4611686018427387904 by omega), rd_T25, Int.toNat_natCast]
    rw [getD_drop xs i z25 (by omega), List.all_cons]
    refine Evn.bind (sp_l21Good _ _ _ _ _) ?_
    exact Evn.ite (fun c => (ih (i + 1) (by omega)).eq_ (by simp only [okT, c, Bool.true_and])) (fun c => (Evn.done _).eq_ (by simp only [okT, Bool.eq_false_iff.mpr c, Bool.false_and]))
theorem sp_l21All (xs : List S25) (hx : xs.length ≤ 4194304) : Evn (fun k => spec_l21All.f k xs) (xs.all okT) := by
  have h := sp_l21All_l0 xs hx xs.length 0 (by omega)
  simpa [spec_l21All.f] using h

def lateT (t : Int) (x : S25) : Bool := decide (x.f0 = 2) || (decide (x.f0 = 3) || (decide (x.f0 = 1) && decide (t > x.f3)))
def lateFrom (xs : List S25) (t : Int) : Nat → Nat → List Int
  | 0, _ => []
  | d + 1, i => if lateT t (xs.getD i z25) = true then (i : Int) :: lateFrom xs t d (i + 1) else lateFrom xs t d (i + 1)
theorem lateFrom_len (xs : List S25) (t : Int) : ∀ d i, (lateFrom xs t d i).length ≤ d := by
  intro d
  induction d with
  | zero => intro i; exact Nat.le_refl _
  | succ d ih =>
    intro i
    have := ih (i + 1)
    unfold lateFrom
    split
    · rw [List.length_cons]; omega
    · omega
def lateTs (xs : List S25) (t : Int) : List Int × Bool := if xs.all okT = true ∧ (0 ≤ t ∧ t ≤ 999) then (lateFrom xs t xs.length 0, true) else ([], false)
theorem sp_OverdueTrips_l0 (xs : List S25) (t : Int) (hx : xs.length ≤ 4194304) : ∀ (d i : Nat) (zs : List Int), i + d = xs.length → zs.length ≤ i → Evn (fun k => spec_OverdueTrips.l0 k xs t zs (i : Int)) (zs ++ lateFrom xs t d i, true) := by
  intro d
  induction d with
  | zero =>
    intro i zs h hz
    refine Evn.step ?_
    have h1 : ¬ (i : Int) < (xs.length : Int) := by omega
    simp only [spec_OverdueTrips.l0, if_neg h1, lateFrom, List.append_nil]
    exact Evn.done _
  | succ d ih =>
    intro i zs h hz
    have h1 : (i : Int) < (xs.length : Int) := by omega
    have h2 : 0 ≤ (i : Int) := by omega
    have hw := wrap_succ (show i < 4611686018427387904 by omega)
    have no : lateT t (xs.getD i z25) = false → Evn (fun k => spec_OverdueTrips.l0 k xs t zs ((i + 1 : Nat) : Int)) (zs ++ lateFrom xs t (d + 1) i, true) := by
      intro hc
      simp only [lateFrom, hc, Bool.false_eq_true, if_false]
      exact ih (i + 1) zs (by clear hw; omega) (by clear hw; omega)
    have yes : lateT t (xs.getD i z25) = true → Evn (fun k => if zs.length < 17592186044416 then spec_OverdueTrips.l0 k xs t (zs ++ [(i : Int)]) ((i + 1 : Nat) : Int) else none) (zs ++ lateFrom xs t (d + 1) i, true) := by
      intro hc
      simp only [lateFrom, hc, if_true]
      refine Evn.ite (fun _ => ?_) (fun c => absurd (by clear hw; omega) c)
      have h3 := ih (i + 1) (zs ++ [(i : Int)]) (by clear hw; omega) (by rw [List.length_append, List.length_singleton]; clear hw; omega)
      rw [List.append_assoc] at h3
      exact h3
    refine Evn.step ?_
    simp only [spec_OverdueTrips.l0, if_pos h1, if_pos h2, hw, rd_T25, Int.toNat_natCast]
    refine Evn.ite (fun c => yes (by simp only [lateT, decide_eq_true c, Bool.true_or])) (fun c => ?_)
    refine Evn.ite (fun c2 => yes (by simp only [lateT, decide_eq_true c2, Bool.true_or, Bool.or_true])) (fun c2 => ?_)
    refine Evn.ite (fun c3 => ?_) (fun c3 => no (by simp only [lateT, decide_eq_false c, decide_eq_false c2, decide_eq_false c3, Bool.false_and, Bool.or_false]))
    exact Evn.ite (fun c4 => yes (by simp only [lateT, decide_eq_true c3, decide_eq_true c4, Bool.and_true, Bool.or_true])) (fun c4 => no (by simp only [lateT, decide_eq_false c, decide_eq_false c2, decide_eq_false c4, Bool.and_false, Bool.or_false]))
theorem sp_OverdueTrips (xs : List S25) (t : Int) (hx : xs.length ≤ 4194304) : Evn (fun k => spec_OverdueTrips.f k xs t) (lateTs xs t) := by
  unfold spec_OverdueTrips.f lateTs
  simp only [Option.bind_some]
  refine Evn.bind (sp_l21All xs hx) ?_
  refine Evn.ite (fun c => ?_) (fun c => ?_)
  · simp only [sp_l21Time, Option.bind_some]
    refine Evn.step ?_
    simp only [spec_OverdueTrips.j0]
    refine Evn.ite (fun c1 => ?_) (fun c1 => ?_)
    · rw [if_neg (by intro h; have h2 := decide_eq_true h.2; rw [h2] at c1; cases c1)]
      exact Evn.done _
    · rw [if_pos ⟨c, by simpa using c1⟩]
      have h := sp_OverdueTrips_l0 xs t hx xs.length 0 [] (by omega) (by simp)
      simpa using h
  · refine Evn.step ?_
    simp only [spec_OverdueTrips.j0, if_true]
    rw [if_neg (fun h => c h.1)]
    exact Evn.done _

theorem im_within (x y z : Int) : impl_within.f x y z = some (decide (y ≤ x ∧ x ≤ z)) := by
  unfold impl_within.f
  by_cases h : x ≥ y <;> simp [h] <;> omega

theorem im_isTime (x : Int) : impl_isTime.f x = some (decide (0 ≤ x ∧ x ≤ 999)) := by
  simp only [impl_isTime.f, im_within, Option.bind_some]
theorem im_IsTrip_j1 (k : Nat) (p b c d e : Int) (q : Bool) (hq : q = decide (p = 0 ∨ p = 4 ∨ p = 5)) : impl_IsTrip.j1 (k + 1) p q p b c d e = some (decide (0 ≤ p ∧ p ≤ 5) && (if 1 ≤ p ∧ p ≤ 3 then decide (1 ≤ c ∧ c ≤ b) && ((p == 1) == decide (e ≤ d)) else c == 0)) := by
  subst hq
  simp only [impl_IsTrip.j1, im_within, Option.bind_some, ite_and]
  by_cases h0 : p = 0
  · subst h0; simp
  by_cases h4 : p = 4
  · subst h4; simp
  by_cases h5 : p = 5
  · subst h5; simp
  by_cases h1 : p = 1
  · subst h1; simp
  have hn : decide (d < e) = !decide (e ≤ d) := by by_cases h : e ≤ d <;> simp [h] <;> omega
  by_cases h2 : p = 2
  · subst h2; simp [hn]
  by_cases h3 : p = 3
  · subst h3; simp [hn]
  have : ¬ (0 ≤ p ∧ p ≤ 5) := by omega
  simp [h0, h1, h2, h3, h4, h5, this]
theorem im_IsTrip (a b c d e : Int) : Evn (fun k => impl_IsTrip.f k a b c d e) (goodT a b c d e) := by
  refine Evn.step (Evn.step ?_)
  refine Evn.of fun k => ?_
  unfold goodT
  simp only [impl_IsTrip.f, impl_IsTrip.j0, im_isTime, im_within, Option.bind_some]
  have e0 : impl_IsTrip.j1 (k + 1) a (a == 0) a b c d e = impl_IsTrip.j1 (k + 1) a (a == 0) a b c d e := rfl
  by_cases h2 : 1 ≤ b ∧ b ≤ 12
  · by_cases h3 : 0 ≤ d ∧ d ≤ 999
    · by_cases h4 : 0 ≤ e ∧ e ≤ 999
      · by_cases g0 : a = 0
        · rw [if_pos (decide_eq_true h2), if_pos (decide_eq_true h3), decide_eq_true h4, if_neg (by decide), if_pos g0, im_IsTrip_j1 k a b c d e _ (by simp [g0])]
          simp [h2, h3]
        · by_cases g4 : a = 4
          · rw [if_pos (decide_eq_true h2), if_pos (decide_eq_true h3), decide_eq_true h4, if_neg (by decide), if_neg g0, if_pos g4, im_IsTrip_j1 k a b c d e _ (by simp [g4])]
            simp [h2, h3]
          · rw [if_pos (decide_eq_true h2), if_pos (decide_eq_true h3), decide_eq_true h4, if_neg (by decide), if_neg g0, if_neg g4, im_IsTrip_j1 k a b c d e _ (by by_cases g5 : a = 5 <;> simp [g0, g4, g5])]
            simp [h2, h3]
      · simp [h2, h3, h4]
    · simp [h2, h3]
  · simp [h2]

theorem im_areTrips (xs : List S25) : Evn (fun k => impl_areTrips.f k xs) (xs.all okT) := by
  have key : ∃ K, ∀ k, K ≤ k → ∀ x ∈ xs, impl_IsTrip.f k x.f0 x.f1 x.f2 x.f3 x.f4 = some (okT x) := by
    induction xs with
    | nil => exact ⟨0, fun k _ x hx => by cases hx⟩
    | cons y ys ih =>
      obtain ⟨K, hK⟩ := ih
      obtain ⟨K', hK'⟩ := im_IsTrip y.f0 y.f1 y.f2 y.f3 y.f4
      refine ⟨max K K', fun k hk x hx => ?_⟩
      rcases List.mem_cons.1 hx with h | h
      · subst h; exact hK' k (by omega)
      · exact hK k (by omega) x h
  obtain ⟨K, hK⟩ := key
  refine ⟨K, fun k hk => ?_⟩
  have h := hK k hk
  unfold impl_areTrips.f
  dsimp only
  rw [if_pos (List.all_eq_true.2 fun x hx => by rw [h x hx]; rfl)]
  congr 1
  rw [Bool.eq_iff_iff, Bool.not_eq_true', Bool.eq_false_iff, Ne, List.any_eq_true, List.all_eq_true]
  constructor
  · intro hn x hx
    cases hc : okT x with
    | true => rfl
    | false => exact absurd ⟨x, hx, by rw [h x hx, hc]; rfl⟩ hn
  · rintro ha ⟨x, hx, hq⟩
    rw [h x hx, ha x hx] at hq
    cases hq

theorem im_OverdueTrips_l0 (xs : List S25) (t : Int) (hx : xs.length ≤ 4194304) : ∀ (d i : Nat) (zs : List Int), i + d = xs.length → zs.length ≤ i → Evn (fun k => impl_OverdueTrips.l0 k t zs xs (xs.length : Int) (i : Int)) (zs ++ lateFrom xs t d i, true) := by
  intro d
  induction d with
  | zero =>
    intro i zs h hz
    refine Evn.step ?_
    have h1 : ¬ (i : Int) < (xs.length : Int) := by omega
    simp only [impl_OverdueTrips.l0, if_neg h1, lateFrom, List.append_nil]
    exact Evn.done _
  | succ d ih =>
    intro i zs h hz
    have h1 : (i : Int) < (xs.length : Int) := by omega
    have h2 : 0 ≤ (i : Int) := by omega
    have hw := wrap_succ (show i < 4611686018427387904 by omega)
    have no : lateT t (xs.getD i z25) = false → Evn (fun k => impl_OverdueTrips.l0 k t zs xs (xs.length : Int) ((i + 1 : Nat) : Int)) (zs ++ lateFrom xs t (d + 1) i, true) := by
      intro hc
      simp only [lateFrom, hc, Bool.false_eq_true, if_false]
      exact ih (i + 1) zs (by clear hw; omega) (by clear hw; omega)
    have yes : lateT t (xs.getD i z25) = true → Evn (fun k => if zs.length < 17592186044416 then impl_OverdueTrips.l0 k t (zs ++ [(i : Int)]) xs (xs.length : Int) ((i + 1 : Nat) : Int) else none) (zs ++ lateFrom xs t (d + 1) i, true) := by
      intro hc
      simp only [lateFrom, hc, if_true]
      refine Evn.ite (fun _ => ?_) (fun c => absurd (by clear hw; omega) c)
      have h3 := ih (i + 1) (zs ++ [(i : Int)]) (by clear hw; omega) (by rw [List.length_append, List.length_singleton]; clear hw; omega)
      rw [List.append_assoc] at h3
      exact h3
    refine Evn.step ?_
    simp only [impl_OverdueTrips.l0, if_pos h1, if_pos h2, hw, rd_T25, Int.toNat_natCast]
    refine Evn.ite (fun c => yes (by simp only [lateT, decide_eq_true c, Bool.true_or])) (fun c => ?_)
    refine Evn.ite (fun c2 => yes (by simp only [lateT, decide_eq_true c2, Bool.true_or, Bool.or_true])) (fun c2 => ?_)
    refine Evn.ite (fun c3 => ?_) (fun c3 => no (by simp only [lateT, decide_eq_false c, decide_eq_false c2, decide_eq_false c3, Bool.false_and, Bool.or_false]))
    exact Evn.ite (fun c4 => yes (by simp only [lateT, decide_eq_true c3, decide_eq_true c4, Bool.and_true, Bool.or_true])) (fun c4 => no (by simp only [lateT, decide_eq_false c, decide_eq_false c2, decide_eq_false c4, Bool.and_false, Bool.or_false]))
theorem im_OverdueTrips (xs : List S25) (t : Int) (hx : xs.length ≤ 4194304) : Evn (fun k => impl_OverdueTrips.f k xs t) (lateTs xs t) := by
  unfold impl_OverdueTrips.f lateTs
  refine Evn.bind (im_areTrips xs) ?_
  refine Evn.ite (fun c => ?_) (fun c => ?_)
  · simp only [im_isTime, Option.bind_some]
    refine Evn.step ?_
    simp only [impl_OverdueTrips.j0]
    refine Evn.ite (fun c1 => ?_) (fun c1 => ?_)
    · rw [if_neg (by intro h; have h2 := decide_eq_true h.2; rw [h2] at c1; cases c1)]
      exact Evn.done _
    · rw [if_pos ⟨c, by simpa using c1⟩]
      have h := im_OverdueTrips_l0 xs t hx xs.length 0 [] (by omega) (by simp)
      simpa using h
  · refine Evn.step ?_
    simp only [impl_OverdueTrips.j0, if_true]
    rw [if_neg (fun h => c h.1)]
    exact Evn.done _

/-! The marks that the law lays: b, b + 1, .. -/
def marksTrip (b : Int) : Nat → List S25
  | 0 => []
  | d + 1 => (⟨b, b + 1, b + 2, b + 3, b + 4⟩ : S25) :: marksTrip (b + 5) d
theorem marksTrip_len (d : Nat) : ∀ b, (marksTrip b d).length = d := by
  induction d with
  | zero => intro b; rfl
  | succ d ih => intro b; simp [marksTrip, ih]
theorem ev_markTripS_l0 (n : Nat) (hn : n ≤ 4194304) : ∀ (d i : Nat) (b : Int) (ys : List S25), i + d = n → ys.length = n → 0 ≤ b → b + 5 * d ≤ 1152921504606846976 → Evn (fun k => laws_markTripS.l0 k ys b (i : Int)) (b + 5 * d, ys.take i ++ marksTrip b d) := by
  intro d
  induction d with
  | zero =>
    intro i b ys h hy h0 hb
    refine Evn.step ?_
    have h1 : ¬ (i : Int) < (ys.length : Int) := by omega
    simp only [laws_markTripS.l0, if_neg h1, marksTrip]
    rw [List.take_of_length_le (by omega)]
    simpa using Evn.done _
  | succ d ih =>
    intro i b ys h hy h0 hb
    refine Evn.step ?_
    have h1 : (i : Int) < (ys.length : Int) := by omega
    have h2 : 0 ≤ (i : Int) := by omega
    have hs : ∀ (zs : List S25) (v : S25), zs.length = ys.length → rd_T25 (zs.set i v) (i : Int) = v := by
      intro zs v hz
      unfold rd_T25
      rw [Int.toNat_natCast, List.getD_eq_getElem?_getD, List.getElem?_set_self (by omega)]
      rfl
    have hk := ih (i + 1) (b + 5) (ys.set i ⟨b, b + 1, b + 2, b + 3, b + 4⟩) (by omega) (by simpa using hy) (by omega) (by omega)
    have e1 : wrap64 (b + 1) = b + 1 := by rw [wrap_id (by omega) (by omega)]
    have e2 : wrap64 (b + 1 + 1) = b + 2 := by rw [wrap_id (by omega) (by omega)]; omega
    have e3 : wrap64 (b + 2 + 1) = b + 3 := by rw [wrap_id (by omega) (by omega)]; omega
    have e4 : wrap64 (b + 3 + 1) = b + 4 := by rw [wrap_id (by omega) (by omega)]; omega
    have e5 : wrap64 (b + 4 + 1) = b + 5 := by rw [wrap_id (by omega) (by omega)]; omega
    simp only [laws_markTripS.l0, if_pos h1, if_pos h2, Option.bind_some, Int.toNat_natCast, hs, List.length_set, List.set_set, e1, e2, e3, e4, e5, wrap_succ (show i < 4611686018427387904 from Nat.lt_of_lt_of_le (show i < 4194304 + 1 by omega) (by decide))]
    refine hk.eq_ ?_
    rw [set_take _ _ _ (by omega), marksTrip, List.append_assoc]
    simp only [List.cons_append, List.nil_append, Prod.mk.injEq, and_true]
    omega
theorem ev_markTripS (ys : List S25) (a : Int) (ha : 0 ≤ a) (ha2 : a ≤ 1099511627776) (hn : ys.length ≤ 4194304) : Evn (fun k => laws_markTripS.f k ys a) (a + 5 * ys.length, marksTrip a ys.length) := by
  have h := ev_markTripS_l0 ys.length hn ys.length 0 a ys (by omega) rfl ha (by omega)
  simpa [laws_markTripS.f] using h

theorem FnExactOverdueTrips : ∀ (l0 : List (S23)) (a1 : Int), l0.length ≤ maxLen → (∀ x ∈ l0, (Lit.int .i64 x.f0).wf = true ∧ (Lit.int .i64 x.f1).wf = true ∧ (Lit.int .i64 x.f2).wf = true ∧ (Lit.int .i64 x.f3).wf = true ∧ (Lit.int .i64 x.f4).wf = true) → (Lit.int .i64 a1).wf = true → ∃ k, laws_FnExactOverdueTrips.f k l0 a1 = some true := by
  intro l s hl _ _
  apply Evn.get
  unfold laws_FnExactOverdueTrips.f
  simp only [ev_szTripS, Option.bind_some]
  refine Evn.ite (fun _ => Evn.done _) (fun h => ?_)
  have hx : l.length ≤ 1048576 := by unfold maxLen at hl; unfold wrap64 at h; split at h <;> omega
  have hx' : (l.map convTrip).length ≤ 4194304 := by rw [List.length_map]; omega
  have hx1 : (l.map convTrip).length ≤ 1048576 := by rw [List.length_map]; omega
  clear h hl
  have hs := sp_OverdueTrips (l.map convTrip) s hx'
  have hi := im_OverdueTrips (l.map convTrip) s hx'
  have hr : (lateTs (l.map convTrip) s).1.length ≤ 4194304 := by
    unfold lateTs
    split
    · exact Nat.le_trans (lateFrom_len _ _ _ _) hx'
    · simp
  generalize lateTs (l.map convTrip) s = r at hs hi hr
  generalize hL : l.map convTrip = L at hs hi hx'
  have hto : Evn (fun k => laws_toTripS.f k l) L := hL ▸ ev_toTripS l hx
  repeat (first
    | exact Evn.done _
    | simp only [if_true, bne_self_eq_false, Bool.false_eq_true, if_false]
    | refine Evn.bind hto ?_
    | refine Evn.bind hs ?_
    | refine Evn.bind hi ?_
    | refine Evn.bind (ev_toTripS _ (by assumption)) ?_
    | refine Evn.bind (ev_toIntS _ (by assumption)) ?_
    | refine Evn.bind (ev_eqTripS _ (by assumption)) ?_
    | refine Evn.bind (ev_eqIntS _ (by assumption)) ?_
    | refine Evn.bind (ev_markTripS _ _ (by omega) (by omega) (by first | assumption | omega)) ?_
    | refine Evn.bind (ev_heldTripS _ _ (by omega) (by omega) (by first | assumption | omega)) ?_
    | refine Evn.bind (ev_markIntS _ _ (by omega) (by omega) (by first | assumption | omega)) ?_
    | refine Evn.bind (ev_heldIntS _ _ (by omega) (by omega) (by first | assumption | omega)) ?_
    | refine Evn.ite (fun h_ => absurd h_ (by first | omega | decide)) (fun _ => ?_)
    | refine Evn.ite (fun _ => ?_) (fun h_ => absurd (by first | rfl | omega) h_)
    | dsimp only
    | (refine Evn.step ?_; simp only [laws_FnExactOverdueTrips.j0])
    | (refine Evn.step ?_; simp only [laws_FnExactOverdueTrips.j1])
    | (refine Evn.step ?_; simp only [laws_FnExactOverdueTrips.j2]))

end Go.Proofs.Ytmeaacbnjpgepaa.Pure
