/- The plain statement of FnExactPeopleInside: its plain function returns true at every input. No condition beyond the arguments' own bounds. -/
import Derived.Test.YtmeaacbnjpgepaaQFnExactPeopleInsidex3
import Derived.Test.YtmeaacbnjpgepaaAid
namespace Go.Proofs.Ytmeaacbnjpgepaa.Pure
open Go.RowKit Go.Proofs.YtmeaacbnjpgepaaW.PrintWords Go.Proofs.YtmeaacbnjpgepaaW.PrintLast Go.Proofs.Ytmeaacbnjpgepaa.Aid Go.Proofs.Ytmeaacbnjpgepaa.QFnExactPeopleInside
set_option linter.unusedVariables false
set_option linter.unusedSimpArgs false

theorem ev_szTripS (l : List S23) (q : Int) : laws_szTripS.f l q = some (if wrap64 (q - (l.length : Int)) < 0 then -1 else wrap64 (q - (l.length : Int))) := by
  unfold laws_szTripS.f
  split <;> rfl

theorem sp_l1In (x y z : Int) : spec_l1In.f x y z = some (decide (y ≤ x ∧ x ≤ z)) := by
  unfold spec_l1In.f
  by_cases h : x ≥ y <;> simp [h] <;> omega

/-! A trip's rules. -/
def goodT (a b c d e : Int) : Bool := (decide (0 ≤ a ∧ a ≤ 5) && (decide (1 ≤ b ∧ b ≤ 12) && (decide (0 ≤ d ∧ d ≤ 999) && decide (0 ≤ e ∧ e ≤ 999)))) && (if 1 ≤ a ∧ a ≤ 3 then decide (1 ≤ c ∧ c ≤ b) && ((a == 1) == decide (e ≤ d)) else c == 0)

theorem sp_l21In (x : Int) : spec_l21In.f x = some (decide (1 ≤ x ∧ x ≤ 3)) := by
  simp only [spec_l21In.f, sp_l1In, Option.bind_some]
theorem sp_l21Time (x : Int) : spec_l21Time.f x = some (decide (0 ≤ x ∧ x ≤ 999)) := by
  simp only [spec_l21Time.f, sp_l1In, Option.bind_some]
theorem sp_l21Good (a b c d e : Int) : Evn (fun k => spec_l21Good.f k a b c d e) (goodT a b c d e) := by
  refine Evn.step ?_
  refine Evn.of fun k => ?_
  unfold goodT
  simp only [spec_l21Good.f, spec_l21Good.j0, sp_l21In, sp_l21Time, sp_l1In, Option.bind_some, ite_and]
  by_cases h1 : 0 ≤ a ∧ a ≤ 5
  · by_cases h2 : 1 ≤ b ∧ b ≤ 12
    · by_cases h3 : 0 ≤ d ∧ d ≤ 999
      · by_cases h4 : 0 ≤ e ∧ e ≤ 999
        · by_cases h5 : 1 ≤ a ∧ a ≤ 3
          · simp [h1, h2, h3, h4, h5]
          · simp [h1, h2, h3, h4, h5]
        · simp [h1, h2, h3, h4]
      · simp [h1, h2, h3]
    · simp [h1, h2]
  · simp [h1]

def okT (x : S25) : Bool := goodT x.f0 x.f1 x.f2 x.f3 x.f4
theorem sp_l21All_l0 (xs : List S25) (hx : xs.length ≤ 4194304) : ∀ (d i : Nat), i + d = xs.length → Evn (fun k => spec_l21All.l0 k xs (i : Int)) ((xs.drop i).all okT) := by
  intro d
  induction d with
  | zero =>
    intro i h
    refine Evn.step ?_
    have h1 : ¬ (i : Int) < (xs.length : Int) := by omega
    simp only [spec_l21All.l0, if_neg h1]
    rw [List.drop_eq_nil_of_le (by omega)]
    exact Evn.done _
  | succ d ih =>
    intro i h
    refine Evn.step ?_
    have h1 : (i : Int) < (xs.length : Int) := by omega
    have h2 : 0 ≤ (i : Int) := by omega
    simp only [spec_l21All.l0, if_pos h1, if_pos h2, wrap_succ (show i < 4611686018427387904 by omega), rd_T25, Int.toNat_natCast]
    rw [getD_drop xs i z25 (by omega), List.all_cons]
    refine Evn.bind (sp_l21Good _ _ _ _ _) ?_
    exact Evn.ite (fun c => (ih (i + 1) (by omega)).eq_ (by simp only [okT, c, Bool.true_and])) (fun c => (Evn.done _).eq_ (by simp only [okT, Bool.eq_false_iff.mpr c, Bool.false_and]))
theorem sp_l21All (xs : List S25) (hx : xs.length ≤ 4194304) : Evn (fun k => spec_l21All.f k xs) (xs.all okT) := by
  have h := sp_l21All_l0 xs hx xs.length 0 (by omega)
  simpa [spec_l21All.f] using h

def sumT (xs : List S25) : Nat → Nat → Int → Int
  | 0, _, s => s
  | d + 1, i, s => sumT xs d (i + 1) (wrap64 (s + (xs.getD i z25).f2))
def insideT (xs : List S25) : Int × Bool := if xs.all okT = true then (sumT xs xs.length 0 0, true) else (0, false)
theorem sp_PeopleInside_l0 (xs : List S25) (hx : xs.length ≤ 4194304) : ∀ (d i : Nat) (s : Int), i + d = xs.length → Evn (fun k => spec_PeopleInside.l0 k xs s (i : Int)) (sumT xs d i s, true) := by
  intro d
  induction d with
  | zero =>
    intro i s h
    refine Evn.step ?_
    have h1 : ¬ (i : Int) < (xs.length : Int) := by omega
    simp only [spec_PeopleInside.l0, if_neg h1, sumT]
    exact Evn.done _
  | succ d ih =>
    intro i s h
    refine Evn.step ?_
    have h1 : (i : Int) < (xs.length : Int) := by omega
    have h2 : 0 ≤ (i : Int) := by omega
    simp only [spec_PeopleInside.l0, if_pos h1, if_pos h2, wrap_succ (show i < 4611686018427387904 by omega), rd_T25, Int.toNat_natCast, sumT]
    exact ih (i + 1) _ (by omega)
theorem sp_PeopleInside (xs : List S25) (hx : xs.length ≤ 4194304) : Evn (fun k => spec_PeopleInside.f k xs) (insideT xs) := by
  unfold spec_PeopleInside.f insideT
  refine Evn.bind (sp_l21All xs hx) ?_
  refine Evn.ite (fun c => ?_) (fun c => ?_)
  · rw [if_pos c]
    exact sp_PeopleInside_l0 xs hx xs.length 0 0 (by omega)
  · rw [if_neg c]
    exact Evn.done _

-- laws_toTrip: as it stands

def convTrip (x : S23) : S25 := ⟨x.f0, x.f1, x.f2, x.f3, x.f4⟩
theorem ev_toTripS_l0 (xs : List S23) (hx : xs.length ≤ 1048576) : ∀ (d i : Nat) (ys : List S25), i + d = xs.length → ys.length = xs.length → Evn (fun k => laws_toTripS.l0 k xs ys (i : Int)) (ys.take i ++ (xs.drop i).map convTrip) := by
  intro d
  induction d with
  | zero =>
    intro i ys h hy
    refine Evn.step ?_
    have h1 : ¬ (i : Int) < (xs.length : Int) := by omega
    simp only [laws_toTripS.l0, if_neg h1]
    have e : ys.take i ++ (xs.drop i).map convTrip = ys := by rw [List.take_of_length_le (by omega), List.drop_eq_nil_of_le (by omega)]; simp
    rw [e]
    exact Evn.done _
  | succ d ih =>
    intro i ys h hy
    refine Evn.step ?_
    have h1 : (i : Int) < (xs.length : Int) := by omega
    have h2 : 0 ≤ (i : Int) := by omega
    have h3 : (i : Int) < (ys.length : Int) := by omega
    simp only [laws_toTripS.l0, laws_toTrip.f, if_pos h1, if_pos h2, if_pos h3, Option.bind_some, Int.toNat_natCast, wrap_succ (show i < 4611686018427387904 by omega)]
    refine (ih (i + 1) _ (by omega) (by simpa using hy)).eq_ ?_
    rw [set_take _ _ _ (by omega), getD_drop xs i z23 (by omega)]
    simp [convTrip, rd_T23]
theorem ev_toTripS (xs : List S23) (hx : xs.length ≤ 1048576) : Evn (fun k => laws_toTripS.f k xs) (xs.map convTrip) := by
  unfold laws_toTripS.f
  refine Evn.ite (fun _ => Evn.ite (fun _ => ?_) (fun h => (h (by omega)).elim)) (fun h => (h (by omega)).elim)
  have h := ev_toTripS_l0 xs hx xs.length 0 (List.replicate (xs.length : Int).toNat z25) (by omega) (by simp)
  simpa using h

theorem im_within (x y z : Int) : impl_within.f x y z = some (decide (y ≤ x ∧ x ≤ z)) := by
  unfold impl_within.f
  by_cases h : x ≥ y <;> simp [h] <;> omega

theorem im_isTime (x : Int) : impl_isTime.f x = some (decide (0 ≤ x ∧ x ≤ 999)) := by
  simp only [impl_isTime.f, im_within, Option.bind_some]
theorem im_IsTrip_j1 (k : Nat) (p b c d e : Int) (q : Bool) (hq : q = decide (p = 0 ∨ p = 4 ∨ p = 5)) : impl_IsTrip.j1 (k + 1) p q p b c d e = some (decide (0 ≤ p ∧ p ≤ 5) && (if 1 ≤ p ∧ p ≤ 3 then decide (1 ≤ c ∧ c ≤ b) && ((p == 1) == decide (e ≤ d)) else c == 0)) := by
  subst hq
  simp only [impl_IsTrip.j1, im_within, Option.bind_some, ite_and]
  by_cases h0 : p = 0
  · subst h0; simp
  by_cases h4 : p = 4
  · subst h4; simp
  by_cases h5 : p = 5
  · subst h5; simp
  by_cases h1 : p = 1
  · subst h1; simp
  have hn : decide (d < e) = !decide (e ≤ d) := by by_cases h : e ≤ d <;> simp [h] <;> omega
  by_cases h2 : p = 2
  · subst h2; simp [hn]
  by_cases h3 : p = 3
  · subst h3; simp [hn]
  have : ¬ (0 ≤ p ∧ p ≤ 5) := by omega
  simp [h0, h1, h2, h3, h4, h5, this]
theorem im_IsTrip (a b c d e : Int) : Evn (fun k => impl_IsTrip.f k a b c d e) (goodT a b c d e) := by
  refine Evn.step (Evn.step ?_)
  refine Evn.of fun k => ?_
  unfold goodT
  simp only [impl_IsTrip.f, impl_IsTrip.j0, im_isTime, im_within, Option.bind_some]
  have e0 : impl_IsTrip.j1 (k + 1) a (a == 0) a b c d e = impl_IsTrip.j1 (k + 1) a (a == 0) a b c d e := rfl
  by_cases h2 : 1 ≤ b ∧ b ≤ 12
  · by_cases h3 : 0 ≤ d ∧ d ≤ 999
    · by_cases h4 : 0 ≤ e ∧ e ≤ 999
      · by_cases g0 : a = 0
        · rw [if_pos (decide_eq_true h2), if_pos (decide_eq_true h3), decide_eq_true h4, if_neg (by decide), if_pos g0, im_IsTrip_j1 k a b c d e _ (by simp [g0])]
          simp [h2, h3]
        · by_cases g4 : a = 4
          · rw [if_pos (decide_eq_true h2), if_pos (decide_eq_true h3), decide_eq_true h4, if_neg (by decide), if_neg g0, if_pos g4, im_IsTrip_j1 k a b c d e _ (by simp [g4])]
            simp [h2, h3]
          · rw [if_pos (decide_eq_true h2), if_pos (decide_eq_true h3), decide_eq_true h4, if_neg (by decide), if_neg g0, if_neg g4, im_IsTrip_j1 k a b c d e _ (by by_cases g5 : a = 5 <;> simp [g0, g4, g5])]
            simp [h2, h3]
      · simp [h2, h3, h4]
    · simp [h2, h3]
  · simp [h2]

theorem im_areTrips (xs : List S25) : Evn (fun k => impl_areTrips.f k xs) (xs.all okT) := by
  have key : ∃ K, ∀ k, K ≤ k → ∀ x ∈ xs, impl_IsTrip.f k x.f0 x.f1 x.f2 x.f3 x.f4 = some (okT x) := by
    induction xs with
    | nil => exact ⟨0, fun k _ x hx => by cases hx⟩
    | cons y ys ih =>
      obtain ⟨K, hK⟩ := ih
      obtain ⟨K', hK'⟩ := im_IsTrip y.f0 y.f1 y.f2 y.f3 y.f4
      refine ⟨max K K', fun k hk x hx => ?_⟩
      rcases List.mem_cons.1 hx with h | h
      · subst h; exact hK' k (by omega)
      · exact hK k (by omega) x h
  obtain ⟨K, hK⟩ := key
  refine ⟨K, fun k hk => ?_⟩
  have h := hK k hk
  unfold impl_areTrips.f
  dsimp only
  rw [if_pos (List.all_eq_true.2 fun x hx => by rw [h x hx]; rfl)]
  congr 1
  rw [Bool.eq_iff_iff, Bool.not_eq_true', Bool.eq_false_iff, Ne, List.any_eq_true, List.all_eq_true]
  constructor
  · intro hn x hx
    cases hc : okT x with
    | true => rfl
    | false => exact absurd ⟨x, hx, by rw [h x hx, hc]; rfl⟩ hn
  · rintro ha ⟨x, hx, hq⟩
    rw [h x hx, ha x hx] at hq
    cases hq

theorem im_PeopleInside_l0 (xs : List S25) (hx : xs.length ≤ 4194304) : ∀ (d i : Nat) (s : Int), i + d = xs.length → Evn (fun k => impl_PeopleInside.l0 k s xs (xs.length : Int) (i : Int)) (sumT xs d i s, true) := by
  intro d
  induction d with
  | zero =>
    intro i s h
    refine Evn.step ?_
    have h1 : ¬ (i : Int) < (xs.length : Int) := by omega
    simp only [impl_PeopleInside.l0, if_neg h1, sumT]
    exact Evn.done _
  | succ d ih =>
    intro i s h
    refine Evn.step ?_
    have h1 : (i : Int) < (xs.length : Int) := by omega
    have h2 : 0 ≤ (i : Int) := by omega
    simp only [impl_PeopleInside.l0, if_pos h1, if_pos h2, wrap_succ (show i < 4611686018427387904 by omega), rd_T25, Int.toNat_natCast, sumT]
    exact ih (i + 1) _ (by omega)
theorem im_PeopleInside (xs : List S25) (hx : xs.length ≤ 4194304) : Evn (fun k => impl_PeopleInside.f k xs) (insideT xs) := by
  unfold impl_PeopleInside.f insideT
  refine Evn.bind (im_areTrips xs) ?_
  refine Evn.ite (fun c => ?_) (fun c => ?_)
  · rw [if_pos c]
    exact im_PeopleInside_l0 xs hx xs.length 0 0 (by omega)
  · rw [if_neg c]
    exact Evn.done _

-- laws_eqTrip: as it stands

theorem ev_eqTripS_l0 (xs : List S25) (hx : xs.length ≤ 4194304) : ∀ (d i : Nat), i + d = xs.length → Evn (fun k => laws_eqTripS.l0 k xs xs (i : Int)) true := by
  intro d
  induction d with
  | zero =>
    intro i h
    refine Evn.step ?_
    have h1 : ¬ (i : Int) < (xs.length : Int) := by omega
    simp only [laws_eqTripS.l0, if_neg h1]
    exact Evn.done _
  | succ d ih =>
    intro i h
    refine Evn.step ?_
    have h1 : (i : Int) < (xs.length : Int) := by omega
    have h2 : 0 ≤ (i : Int) := by omega
    simp only [laws_eqTripS.l0, laws_eqTrip.f, if_pos h1, if_pos h2, Option.bind_some, if_true, wrap_succ (show i < 4611686018427387904 by omega)]
    exact ih (i + 1) (by omega)
theorem ev_eqTripS (xs : List S25) (hx : xs.length ≤ 4194304) : Evn (fun k => laws_eqTripS.f k xs xs) true := by
  simp only [laws_eqTripS.f, if_true]
  exact ev_eqTripS_l0 xs hx xs.length 0 (by omega)

theorem FnExactPeopleInside : ∀ (l0 : List (S23)), l0.length ≤ maxLen → (∀ x ∈ l0, (Lit.int .i64 x.f0).wf = true ∧ (Lit.int .i64 x.f1).wf = true ∧ (Lit.int .i64 x.f2).wf = true ∧ (Lit.int .i64 x.f3).wf = true ∧ (Lit.int .i64 x.f4).wf = true) → ∃ k, laws_FnExactPeopleInside.f k l0 = some true := by
  intro l hl _
  apply Evn.get
  simp only [laws_FnExactPeopleInside.f, ev_szTripS, Option.bind_some]
  refine Evn.ite (fun _ => Evn.done _) (fun h => ?_)
  have hx : l.length ≤ 1048576 := by unfold maxLen at hl; unfold wrap64 at h; split at h <;> omega
  have hx' : (l.map convTrip).length ≤ 4194304 := by rw [List.length_map]; omega
  refine Evn.bind (ev_toTripS l hx) ?_
  refine Evn.bind (sp_PeopleInside _ hx') ?_
  refine Evn.bind (ev_toTripS l hx) ?_
  refine Evn.bind (im_PeopleInside _ hx') ?_
  simp only [if_true, bne_self_eq_false]
  refine Evn.step ?_
  simp only [laws_FnExactPeopleInside.j0, Bool.false_eq_true, if_false]
  refine Evn.bind (ev_toTripS l hx) ?_
  refine Evn.bind (ev_eqTripS _ (by omega)) ?_
  simp only [if_true]
  exact Evn.done _

end Go.Proofs.Ytmeaacbnjpgepaa.Pure
