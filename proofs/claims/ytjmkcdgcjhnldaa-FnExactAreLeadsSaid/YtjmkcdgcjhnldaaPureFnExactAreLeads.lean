/- The plain statement of FnExactAreLeads: its plain function returns true at every input. No condition beyond the arguments' own bounds. -/
import Derived.Test.YtjmkcdgcjhnldaaPFnExactAreLeadsx5
import Derived.Test.YtjmkcdgcjhnldaaAid
namespace Go.Proofs.Ytjmkcdgcjhnldaa.Pure
open Go.RowKit Go.Proofs.YtjmkcdgcjhnldaaW.PrintWords Go.Proofs.YtjmkcdgcjhnldaaW.PrintLast Go.Proofs.Ytjmkcdgcjhnldaa.Aid Go.Proofs.Ytjmkcdgcjhnldaa.PFnExactAreLeads
set_option linter.unusedVariables false
set_option linter.unusedSimpArgs false

theorem ev_szLeadS (l : List S23) (q : Int) : laws_szLeadS.f l q = some (if wrap64 (q - (l.length : Int)) < 0 then -1 else wrap64 (q - (l.length : Int))) := by
  unfold laws_szLeadS.f
  split <;> rfl

theorem sp_l1In (x y z : Int) : spec_l1In.f x y z = some (decide (y ≤ x ∧ x ≤ z)) := by
  unfold spec_l1In.f
  by_cases h : x ≥ y <;> simp [h] <;> omega

theorem sp_l4Station (x : Int) : spec_l4Station.f x = some (decide (0 ≤ x ∧ x ≤ 7)) := by
  simp only [spec_l4Station.f, sp_l1In, Option.bind_some]

def okLead (x : S25) : Bool := decide (1 ≤ x.f0 ∧ x.f0 ≤ 99) && (decide (0 ≤ x.f1 ∧ x.f1 ≤ 7) && (decide (1 ≤ x.f2 ∧ x.f2 ≤ 9) && (decide (1 ≤ x.f3 ∧ x.f3 ≤ 9) && decide (0 ≤ x.f4 ∧ x.f4 ≤ 3))))
/-! The rules of a list of Lead, as both texts have them. -/
def goodLead (xs : List S25) : Nat → Nat → Bool
  | 0, _ => decide (xs.length ≤ 12)
  | d + 1, i => (okLead (xs.getD i z25) && (decide (i = 0) || decide ((xs.getD (i - 1) z25).f0 < (xs.getD i z25).f0))) && goodLead xs d (i + 1)
def goodLeads (xs : List S25) : Bool := goodLead xs xs.length 0
theorem goodLead_facts (xs : List S25) : ∀ (d i : Nat), i + d = xs.length → goodLead xs d i = true → (∀ j, i ≤ j → j < xs.length → okLead (xs.getD j z25) = true ∧ (j = 0 ∨ (xs.getD (j - 1) z25).f0 < (xs.getD j z25).f0)) ∧ xs.length ≤ 12 := by
  intro d
  induction d with
  | zero =>
    intro i h hg
    exact ⟨fun j h1 h2 => by omega, by simpa [goodLead] using hg⟩
  | succ d ih =>
    intro i h hg
    simp only [goodLead, Bool.and_eq_true, Bool.or_eq_true, decide_eq_true_eq] at hg
    obtain ⟨⟨g1, g2⟩, g3⟩ := hg
    obtain ⟨h1, h2⟩ := ih (i + 1) (by omega) g3
    refine ⟨fun j hj hl => ?_, h2⟩
    rcases Nat.lt_or_ge i j with hc | hc
    · exact h1 j hc hl
    · obtain rfl : j = i := by omega
      exact ⟨g1, g2⟩
theorem goodLeads_len {xs : List S25} (h : goodLeads xs = true) : xs.length ≤ 12 := (goodLead_facts xs xs.length 0 (by omega) h).2
theorem goodLeads_ok {xs : List S25} (h : goodLeads xs = true) (j : Nat) (hj : j < xs.length) : okLead (xs.getD j z25) = true := ((goodLead_facts xs xs.length 0 (by omega) h).1 j (by omega) hj).1
theorem goodLeads_step {xs : List S25} (h : goodLeads xs = true) (j : Nat) (hj : j + 1 < xs.length) : (xs.getD j z25).f0 < (xs.getD (j + 1) z25).f0 := by
  have h1 := ((goodLead_facts xs xs.length 0 (by omega) h).1 (j + 1) (by omega) hj).2
  rcases h1 with h1 | h1
  · omega
  · exact h1

theorem sp_l18One (x : S25) : spec_l18One.f x.f0 x.f1 x.f2 x.f3 x.f4 = some (okLead x) := by
  simp only [spec_l18One.f, sp_l4Station, spec_l18State.f, sp_l1In, Option.bind_some, ite_and, okLead]

theorem sp_l18Good_l0 (xs : List S25) (hx : xs.length ≤ 1048576) : ∀ (d i : Nat), i + d = xs.length → Evn (fun k => spec_l18Good.l0 k xs (i : Int)) (goodLead xs d i) := by
  intro d
  induction d with
  | zero =>
    intro i h
    refine Evn.step ?_
    have h1 : ¬ (i : Int) < (xs.length : Int) := by omega
    simp only [spec_l18Good.l0, if_neg h1, goodLead]
    refine (Evn.done _).eq_ ?_
    simp only [decide_eq_decide]
    omega
  | succ d ih =>
    intro i h
    refine Evn.step ?_
    have h1 : (i : Int) < (xs.length : Int) := by omega
    have h2 : 0 ≤ (i : Int) := by omega
    have hih := ih (i + 1) (by omega)
    simp only [spec_l18Good.l0, if_pos h1, if_pos h2, sp_l18One, Option.bind_some, wrap_succ (show i < 4611686018427387904 by omega), rd_T25, Int.toNat_natCast, goodLead]
    refine Evn.ite (fun c1 => ?_) (fun c1 => (Evn.done _).eq_ (by simp only [Bool.eq_false_iff.mpr c1, Bool.false_and]))
    simp only [c1, Bool.true_and]
    rcases Nat.eq_zero_or_pos i with h0 | h0
    · subst h0
      have h3 : ¬ ((0 : Nat) : Int) > 0 := by omega
      simp only [if_neg h3, decide_true, Bool.true_or, Bool.true_and]
      exact hih
    · obtain ⟨j, rfl⟩ : ∃ j, i = j + 1 := ⟨i - 1, by omega⟩
      have h3 : ((j + 1 : Nat) : Int) > 0 := by omega
      have h4 : 0 ≤ (j : Int) := by omega
      have h5 : (j : Int) < (xs.length : Int) := by omega
      simp only [if_pos h3, wrap_pred (show j < 4611686018427387904 by omega), if_pos h4, if_pos h5, Int.toNat_natCast, Nat.add_sub_cancel]
      refine Evn.ite (fun c3 => (Evn.done _).eq_ ?_) (fun c3 => hih.eq_ ?_)
      · have e1 : decide ((xs.getD j z25).f0 < (xs.getD (j + 1) z25).f0) = false := decide_eq_false (by omega)
        simp only [e1, show decide (j + 1 = 0) = false from by simp, Bool.or_false, Bool.false_and]
      · have e1 : decide ((xs.getD j z25).f0 < (xs.getD (j + 1) z25).f0) = true := decide_eq_true (by omega)
        simp only [e1, Bool.or_true, Bool.true_and]
theorem sp_l18Good (xs : List S25) (hx : xs.length ≤ 1048576) : Evn (fun k => spec_l18Good.f k xs) (goodLeads xs) := sp_l18Good_l0 xs hx xs.length 0 (by omega)

-- laws_toLead: as it stands

def convLead (x : S23) : S25 := ⟨x.f0, x.f1, x.f2, x.f3, x.f4⟩
theorem ev_toLeadS_l0 (xs : List S23) (hx : xs.length ≤ 1048576) : ∀ (d i : Nat) (ys : List S25), i + d = xs.length → ys.length = xs.length → Evn (fun k => laws_toLeadS.l0 k xs ys (i : Int)) (ys.take i ++ (xs.drop i).map convLead) := by
  intro d
  induction d with
  | zero =>
    intro i ys h hy
    refine Evn.step ?_
    have h1 : ¬ (i : Int) < (xs.length : Int) := by omega
    simp only [laws_toLeadS.l0, if_neg h1]
    have e : ys.take i ++ (xs.drop i).map convLead = ys := by rw [List.take_of_length_le (by omega), List.drop_eq_nil_of_le (by omega)]; simp
    rw [e]
    exact Evn.done _
  | succ d ih =>
    intro i ys h hy
    refine Evn.step ?_
    have h1 : (i : Int) < (xs.length : Int) := by omega
    have h2 : 0 ≤ (i : Int) := by omega
    have h3 : (i : Int) < (ys.length : Int) := by omega
    simp only [laws_toLeadS.l0, laws_toLead.f, if_pos h1, if_pos h2, if_pos h3, Option.bind_some, Int.toNat_natCast, wrap_succ (show i < 4611686018427387904 by omega)]
    refine (ih (i + 1) _ (by omega) (by simpa using hy)).eq_ ?_
    rw [set_take _ _ _ (by omega), getD_drop xs i z23 (by omega)]
    simp [convLead, rd_T23]
theorem ev_toLeadS (xs : List S23) (hx : xs.length ≤ 1048576) : Evn (fun k => laws_toLeadS.f k xs) (xs.map convLead) := by
  unfold laws_toLeadS.f
  refine Evn.ite (fun _ => Evn.ite (fun _ => ?_) (fun h => (h (by omega)).elim)) (fun h => (h (by omega)).elim)
  have h := ev_toLeadS_l0 xs hx xs.length 0 (List.replicate (xs.length : Int).toNat z25) (by omega) (by simp)
  simpa using h

theorem im_within (x y z : Int) : impl_within.f x y z = some (decide (y ≤ x ∧ x ≤ z)) := by
  unfold impl_within.f
  by_cases h : x ≥ y <;> simp [h] <;> omega

theorem im_isStation (x : Int) : impl_isStation.f x = some (decide (0 ≤ x ∧ x ≤ 7)) := by
  simp only [impl_isStation.f, im_within, Option.bind_some]

theorem im_IsLead (x : S25) : impl_IsLead.f x.f0 x.f1 x.f2 x.f3 x.f4 = some (okLead x) := by
  simp only [impl_IsLead.f, impl_isId.f, im_isStation, impl_isGrade.f, impl_isState.f, im_within, Option.bind_some, ite_and, okLead]

theorem im_AreLeads_l0 (xs : List S25) (hx : xs.length ≤ 1048576) : ∀ (d i : Nat), i + d = xs.length → Evn (fun k => impl_AreLeads.l0 k xs xs (xs.length : Int) (i : Int)) (goodLead xs d i) := by
  intro d
  induction d with
  | zero =>
    intro i h
    refine Evn.step ?_
    have h1 : ¬ (i : Int) < (xs.length : Int) := by omega
    simp only [impl_AreLeads.l0, if_neg h1, goodLead]
    refine (Evn.done _).eq_ ?_
    simp only [decide_eq_decide]
    omega
  | succ d ih =>
    intro i h
    refine Evn.step ?_
    have h1 : (i : Int) < (xs.length : Int) := by omega
    have h2 : 0 ≤ (i : Int) := by omega
    have hih := ih (i + 1) (by omega)
    simp only [impl_AreLeads.l0, if_pos h1, if_pos h2, im_IsLead, Option.bind_some, wrap_succ (show i < 4611686018427387904 by omega), rd_T25, Int.toNat_natCast, goodLead]
    refine Evn.ite (fun c1 => ?_) (fun c1 => (Evn.done _).eq_ (by simp only [Bool.eq_false_iff.mpr c1, Bool.false_and]))
    simp only [c1, Bool.true_and]
    rcases Nat.eq_zero_or_pos i with h0 | h0
    · subst h0
      have h3 : ¬ ((0 : Nat) : Int) > 0 := by omega
      simp only [if_neg h3, decide_true, Bool.true_or, Bool.true_and]
      exact hih
    · obtain ⟨j, rfl⟩ : ∃ j, i = j + 1 := ⟨i - 1, by omega⟩
      have h3 : ((j + 1 : Nat) : Int) > 0 := by omega
      have h4 : 0 ≤ (j : Int) := by omega
      have h5 : (j : Int) < (xs.length : Int) := by omega
      simp only [if_pos h3, wrap_pred (show j < 4611686018427387904 by omega), if_pos h4, if_pos h5, Int.toNat_natCast, Nat.add_sub_cancel]
      refine Evn.ite (fun c3 => (Evn.done _).eq_ ?_) (fun c3 => hih.eq_ ?_)
      · have e1 : decide ((xs.getD j z25).f0 < (xs.getD (j + 1) z25).f0) = false := decide_eq_false (by omega)
        simp only [e1, show decide (j + 1 = 0) = false from by simp, Bool.or_false, Bool.false_and]
      · have e1 : decide ((xs.getD j z25).f0 < (xs.getD (j + 1) z25).f0) = true := decide_eq_true (by omega)
        simp only [e1, Bool.or_true, Bool.true_and]
theorem im_AreLeads (xs : List S25) (hx : xs.length ≤ 1048576) : Evn (fun k => impl_AreLeads.f k xs) (goodLeads xs) := im_AreLeads_l0 xs hx xs.length 0 (by omega)

-- laws_eqLead: as it stands

theorem ev_eqLeadS_l0 (xs : List S25) (hx : xs.length ≤ 1048576) : ∀ (d i : Nat), i + d = xs.length → Evn (fun k => laws_eqLeadS.l0 k xs xs (i : Int)) true := by
  intro d
  induction d with
  | zero =>
    intro i h
    refine Evn.step ?_
    have h1 : ¬ (i : Int) < (xs.length : Int) := by omega
    simp only [laws_eqLeadS.l0, if_neg h1]
    exact Evn.done _
  | succ d ih =>
    intro i h
    refine Evn.step ?_
    have h1 : (i : Int) < (xs.length : Int) := by omega
    have h2 : 0 ≤ (i : Int) := by omega
    simp only [laws_eqLeadS.l0, laws_eqLead.f, if_pos h1, if_pos h2, Option.bind_some, if_true, wrap_succ (show i < 4611686018427387904 by omega)]
    exact ih (i + 1) (by omega)
theorem ev_eqLeadS (xs : List S25) (hx : xs.length ≤ 1048576) : Evn (fun k => laws_eqLeadS.f k xs xs) true := by
  simp only [laws_eqLeadS.f, if_true]
  exact ev_eqLeadS_l0 xs hx xs.length 0 (by omega)

theorem FnExactAreLeads : ∀ (l0 : List (S23)), l0.length ≤ maxLen → (∀ x ∈ l0, (Lit.int .i64 x.f0).wf = true ∧ (Lit.int .i64 x.f1).wf = true ∧ (Lit.int .i64 x.f2).wf = true ∧ (Lit.int .i64 x.f3).wf = true ∧ (Lit.int .i64 x.f4).wf = true) → ∃ k, laws_FnExactAreLeads.f k l0 = some true := by
  intro l hl _
  apply Evn.get
  simp only [laws_FnExactAreLeads.f, ev_szLeadS, Option.bind_some]
  refine Evn.ite (fun _ => Evn.done _) (fun h => ?_)
  have hx : l.length ≤ 1048576 := by unfold maxLen at hl; unfold wrap64 at h; split at h <;> omega
  have hx' : (l.map convLead).length ≤ 1048576 := by simpa using hx
  refine Evn.bind (ev_toLeadS l hx) ?_
  simp only [spec_AreLeads.f]
  refine Evn.bind (Evn.bind (sp_l18Good _ hx') (Evn.done _)) ?_
  refine Evn.bind (ev_toLeadS l hx) ?_
  refine Evn.bind (im_AreLeads _ hx') ?_
  simp only [bne_self_eq_false, Bool.false_eq_true, if_false]
  refine Evn.bind (ev_toLeadS l hx) ?_
  refine Evn.bind (ev_eqLeadS _ hx') ?_
  simp only [if_true]
  exact Evn.done _

end Go.Proofs.Ytjmkcdgcjhnldaa.Pure
