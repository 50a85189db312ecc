/- The plain statement of FnExactAreSumps: its plain function returns true at every input. No condition beyond the arguments' own bounds. -/
import Derived.Test.YtmfidodcpbochaaPFnExactAreSumpsx5
import Derived.Test.YtmfidodcpbochaaAid
namespace Go.Proofs.Ytmfidodcpbochaa.Pure
open Go.RowKit Go.Proofs.YtmfidodcpbochaaW.PrintWords Go.Proofs.YtmfidodcpbochaaW.PrintLast Go.Proofs.Ytmfidodcpbochaa.Aid Go.Proofs.Ytmfidodcpbochaa.PFnExactAreSumps
set_option linter.unusedVariables false
set_option linter.unusedSimpArgs false

theorem ev_szSumpS (l : List S65) (q : Int) : laws_szSumpS.f l q = some (if wrap64 (q - (l.length : Int)) < 0 then -1 else wrap64 (q - (l.length : Int))) := by
  unfold laws_szSumpS.f
  split <;> rfl

theorem sp_l1In (x y z : Int) : spec_l1In.f x y z = some (decide (y ≤ x ∧ x ≤ z)) := by
  unfold spec_l1In.f
  by_cases h : x ≥ y <;> simp [h] <;> omega

theorem sp_l23Level (x : Int) : spec_l23Level.f x = some (decide (-500 ≤ x ∧ x ≤ 500)) := by
  simp only [spec_l23Level.f, sp_l1In, Option.bind_some]

theorem sp_l4Station (x : Int) : spec_l4Station.f x = some (decide (0 ≤ x ∧ x ≤ 7)) := by
  simp only [spec_l4Station.f, sp_l1In, Option.bind_some]

def okSump (x : S63) : Bool := decide (0 ≤ x.f0 ∧ x.f0 ≤ 7) && (decide (-500 ≤ x.f1 ∧ x.f1 ≤ 500) && decide (-500 ≤ x.f2 ∧ x.f2 ≤ x.f1))
/-! The rules of a list of Sump, as both texts have them. -/
def goodSump (xs : List S63) : Nat → Nat → Bool
  | 0, _ => true
  | d + 1, i => (okSump (xs.getD i z63) && (decide (i = 0) || decide ((xs.getD (i - 1) z63).f0 < (xs.getD i z63).f0))) && goodSump xs d (i + 1)
def goodSumps (xs : List S63) : Bool := goodSump xs xs.length 0
theorem goodSump_facts (xs : List S63) : ∀ (d i : Nat), i + d = xs.length → goodSump xs d i = true → (∀ j, i ≤ j → j < xs.length → okSump (xs.getD j z63) = true ∧ (j = 0 ∨ (xs.getD (j - 1) z63).f0 < (xs.getD j z63).f0)) ∧ True := by
  intro d
  induction d with
  | zero =>
    intro i h hg
    exact ⟨fun j h1 h2 => by omega, trivial⟩
  | succ d ih =>
    intro i h hg
    simp only [goodSump, Bool.and_eq_true, Bool.or_eq_true, decide_eq_true_eq] at hg
    obtain ⟨⟨g1, g2⟩, g3⟩ := hg
    obtain ⟨h1, h2⟩ := ih (i + 1) (by omega) g3
    refine ⟨fun j hj hl => ?_, h2⟩
    rcases Nat.lt_or_ge i j with hc | hc
    · exact h1 j hc hl
    · obtain rfl : j = i := by omega
      exact ⟨g1, g2⟩
theorem goodSumps_len {xs : List S63} (h : goodSumps xs = true) : True := (goodSump_facts xs xs.length 0 (by omega) h).2
theorem goodSumps_ok {xs : List S63} (h : goodSumps xs = true) (j : Nat) (hj : j < xs.length) : okSump (xs.getD j z63) = true := ((goodSump_facts xs xs.length 0 (by omega) h).1 j (by omega) hj).1
theorem goodSumps_step {xs : List S63} (h : goodSumps xs = true) (j : Nat) (hj : j + 1 < xs.length) : (xs.getD j z63).f0 < (xs.getD (j + 1) z63).f0 := by
  have h1 := ((goodSump_facts xs xs.length 0 (by omega) h).1 (j + 1) (by omega) hj).2
  rcases h1 with h1 | h1
  · omega
  · exact h1

theorem sp_l23Sump (x : S63) : spec_l23Sump.f x.f0 x.f1 x.f2 = some (okSump x) := by
  simp only [spec_l23Sump.f, sp_l4Station, sp_l23Level, sp_l1In, Option.bind_some, ite_and, okSump]

theorem sp_l23Sumps_l0 (xs : List S63) (hx : xs.length ≤ 1048576) : ∀ (d i : Nat), i + d = xs.length → Evn (fun k => spec_l23Sumps.l0 k xs (i : Int)) (goodSump xs d i) := by
  intro d
  induction d with
  | zero =>
    intro i h
    refine Evn.step ?_
    have h1 : ¬ (i : Int) < (xs.length : Int) := by omega
    simp only [spec_l23Sumps.l0, if_neg h1, goodSump]
    exact Evn.done _
  | succ d ih =>
    intro i h
    refine Evn.step ?_
    have h1 : (i : Int) < (xs.length : Int) := by omega
    have h2 : 0 ≤ (i : Int) := by omega
    have hih := ih (i + 1) (by omega)
    simp only [spec_l23Sumps.l0, if_pos h1, if_pos h2, sp_l23Sump, Option.bind_some, wrap_succ (show i < 4611686018427387904 by omega), rd_T63, Int.toNat_natCast, goodSump]
    refine Evn.ite (fun c1 => ?_) (fun c1 => (Evn.done _).eq_ (by simp only [Bool.eq_false_iff.mpr c1, Bool.false_and]))
    simp only [c1, Bool.true_and]
    rcases Nat.eq_zero_or_pos i with h0 | h0
    · subst h0
      have h3 : ¬ ((0 : Nat) : Int) > 0 := by omega
      simp only [if_neg h3, decide_true, Bool.true_or, Bool.true_and]
      exact hih
    · obtain ⟨j, rfl⟩ : ∃ j, i = j + 1 := ⟨i - 1, by omega⟩
      have h3 : ((j + 1 : Nat) : Int) > 0 := by omega
      have h4 : 0 ≤ (j : Int) := by omega
      have h5 : (j : Int) < (xs.length : Int) := by omega
      simp only [if_pos h3, wrap_pred (show j < 4611686018427387904 by omega), if_pos h4, if_pos h5, Int.toNat_natCast, Nat.add_sub_cancel]
      refine Evn.ite (fun c3 => (Evn.done _).eq_ ?_) (fun c3 => hih.eq_ ?_)
      · have e1 : decide ((xs.getD j z63).f0 < (xs.getD (j + 1) z63).f0) = false := decide_eq_false (by omega)
        simp only [e1, show decide (j + 1 = 0) = false from by simp, Bool.or_false, Bool.false_and]
      · have e1 : decide ((xs.getD j z63).f0 < (xs.getD (j + 1) z63).f0) = true := decide_eq_true (by omega)
        simp only [e1, Bool.or_true, Bool.true_and]
theorem sp_l23Sumps (xs : List S63) (hx : xs.length ≤ 1048576) : Evn (fun k => spec_l23Sumps.f k xs) (goodSumps xs) := sp_l23Sumps_l0 xs hx xs.length 0 (by omega)

-- laws_toSump: as it stands

def convSump (x : S65) : S63 := ⟨x.f0, x.f1, x.f2⟩
theorem ev_toSumpS_l0 (xs : List S65) (hx : xs.length ≤ 1048576) : ∀ (d i : Nat) (ys : List S63), i + d = xs.length → ys.length = xs.length → Evn (fun k => laws_toSumpS.l0 k xs ys (i : Int)) (ys.take i ++ (xs.drop i).map convSump) := by
  intro d
  induction d with
  | zero =>
    intro i ys h hy
    refine Evn.step ?_
    have h1 : ¬ (i : Int) < (xs.length : Int) := by omega
    simp only [laws_toSumpS.l0, if_neg h1]
    have e : ys.take i ++ (xs.drop i).map convSump = ys := by rw [List.take_of_length_le (by omega), List.drop_eq_nil_of_le (by omega)]; simp
    rw [e]
    exact Evn.done _
  | succ d ih =>
    intro i ys h hy
    refine Evn.step ?_
    have h1 : (i : Int) < (xs.length : Int) := by omega
    have h2 : 0 ≤ (i : Int) := by omega
    have h3 : (i : Int) < (ys.length : Int) := by omega
    simp only [laws_toSumpS.l0, laws_toSump.f, if_pos h1, if_pos h2, if_pos h3, Option.bind_some, Int.toNat_natCast, wrap_succ (show i < 4611686018427387904 by omega)]
    refine (ih (i + 1) _ (by omega) (by simpa using hy)).eq_ ?_
    rw [set_take _ _ _ (by omega), getD_drop xs i z65 (by omega)]
    simp [convSump, rd_T65]
theorem ev_toSumpS (xs : List S65) (hx : xs.length ≤ 1048576) : Evn (fun k => laws_toSumpS.f k xs) (xs.map convSump) := by
  unfold laws_toSumpS.f
  refine Evn.ite (fun _ => Evn.ite (fun _ => ?_) (fun h => (h (by omega)).elim)) (fun h => (h (by omega)).elim)
  have h := ev_toSumpS_l0 xs hx xs.length 0 (List.replicate (xs.length : Int).toNat z63) (by omega) (by simp)
  simpa using h

theorem im_within (x y z : Int) : impl_within.f x y z = some (decide (y ≤ x ∧ x ≤ z)) := by
  unfold impl_within.f
  by_cases h : x ≥ y <;> simp [h] <;> omega

theorem im_isLevel (x : Int) : impl_isLevel.f x = some (decide (-500 ≤ x ∧ x ≤ 500)) := by
  simp only [impl_isLevel.f, im_within, Option.bind_some]

theorem im_isStation (x : Int) : impl_isStation.f x = some (decide (0 ≤ x ∧ x ≤ 7)) := by
  simp only [impl_isStation.f, im_within, Option.bind_some]

theorem im_isSump (x : S63) : impl_isSump.f x.f0 x.f1 x.f2 = some (okSump x) := by
  simp only [impl_isSump.f, im_isStation, im_isLevel, Option.bind_some, ite_and, okSump]
  congr 2
  rw [Bool.eq_iff_iff]
  simp only [Bool.and_eq_true, decide_eq_true_eq]
  omega

theorem im_AreSumps_l0 (xs : List S63) (hx : xs.length ≤ 1048576) : ∀ (d i : Nat), i + d = xs.length → Evn (fun k => impl_AreSumps.l0 k xs xs (xs.length : Int) (i : Int)) (goodSump xs d i) := by
  intro d
  induction d with
  | zero =>
    intro i h
    refine Evn.step ?_
    have h1 : ¬ (i : Int) < (xs.length : Int) := by omega
    simp only [impl_AreSumps.l0, if_neg h1, goodSump]
    exact Evn.done _
  | succ d ih =>
    intro i h
    refine Evn.step ?_
    have h1 : (i : Int) < (xs.length : Int) := by omega
    have h2 : 0 ≤ (i : Int) := by omega
    have hih := ih (i + 1) (by omega)
    simp only [impl_AreSumps.l0, if_pos h1, if_pos h2, im_isSump, Option.bind_some, wrap_succ (show i < 4611686018427387904 by omega), rd_T63, Int.toNat_natCast, goodSump]
    refine Evn.ite (fun c1 => ?_) (fun c1 => (Evn.done _).eq_ (by simp only [Bool.eq_false_iff.mpr c1, Bool.false_and]))
    simp only [c1, Bool.true_and]
    rcases Nat.eq_zero_or_pos i with h0 | h0
    · subst h0
      have h3 : ¬ ((0 : Nat) : Int) > 0 := by omega
      simp only [if_neg h3, decide_true, Bool.true_or, Bool.true_and]
      exact hih
    · obtain ⟨j, rfl⟩ : ∃ j, i = j + 1 := ⟨i - 1, by omega⟩
      have h3 : ((j + 1 : Nat) : Int) > 0 := by omega
      have h4 : 0 ≤ (j : Int) := by omega
      have h5 : (j : Int) < (xs.length : Int) := by omega
      simp only [if_pos h3, wrap_pred (show j < 4611686018427387904 by omega), if_pos h4, if_pos h5, Int.toNat_natCast, Nat.add_sub_cancel]
      refine Evn.ite (fun c3 => (Evn.done _).eq_ ?_) (fun c3 => hih.eq_ ?_)
      · have e1 : decide ((xs.getD j z63).f0 < (xs.getD (j + 1) z63).f0) = false := decide_eq_false (by omega)
        simp only [e1, show decide (j + 1 = 0) = false from by simp, Bool.or_false, Bool.false_and]
      · have e1 : decide ((xs.getD j z63).f0 < (xs.getD (j + 1) z63).f0) = true := decide_eq_true (by omega)
        simp only [e1, Bool.or_true, Bool.true_and]
theorem im_AreSumps (xs : List S63) (hx : xs.length ≤ 1048576) : Evn (fun k => impl_AreSumps.f k xs) (goodSumps xs) := im_AreSumps_l0 xs hx xs.length 0 (by omega)

-- laws_eqSump: as it stands

theorem ev_eqSumpS_l0 (xs : List S63) (hx : xs.length ≤ 1048576) : ∀ (d i : Nat), i + d = xs.length → Evn (fun k => laws_eqSumpS.l0 k xs xs (i : Int)) true := by
  intro d
  induction d with
  | zero =>
    intro i h
    refine Evn.step ?_
    have h1 : ¬ (i : Int) < (xs.length : Int) := by omega
    simp only [laws_eqSumpS.l0, if_neg h1]
    exact Evn.done _
  | succ d ih =>
    intro i h
    refine Evn.step ?_
    have h1 : (i : Int) < (xs.length : Int) := by omega
    have h2 : 0 ≤ (i : Int) := by omega
    simp only [laws_eqSumpS.l0, laws_eqSump.f, if_pos h1, if_pos h2, Option.bind_some, if_true, wrap_succ (show i < 4611686018427387904 by omega)]
    exact ih (i + 1) (by omega)
theorem ev_eqSumpS (xs : List S63) (hx : xs.length ≤ 1048576) : Evn (fun k => laws_eqSumpS.f k xs xs) true := by
  simp only [laws_eqSumpS.f, if_true]
  exact ev_eqSumpS_l0 xs hx xs.length 0 (by omega)

theorem FnExactAreSumps : ∀ (l0 : List (S65)), l0.length ≤ maxLen → (∀ x ∈ l0, (Lit.int .i64 x.f0).wf = true ∧ (Lit.int .i64 x.f1).wf = true ∧ (Lit.int .i64 x.f2).wf = true) → ∃ k, laws_FnExactAreSumps.f k l0 = some true := by
  intro l hl _
  apply Evn.get
  simp only [laws_FnExactAreSumps.f, ev_szSumpS, Option.bind_some]
  refine Evn.ite (fun _ => Evn.done _) (fun h => ?_)
  have hx : l.length ≤ 1048576 := by unfold maxLen at hl; unfold wrap64 at h; split at h <;> omega
  have hx' : (l.map convSump).length ≤ 1048576 := by simpa using hx
  refine Evn.bind (ev_toSumpS l hx) ?_
  simp only [spec_AreSumps.f]
  refine Evn.bind (Evn.bind (sp_l23Sumps _ hx') (Evn.done _)) ?_
  refine Evn.bind (ev_toSumpS l hx) ?_
  refine Evn.bind (im_AreSumps _ hx') ?_
  simp only [bne_self_eq_false, Bool.false_eq_true, if_false]
  refine Evn.bind (ev_toSumpS l hx) ?_
  refine Evn.bind (ev_eqSumpS _ hx') ?_
  simp only [if_true]
  exact Evn.done _

end Go.Proofs.Ytmfidodcpbochaa.Pure
