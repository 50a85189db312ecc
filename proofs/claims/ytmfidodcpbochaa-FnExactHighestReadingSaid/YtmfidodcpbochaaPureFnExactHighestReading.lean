/- The plain statement of FnExactHighestReading: its plain function returns true at every input. No condition beyond the arguments' own bounds. -/
import Derived.Test.YtmfidodcpbochaaPFnExactHighestReadingx4
import Derived.Test.YtmfidodcpbochaaAid
namespace Go.Proofs.Ytmfidodcpbochaa.Pure
open Go.RowKit Go.Proofs.YtmfidodcpbochaaW.PrintWords Go.Proofs.YtmfidodcpbochaaW.PrintLast Go.Proofs.Ytmfidodcpbochaa.Aid Go.Proofs.Ytmfidodcpbochaa.PFnExactHighestReading
set_option linter.unusedVariables false
set_option linter.unusedSimpArgs false

theorem ev_szReadingS (l : List S59) (q : Int) : laws_szReadingS.f l q = some (if wrap64 (q - (l.length : Int)) < 0 then -1 else wrap64 (q - (l.length : Int))) := by
  unfold laws_szReadingS.f
  split <;> rfl

-- laws_toReading: as it stands

def convReading (x : S59) : S37 := ⟨x.f0, x.f1⟩
theorem ev_toReadingS_l0 (xs : List S59) (hx : xs.length ≤ 1048576) : ∀ (d i : Nat) (ys : List S37), i + d = xs.length → ys.length = xs.length → Evn (fun k => laws_toReadingS.l0 k xs ys (i : Int)) (ys.take i ++ (xs.drop i).map convReading) := by
  intro d
  induction d with
  | zero =>
    intro i ys h hy
    refine Evn.step ?_
    have h1 : ¬ (i : Int) < (xs.length : Int) := by omega
    simp only [laws_toReadingS.l0, if_neg h1]
    have e : ys.take i ++ (xs.drop i).map convReading = ys := by rw [List.take_of_length_le (by omega), List.drop_eq_nil_of_le (by omega)]; simp
    rw [e]
    exact Evn.done _
  | succ d ih =>
    intro i ys h hy
    refine Evn.step ?_
    have h1 : (i : Int) < (xs.length : Int) := by omega
    have h2 : 0 ≤ (i : Int) := by omega
    have h3 : (i : Int) < (ys.length : Int) := by omega
    simp only [laws_toReadingS.l0, laws_toReading.f, if_pos h1, if_pos h2, if_pos h3, Option.bind_some, Int.toNat_natCast, wrap_succ (show i < 4611686018427387904 by omega)]
    refine (ih (i + 1) _ (by omega) (by simpa using hy)).eq_ ?_
    rw [set_take _ _ _ (by omega), getD_drop xs i z59 (by omega)]
    simp [convReading, rd_T59]
theorem ev_toReadingS (xs : List S59) (hx : xs.length ≤ 1048576) : Evn (fun k => laws_toReadingS.f k xs) (xs.map convReading) := by
  unfold laws_toReadingS.f
  refine Evn.ite (fun _ => Evn.ite (fun _ => ?_) (fun h => (h (by omega)).elim)) (fun h => (h (by omega)).elim)
  have h := ev_toReadingS_l0 xs hx xs.length 0 (List.replicate (xs.length : Int).toNat z37) (by omega) (by simp)
  simpa using h

-- laws_eqReading: as it stands

theorem ev_eqReadingS_l0 (xs : List S37) (hx : xs.length ≤ 1048576) : ∀ (d i : Nat), i + d = xs.length → Evn (fun k => laws_eqReadingS.l0 k xs xs (i : Int)) true := by
  intro d
  induction d with
  | zero =>
    intro i h
    refine Evn.step ?_
    have h1 : ¬ (i : Int) < (xs.length : Int) := by omega
    simp only [laws_eqReadingS.l0, if_neg h1]
    exact Evn.done _
  | succ d ih =>
    intro i h
    refine Evn.step ?_
    have h1 : (i : Int) < (xs.length : Int) := by omega
    have h2 : 0 ≤ (i : Int) := by omega
    simp only [laws_eqReadingS.l0, laws_eqReading.f, if_pos h1, if_pos h2, Option.bind_some, if_true, wrap_succ (show i < 4611686018427387904 by omega)]
    exact ih (i + 1) (by omega)
theorem ev_eqReadingS (xs : List S37) (hx : xs.length ≤ 1048576) : Evn (fun k => laws_eqReadingS.f k xs xs) true := by
  simp only [laws_eqReadingS.f, if_true]
  exact ev_eqReadingS_l0 xs hx xs.length 0 (by omega)

theorem sp_l1In (x y z : Int) : spec_l1In.f x y z = some (decide (y ≤ x ∧ x ≤ z)) := by
  unfold spec_l1In.f
  by_cases h : x ≥ y <;> simp [h] <;> omega

theorem sp_l23Level (x : Int) : spec_l23Level.f x = some (decide (-500 ≤ x ∧ x ≤ 500)) := by
  simp only [spec_l23Level.f, sp_l1In, Option.bind_some]

def okR (x : S37) : Bool := decide (0 ≤ x.f0 ∧ x.f0 ≤ 999) && decide (-500 ≤ x.f1 ∧ x.f1 ≤ 500)
/-! The rules of a list of R, as both texts have them. -/
def goodR (xs : List S37) : Nat → Nat → Bool
  | 0, _ => decide (xs.length ≤ 15)
  | d + 1, i => (okR (xs.getD i z37) && (decide (i = 0) || decide ((xs.getD (i - 1) z37).f0 < (xs.getD i z37).f0))) && goodR xs d (i + 1)
def goodRs (xs : List S37) : Bool := goodR xs xs.length 0
theorem goodR_facts (xs : List S37) : ∀ (d i : Nat), i + d = xs.length → goodR xs d i = true → (∀ j, i ≤ j → j < xs.length → okR (xs.getD j z37) = true ∧ (j = 0 ∨ (xs.getD (j - 1) z37).f0 < (xs.getD j z37).f0)) ∧ xs.length ≤ 15 := by
  intro d
  induction d with
  | zero =>
    intro i h hg
    exact ⟨fun j h1 h2 => by omega, by simpa [goodR] using hg⟩
  | succ d ih =>
    intro i h hg
    simp only [goodR, Bool.and_eq_true, Bool.or_eq_true, decide_eq_true_eq] at hg
    obtain ⟨⟨g1, g2⟩, g3⟩ := hg
    obtain ⟨h1, h2⟩ := ih (i + 1) (by omega) g3
    refine ⟨fun j hj hl => ?_, h2⟩
    rcases Nat.lt_or_ge i j with hc | hc
    · exact h1 j hc hl
    · obtain rfl : j = i := by omega
      exact ⟨g1, g2⟩
theorem goodRs_len {xs : List S37} (h : goodRs xs = true) : xs.length ≤ 15 := (goodR_facts xs xs.length 0 (by omega) h).2
theorem goodRs_ok {xs : List S37} (h : goodRs xs = true) (j : Nat) (hj : j < xs.length) : okR (xs.getD j z37) = true := ((goodR_facts xs xs.length 0 (by omega) h).1 j (by omega) hj).1
theorem goodRs_step {xs : List S37} (h : goodRs xs = true) (j : Nat) (hj : j + 1 < xs.length) : (xs.getD j z37).f0 < (xs.getD (j + 1) z37).f0 := by
  have h1 := ((goodR_facts xs xs.length 0 (by omega) h).1 (j + 1) (by omega) hj).2
  rcases h1 with h1 | h1
  · omega
  · exact h1

theorem sp_l23Good_l0 (xs : List S37) (hx : xs.length ≤ 1048576) : ∀ (d i : Nat), i + d = xs.length → Evn (fun k => spec_l23Good.l0 k xs (i : Int)) (goodR xs d i) := by
  intro d
  induction d with
  | zero =>
    intro i h
    refine Evn.step ?_
    have h1 : ¬ (i : Int) < (xs.length : Int) := by omega
    simp only [spec_l23Good.l0, if_neg h1, goodR]
    refine (Evn.done _).eq_ ?_
    simp only [decide_eq_decide]
    omega
  | succ d ih =>
    intro i h
    refine Evn.step ?_
    have h1 : (i : Int) < (xs.length : Int) := by omega
    have h2 : 0 ≤ (i : Int) := by omega
    have hih := ih (i + 1) (by omega)
    simp only [spec_l23Good.l0, if_pos h1, if_pos h2, sp_l1In, sp_l23Level, Option.bind_some, wrap_succ (show i < 4611686018427387904 by omega), rd_T37, Int.toNat_natCast, goodR, okR]
    refine Evn.ite (fun c1 => ?_) (fun c1 => (Evn.done _).eq_ (by simp only [Bool.eq_false_iff.mpr c1, Bool.false_and]))
    refine Evn.ite (fun c2 => ?_) (fun c2 => (Evn.done _).eq_ (by simp only [Bool.eq_false_iff.mpr c2, Bool.and_false, Bool.false_and]))
    simp only [c1, c2, Bool.true_and]
    rcases Nat.eq_zero_or_pos i with h0 | h0
    · subst h0
      have h3 : ¬ ((0 : Nat) : Int) > 0 := by omega
      simp only [if_neg h3, decide_true, Bool.true_or, Bool.true_and]
      exact hih
    · obtain ⟨j, rfl⟩ : ∃ j, i = j + 1 := ⟨i - 1, by omega⟩
      have h3 : ((j + 1 : Nat) : Int) > 0 := by omega
      have h4 : 0 ≤ (j : Int) := by omega
      have h5 : (j : Int) < (xs.length : Int) := by omega
      simp only [if_pos h3, wrap_pred (show j < 4611686018427387904 by omega), if_pos h4, if_pos h5, Int.toNat_natCast, Nat.add_sub_cancel]
      refine Evn.ite (fun c3 => (Evn.done _).eq_ ?_) (fun c3 => hih.eq_ ?_)
      · have e1 : decide ((xs.getD j z37).f0 < (xs.getD (j + 1) z37).f0) = false := decide_eq_false (by omega)
        simp only [e1, show decide (j + 1 = 0) = false from by simp, Bool.or_false, Bool.false_and]
      · have e1 : decide ((xs.getD j z37).f0 < (xs.getD (j + 1) z37).f0) = true := decide_eq_true (by omega)
        simp only [e1, Bool.or_true, Bool.true_and]
theorem sp_l23Good (xs : List S37) (hx : xs.length ≤ 1048576) : Evn (fun k => spec_l23Good.f k xs) (goodRs xs) := sp_l23Good_l0 xs hx xs.length 0 (by omega)

def pickR (b x : S37) : S37 := if x.f1 > b.f1 then x else b
def bestR (xs : List S37) : S37 := (xs.drop 1).foldl pickR (xs.getD 0 z37)
theorem sp_HighestReading_l0 (xs : List S37) (hx : xs.length ≤ 1048576) : ∀ (d i : Nat) (b : S37), i + d = xs.length → Evn (fun k => spec_HighestReading.l0 k xs (i : Int) b.f0 b.f1) (((xs.drop i).foldl pickR b).f0, ((xs.drop i).foldl pickR b).f1, true) := by
  intro d
  induction d with
  | zero =>
    intro i b h
    refine Evn.step ?_
    have h1 : ¬ (i : Int) < (xs.length : Int) := by omega
    simp only [spec_HighestReading.l0, if_neg h1]
    refine (Evn.done _).eq_ ?_
    rw [List.drop_eq_nil_of_le (by omega)]
    rfl
  | succ d ih =>
    intro i b h
    refine Evn.step ?_
    have h1 : (i : Int) < (xs.length : Int) := by omega
    have h2 : 0 ≤ (i : Int) := by omega
    simp only [spec_HighestReading.l0, if_pos h1, if_pos h2, wrap_succ (show i < 4611686018427387904 by omega), rd_T37, Int.toNat_natCast]
    rw [getD_drop xs i z37 (by omega)]
    simp only [List.foldl_cons]
    refine Evn.ite (fun c => ?_) (fun c => ?_)
    · have e : pickR b (xs.getD i z37) = xs.getD i z37 := if_pos c
      rw [e]
      exact ih (i + 1) _ (by omega)
    · have e : pickR b (xs.getD i z37) = b := if_neg c
      rw [e]
      exact ih (i + 1) _ (by omega)
def highR (xs : List S37) : Int × Int × Bool := if goodRs xs = true ∧ 0 < xs.length then ((bestR xs).f0, (bestR xs).f1, true) else (0, 0, false)
theorem sp_HighestReading (xs : List S37) (hx : xs.length ≤ 1048576) : Evn (fun k => spec_HighestReading.f k xs) (highR xs) := by
  unfold spec_HighestReading.f
  refine Evn.bind (sp_l23Good xs hx) ?_
  unfold highR
  refine Evn.ite (fun c => Evn.step ?_) (fun c => Evn.step ?_)
  · simp only [spec_HighestReading.j0]
    refine Evn.ite (fun c1 => ?_) (fun c1 => ?_)
    · rw [if_neg (by intro h; simp only [beq_iff_eq] at c1; omega)]
      exact Evn.done _
    · have h0 : 0 < (xs.length : Int) := by simp only [beq_iff_eq] at c1; omega
      rw [if_pos ⟨c, by omega⟩]
      simp only [if_pos h0]
      exact sp_HighestReading_l0 xs hx (xs.length - 1) 1 _ (by omega)
  · simp only [spec_HighestReading.j0, if_true]
    rw [if_neg (fun h => c h.1)]
    exact Evn.done _

theorem im_within (x y z : Int) : impl_within.f x y z = some (decide (y ≤ x ∧ x ≤ z)) := by
  unfold impl_within.f
  by_cases h : x ≥ y <;> simp [h] <;> omega

theorem im_isLevel (x : Int) : impl_isLevel.f x = some (decide (-500 ≤ x ∧ x ≤ 500)) := by
  simp only [impl_isLevel.f, im_within, Option.bind_some]

theorem im_AreReadings_l0 (xs : List S37) (hx : xs.length ≤ 1048576) : ∀ (d i : Nat), i + d = xs.length → Evn (fun k => impl_AreReadings.l0 k xs xs (xs.length : Int) (i : Int)) (goodR xs d i) := by
  intro d
  induction d with
  | zero =>
    intro i h
    refine Evn.step ?_
    have h1 : ¬ (i : Int) < (xs.length : Int) := by omega
    simp only [impl_AreReadings.l0, if_neg h1, goodR]
    refine (Evn.done _).eq_ ?_
    simp only [decide_eq_decide]
    omega
  | succ d ih =>
    intro i h
    refine Evn.step ?_
    have h1 : (i : Int) < (xs.length : Int) := by omega
    have h2 : 0 ≤ (i : Int) := by omega
    have hih := ih (i + 1) (by omega)
    simp only [impl_AreReadings.l0, if_pos h1, if_pos h2, im_within, im_isLevel, Option.bind_some, wrap_succ (show i < 4611686018427387904 by omega), rd_T37, Int.toNat_natCast, goodR, okR]
    refine Evn.ite (fun c1 => ?_) (fun c1 => (Evn.done _).eq_ (by simp only [Bool.eq_false_iff.mpr c1, Bool.false_and]))
    refine Evn.ite (fun c2 => ?_) (fun c2 => (Evn.done _).eq_ (by simp only [Bool.eq_false_iff.mpr c2, Bool.and_false, Bool.false_and]))
    simp only [c1, c2, Bool.true_and]
    rcases Nat.eq_zero_or_pos i with h0 | h0
    · subst h0
      have h3 : ¬ ((0 : Nat) : Int) > 0 := by omega
      simp only [if_neg h3, decide_true, Bool.true_or, Bool.true_and]
      exact hih
    · obtain ⟨j, rfl⟩ : ∃ j, i = j + 1 := ⟨i - 1, by omega⟩
      have h3 : ((j + 1 : Nat) : Int) > 0 := by omega
      have h4 : 0 ≤ (j : Int) := by omega
      have h5 : (j : Int) < (xs.length : Int) := by omega
      simp only [if_pos h3, wrap_pred (show j < 4611686018427387904 by omega), if_pos h4, if_pos h5, Int.toNat_natCast, Nat.add_sub_cancel]
      refine Evn.ite (fun c3 => (Evn.done _).eq_ ?_) (fun c3 => hih.eq_ ?_)
      · have e1 : decide ((xs.getD j z37).f0 < (xs.getD (j + 1) z37).f0) = false := decide_eq_false (by omega)
        simp only [e1, show decide (j + 1 = 0) = false from by simp, Bool.or_false, Bool.false_and]
      · have e1 : decide ((xs.getD j z37).f0 < (xs.getD (j + 1) z37).f0) = true := decide_eq_true (by omega)
        simp only [e1, Bool.or_true, Bool.true_and]
theorem im_AreReadings (xs : List S37) (hx : xs.length ≤ 1048576) : Evn (fun k => impl_AreReadings.f k xs) (goodRs xs) := im_AreReadings_l0 xs hx xs.length 0 (by omega)

theorem im_HighestReading_l0 (xs : List S37) (hx : xs.length ≤ 1048576) : ∀ (d i : Nat) (b : S37), i + d = xs.length → Evn (fun k => impl_HighestReading.l0 k xs (xs.length : Int) (i : Int) b.f0 b.f1) (((xs.drop i).foldl pickR b).f0, ((xs.drop i).foldl pickR b).f1, true) := by
  intro d
  induction d with
  | zero =>
    intro i b h
    refine Evn.step ?_
    have h1 : ¬ (i : Int) < (xs.length : Int) := by omega
    simp only [impl_HighestReading.l0, if_neg h1]
    refine (Evn.done _).eq_ ?_
    rw [List.drop_eq_nil_of_le (by omega)]
    rfl
  | succ d ih =>
    intro i b h
    refine Evn.step ?_
    have h1 : (i : Int) < (xs.length : Int) := by omega
    have h2 : 0 ≤ (i : Int) := by omega
    simp only [impl_HighestReading.l0, if_pos h1, if_pos h2, wrap_succ (show i < 4611686018427387904 by omega), rd_T37, Int.toNat_natCast]
    rw [getD_drop xs i z37 (by omega)]
    simp only [List.foldl_cons]
    refine Evn.ite (fun c => ?_) (fun c => ?_)
    · have e : pickR b (xs.getD i z37) = xs.getD i z37 := if_pos c
      rw [e]
      exact ih (i + 1) _ (by omega)
    · have e : pickR b (xs.getD i z37) = b := if_neg c
      rw [e]
      exact ih (i + 1) _ (by omega)
theorem im_HighestReading (xs : List S37) (hx : xs.length ≤ 1048576) : Evn (fun k => impl_HighestReading.f k xs) (highR xs) := by
  unfold impl_HighestReading.f
  refine Evn.bind (im_AreReadings xs hx) ?_
  unfold highR
  refine Evn.ite (fun c => Evn.step ?_) (fun c => Evn.step ?_)
  · simp only [impl_HighestReading.j0]
    refine Evn.ite (fun c1 => ?_) (fun c1 => ?_)
    · rw [if_neg (by intro h; simp only [beq_iff_eq] at c1; omega)]
      exact Evn.done _
    · have h0 : 0 < (xs.length : Int) := by simp only [beq_iff_eq] at c1; omega
      rw [if_pos ⟨c, by omega⟩]
      simp only [if_pos h0]
      refine (im_HighestReading_l0 xs hx xs.length 0 _ (by omega)).eq_ ?_
      have hb : xs.drop 0 = xs.getD 0 z37 :: xs.drop 1 := getD_drop xs 0 _ (by omega)
      rw [hb]
      have e : pickR (xs.getD 0 z37) (xs.getD 0 z37) = xs.getD 0 z37 := if_neg (by omega)
      simp only [List.foldl_cons, rd_T37, Int.toNat_zero, bestR]
      rw [e]
  · simp only [impl_HighestReading.j0, if_true]
    rw [if_neg (fun h => c h.1)]
    exact Evn.done _

theorem FnExactHighestReading : ∀ (l0 : List (S59)), l0.length ≤ maxLen → (∀ x ∈ l0, (Lit.int .i64 x.f0).wf = true ∧ (Lit.int .i64 x.f1).wf = true) → ∃ k, laws_FnExactHighestReading.f k l0 = some true := by
  intro l hl _
  apply Evn.get
  simp only [laws_FnExactHighestReading.f, ev_szReadingS, Option.bind_some]
  refine Evn.ite (fun _ => Evn.done _) (fun h => ?_)
  have hx : l.length ≤ 1048576 := by unfold maxLen at hl; unfold wrap64 at h; split at h <;> omega
  have hx' : (l.map convReading).length ≤ 1048576 := by simpa using hx
  refine Evn.bind (ev_toReadingS l hx) ?_
  refine Evn.bind (sp_HighestReading _ hx') ?_
  refine Evn.bind (ev_toReadingS l hx) ?_
  refine Evn.bind (im_HighestReading _ hx') ?_
  simp only [laws_eqReading.f, if_true, Option.bind_some, bne_self_eq_false]
  refine Evn.step ?_
  simp only [laws_FnExactHighestReading.j0, Bool.false_eq_true, if_false]
  refine Evn.bind (ev_toReadingS l hx) ?_
  refine Evn.bind (ev_eqReadingS _ hx') ?_
  simp only [if_true]
  exact Evn.done _

end Go.Proofs.Ytmfidodcpbochaa.Pure
