/- The plain statement of FnExactLevelIn: its plain function returns true at every input. No condition beyond the arguments' own bounds. -/
import Derived.Test.YtmfidodcpbochaaQFnExactLevelInx5
import Derived.Test.YtmfidodcpbochaaAid
namespace Go.Proofs.Ytmfidodcpbochaa.Pure
open Go.RowKit Go.Proofs.YtmfidodcpbochaaW.PrintWords Go.Proofs.YtmfidodcpbochaaW.PrintLast Go.Proofs.Ytmfidodcpbochaa.Aid Go.Proofs.Ytmfidodcpbochaa.QFnExactLevelIn
set_option linter.unusedVariables false
set_option linter.unusedSimpArgs false

theorem ev_szReadingS (l : List S59) (q : Int) : laws_szReadingS.f l q = some (if wrap64 (q - (l.length : Int)) < 0 then -1 else wrap64 (q - (l.length : Int))) := by
  unfold laws_szReadingS.f
  split <;> rfl

-- laws_toReading: as it stands

def convReading (x : S59) : S37 := ⟨x.f0, x.f1⟩
theorem ev_toReadingS_l0 (xs : List S59) (hx : xs.length ≤ 1048576) : ∀ (d i : Nat) (ys : List S37), i + d = xs.length → ys.length = xs.length → Evn (fun k => laws_toReadingS.l0 k xs ys (i : Int)) (ys.take i ++ (xs.drop i).map convReading) := by
  intro d
  induction d with
  | zero =>
    intro i ys h hy
    refine Evn.step ?_
    have h1 : ¬ (i : Int) < (xs.length : Int) := by omega
    simp only [laws_toReadingS.l0, if_neg h1]
    have e : ys.take i ++ (xs.drop i).map convReading = ys := by rw [List.take_of_length_le (by omega), List.drop_eq_nil_of_le (by omega)]; simp
    rw [e]
    exact Evn.done _
  | succ d ih =>
    intro i ys h hy
    refine Evn.step ?_
    have h1 : (i : Int) < (xs.length : Int) := by omega
    have h2 : 0 ≤ (i : Int) := by omega
    have h3 : (i : Int) < (ys.length : Int) := by omega
    simp only [laws_toReadingS.l0, laws_toReading.f, if_pos h1, if_pos h2, if_pos h3, Option.bind_some, Int.toNat_natCast, wrap_succ (show i < 4611686018427387904 by omega)]
    refine (ih (i + 1) _ (by omega) (by simpa using hy)).eq_ ?_
    rw [set_take _ _ _ (by omega), getD_drop xs i z59 (by omega)]
    simp [convReading, rd_T59]
theorem ev_toReadingS (xs : List S59) (hx : xs.length ≤ 1048576) : Evn (fun k => laws_toReadingS.f k xs) (xs.map convReading) := by
  unfold laws_toReadingS.f
  refine Evn.ite (fun _ => Evn.ite (fun _ => ?_) (fun h => (h (by omega)).elim)) (fun h => (h (by omega)).elim)
  have h := ev_toReadingS_l0 xs hx xs.length 0 (List.replicate (xs.length : Int).toNat z37) (by omega) (by simp)
  simpa using h

-- laws_eqReading: as it stands

theorem ev_eqReadingS_l0 (xs : List S37) (hx : xs.length ≤ 1048576) : ∀ (d i : Nat), i + d = xs.length → Evn (fun k => laws_eqReadingS.l0 k xs xs (i : Int)) true := by
  intro d
  induction d with
  | zero =>
    intro i h
    refine Evn.step ?_
    have h1 : ¬ (i : Int) < (xs.length : Int) := by omega
    simp only [laws_eqReadingS.l0, if_neg h1]
    exact Evn.done _
  | succ d ih =>
    intro i h
    refine Evn.step ?_
    have h1 : (i : Int) < (xs.length : Int) := by omega
    have h2 : 0 ≤ (i : Int) := by omega
    simp only [laws_eqReadingS.l0, laws_eqReading.f, if_pos h1, if_pos h2, Option.bind_some, if_true, wrap_succ (show i < 4611686018427387904 by omega)]
    exact ih (i + 1) (by omega)
theorem ev_eqReadingS (xs : List S37) (hx : xs.length ≤ 1048576) : Evn (fun k => laws_eqReadingS.f k xs xs) true := by
  simp only [laws_eqReadingS.f, if_true]
  exact ev_eqReadingS_l0 xs hx xs.length 0 (by omega)

theorem sp_l1In (x y z : Int) : spec_l1In.f x y z = some (decide (y ≤ x ∧ x ≤ z)) := by
  unfold spec_l1In.f
  by_cases h : x ≥ y <;> simp [h] <;> omega

theorem sp_l23Level (x : Int) : spec_l23Level.f x = some (decide (-500 ≤ x ∧ x ≤ 500)) := by
  simp only [spec_l23Level.f, sp_l1In, Option.bind_some]

def okR (x : S37) : Bool := decide (0 ≤ x.f0 ∧ x.f0 ≤ 999) && decide (-500 ≤ x.f1 ∧ x.f1 ≤ 500)
/-! The rules of a list of R, as both texts have them. -/
def goodR (xs : List S37) : Nat → Nat → Bool
  | 0, _ => decide (xs.length ≤ 15)
  | d + 1, i => (okR (xs.getD i z37) && (decide (i = 0) || decide ((xs.getD (i - 1) z37).f0 < (xs.getD i z37).f0))) && goodR xs d (i + 1)
def goodRs (xs : List S37) : Bool := goodR xs xs.length 0
theorem goodR_facts (xs : List S37) : ∀ (d i : Nat), i + d = xs.length → goodR xs d i = true → (∀ j, i ≤ j → j < xs.length → okR (xs.getD j z37) = true ∧ (j = 0 ∨ (xs.getD (j - 1) z37).f0 < (xs.getD j z37).f0)) ∧ xs.length ≤ 15 := by
  intro d
  induction d with
  | zero =>
    intro i h hg
    exact ⟨fun j h1 h2 => by omega, by simpa [goodR] using hg⟩
  | succ d ih =>
    intro i h hg
    simp only [goodR, Bool.and_eq_true, Bool.or_eq_true, decide_eq_true_eq] at hg
    obtain ⟨⟨g1, g2⟩, g3⟩ := hg
    obtain ⟨h1, h2⟩ := ih (i + 1) (by omega) g3
    refine ⟨fun j hj hl => ?_, h2⟩
    rcases Nat.lt_or_ge i j with hc | hc
    · exact h1 j hc hl
    · obtain rfl : j = i := by omega
      exact ⟨g1, g2⟩
theorem goodRs_len {xs : List S37} (h : goodRs xs = true) : xs.length ≤ 15 := (goodR_facts xs xs.length 0 (by omega) h).2
theorem goodRs_ok {xs : List S37} (h : goodRs xs = true) (j : Nat) (hj : j < xs.length) : okR (xs.getD j z37) = true := ((goodR_facts xs xs.length 0 (by omega) h).1 j (by omega) hj).1
theorem goodRs_step {xs : List S37} (h : goodRs xs = true) (j : Nat) (hj : j + 1 < xs.length) : (xs.getD j z37).f0 < (xs.getD (j + 1) z37).f0 := by
  have h1 := ((goodR_facts xs xs.length 0 (by omega) h).1 (j + 1) (by omega) hj).2
  rcases h1 with h1 | h1
  · omega
  · exact h1

theorem sp_l23Good_l0 (xs : List S37) (hx : xs.length ≤ 1048576) : ∀ (d i : Nat), i + d = xs.length → Evn (fun k => spec_l23Good.l0 k xs (i : Int)) (goodR xs d i) := by
  intro d
  induction d with
  | zero =>
    intro i h
    refine Evn.step ?_
    have h1 : ¬ (i : Int) < (xs.length : Int) := by omega
    simp only [spec_l23Good.l0, if_neg h1, goodR]
    refine (Evn.done _).eq_ ?_
    simp only [decide_eq_decide]
    omega
  | succ d ih =>
    intro i h
    refine Evn.step ?_
    have h1 : (i : Int) < (xs.length : Int) := by omega
    have h2 : 0 ≤ (i : Int) := by omega
    have hih := ih (i + 1) (by omega)
    simp only [spec_l23Good.l0, if_pos h1, if_pos h2, sp_l1In, sp_l23Level, Option.bind_some, wrap_succ (show i < 4611686018427387904 by omega), rd_T37, Int.toNat_natCast, goodR, okR]
    refine Evn.ite (fun c1 => ?_) (fun c1 => (Evn.done _).eq_ (by simp only [Bool.eq_false_iff.mpr c1, Bool.false_and]))
    refine Evn.ite (fun c2 => ?_) (fun c2 => (Evn.done _).eq_ (by simp only [Bool.eq_false_iff.mpr c2, Bool.and_false, Bool.false_and]))
    simp only [c1, c2, Bool.true_and]
    rcases Nat.eq_zero_or_pos i with h0 | h0
    · subst h0
      have h3 : ¬ ((0 : Nat) : Int) > 0 := by omega
      simp only [if_neg h3, decide_true, Bool.true_or, Bool.true_and]
      exact hih
    · obtain ⟨j, rfl⟩ : ∃ j, i = j + 1 := ⟨i - 1, by omega⟩
      have h3 : ((j + 1 : Nat) : Int) > 0 := by omega
      have h4 : 0 ≤ (j : Int) := by omega
      have h5 : (j : Int) < (xs.length : Int) := by omega
      simp only [if_pos h3, wrap_pred (show j < 4611686018427387904 by omega), if_pos h4, if_pos h5, Int.toNat_natCast, Nat.add_sub_cancel]
      refine Evn.ite (fun c3 => (Evn.done _).eq_ ?_) (fun c3 => hih.eq_ ?_)
      · have e1 : decide ((xs.getD j z37).f0 < (xs.getD (j + 1) z37).f0) = false := decide_eq_false (by omega)
        simp only [e1, show decide (j + 1 = 0) = false from by simp, Bool.or_false, Bool.false_and]
      · have e1 : decide ((xs.getD j z37).f0 < (xs.getD (j + 1) z37).f0) = true := decide_eq_true (by omega)
        simp only [e1, Bool.or_true, Bool.true_and]
theorem sp_l23Good (xs : List S37) (hx : xs.length ≤ 1048576) : Evn (fun k => spec_l23Good.f k xs) (goodRs xs) := sp_l23Good_l0 xs hx xs.length 0 (by omega)

theorem sp_l23Common (b : Nat) : ∀ a : Nat, Evn (fun k => spec_l23Common.f k (a : Int) (b : Int)) ((Nat.gcd a b : Nat) : Int) := by
  induction b using Nat.strongRecOn with
  | ind b ih =>
    intro a
    unfold spec_l23Common.f
    refine Evn.step ?_
    rcases Nat.eq_zero_or_pos b with h0 | h0
    · subst h0
      have h1 : ¬ ((0 : Nat) : Int) > 0 := by omega
      simp only [spec_l23Common.l0, if_neg h1, Nat.gcd_zero_right]
      exact Evn.done _
    · have h1 : (b : Int) > 0 := by omega
      have h2 : ¬ (b : Int) = 0 := by omega
      simp only [spec_l23Common.l0, if_pos h1, if_neg h2]
      have e : Int.tmod (a : Int) (b : Int) = ((a % b : Nat) : Int) := by
        rw [Int.tmod_eq_emod_of_nonneg (by omega)]
        omega
      rw [e]
      refine (ih (a % b) (Nat.mod_lt _ h0) b).eq_ ?_
      rw [Nat.gcd_comm b, ← Nat.gcd_rec, Nat.gcd_comm]

theorem sp_l1Most (a b : Int) : spec_l1Most.f a b = some (max a b) := by
  unfold spec_l1Most.f
  split <;> congr 1 <;> omega

/-! A fraction in lowest terms. -/
def lowN (a b : Int) : Int := Int.tdiv a ((Nat.gcd a.natAbs b.natAbs : Nat) : Int)
def lowD (a b : Int) : Int := Int.tdiv b ((Nat.gcd a.natAbs b.natAbs : Nat) : Int)
theorem low_mul (a b : Int) (hb : 0 < b) : ∃ g : Int, 0 < g ∧ ((Nat.gcd a.natAbs b.natAbs : Nat) : Int) = g ∧ a = g * lowN a b ∧ b = g * lowD a b ∧ 0 < lowD a b := by
  have hg : 0 < Nat.gcd a.natAbs b.natAbs := Nat.gcd_pos_of_pos_right _ (by omega)
  refine ⟨((Nat.gcd a.natAbs b.natAbs : Nat) : Int), by omega, rfl, ?_⟩
  have h1 : ((Nat.gcd a.natAbs b.natAbs : Nat) : Int) ∣ a := Int.ofNat_dvd_left.2 (Nat.gcd_dvd_left _ _)
  have h2 : ((Nat.gcd a.natAbs b.natAbs : Nat) : Int) ∣ b := Int.ofNat_dvd_left.2 (Nat.gcd_dvd_right _ _)
  have e1 : a = ((Nat.gcd a.natAbs b.natAbs : Nat) : Int) * lowN a b := (Int.mul_tdiv_cancel' h1).symm
  have e2 : b = ((Nat.gcd a.natAbs b.natAbs : Nat) : Int) * lowD a b := (Int.mul_tdiv_cancel' h2).symm
  refine ⟨e1, e2, ?_⟩
  rcases Int.lt_or_le 0 (lowD a b) with h | h
  · exact h
  · have h3 : ((Nat.gcd a.natAbs b.natAbs : Nat) : Int) * lowD a b ≤ 0 := Int.mul_nonpos_of_nonneg_of_nonpos (by omega) h
    omega
theorem low_abs (a b : Int) (hb : 0 < b) : (lowN a b).natAbs ≤ a.natAbs ∧ lowD a b ≤ b := by
  obtain ⟨g, h0, _, h1, h2, h3⟩ := low_mul a b hb
  have hg : g.natAbs ≥ 1 := by omega
  constructor
  · have e : a.natAbs = g.natAbs * (lowN a b).natAbs := by rw [← Int.natAbs_mul, ← h1]
    rw [e]
    exact Nat.le_mul_of_pos_left _ (by omega)
  · have e : b = lowD a b * g := by rw [Int.mul_comm]; exact h2
    have : lowD a b * 1 ≤ lowD a b * g := Int.mul_le_mul_of_nonneg_left (by omega) (by omega)
    omega

theorem sp_l23Reduce (a b : Int) (hb : 0 < b) (ha : a.natAbs ≤ 1000000000) (hb2 : b ≤ 1000000000) : Evn (fun k => spec_l23Reduce.f k a b) (lowN a b, lowD a b) := by
  unfold spec_l23Reduce.f
  have e1 : wrap64 (-a) = -a := wrap_id (by omega) (by omega)
  simp only [e1, sp_l1Most, Option.bind_some]
  have e2 : max a (-a) = ((a.natAbs : Nat) : Int) := by omega
  have e3 : b = ((b.natAbs : Nat) : Int) := by omega
  rw [e2]
  have h := sp_l23Common b.natAbs a.natAbs
  rw [← e3] at h
  refine Evn.bind h ?_
  obtain ⟨g, h0, hg, h1, h2, h3⟩ := low_mul a b hb
  obtain ⟨h4, h5⟩ := low_abs a b hb
  have hne : ¬ ((Nat.gcd a.natAbs b.natAbs : Nat) : Int) = 0 := by omega
  simp only [if_neg hne]
  refine (Evn.done _).eq_ ?_
  show (wrap64 (lowN a b), wrap64 (lowD a b)) = _
  rw [wrap_id (by omega) (by omega), wrap_id (by omega) (by omega)]

theorem rise_same (p q a b : Int) (hb : 0 < b) : (p * lowD a b < lowN a b * q) ↔ (a * q > p * b) := by
  obtain ⟨g, h0, _, h1, h2, h3⟩ := low_mul a b hb
  have e1 : a * q = g * (lowN a b * q) := by rw [← Int.mul_assoc, ← h1]
  have e2 : p * b = g * (p * lowD a b) := by rw [← Int.mul_assoc, Int.mul_comm g p, Int.mul_assoc, ← h2]
  rw [e1, e2]
  constructor
  · intro h
    exact Int.mul_lt_mul_of_pos_left h h0
  · intro h
    exact Int.lt_of_mul_lt_mul_left h (by omega)
theorem mul_small {x y : Int} (h1 : -1000 ≤ x) (h2 : x ≤ 1000) (h3 : -1000 ≤ y) (h4 : y ≤ 1000) : -1000000 ≤ x * y ∧ x * y ≤ 1000000 := by
  have h : (x * y).natAbs ≤ 1000000 := by
    rw [Int.natAbs_mul]
    exact Nat.le_trans (Nat.mul_le_mul (show x.natAbs ≤ 1000 by omega) (show y.natAbs ≤ 1000 by omega)) (by decide)
  omega
theorem low_in {a b : Int} (hb : 0 < b) (hb2 : b ≤ 1000) (h1 : -1000 ≤ a) (h2 : a ≤ 1000) : -1000 ≤ lowN a b ∧ lowN a b ≤ 1000 ∧ 0 < lowD a b ∧ lowD a b ≤ 1000 := by
  obtain ⟨l1, l2⟩ := low_abs a b hb
  obtain ⟨_, _, _, _, _, l3⟩ := low_mul a b hb
  omega
theorem goodR_one {xs : List S37} (h : goodRs xs = true) (j : Nat) (hj : j < xs.length) : 0 ≤ (xs.getD j z37).f0 ∧ (xs.getD j z37).f0 ≤ 999 ∧ -500 ≤ (xs.getD j z37).f1 ∧ (xs.getD j z37).f1 ≤ 500 := by
  have h1 := goodRs_ok h j hj
  simp only [okR, Bool.and_eq_true, decide_eq_true_eq] at h1
  omega
theorem wrap_mil {x : Int} (h0 : -1000000 ≤ x) (h1 : x ≤ 1000000) : wrap64 x = x := by unfold wrap64; omega

def mixN (a b : S37) (h : Int) : Int := a.f1 * (b.f0 - h) + b.f1 * (h - a.f0)
def levAt (xs : List S37) (h : Int) (i : Nat) : Int × Int :=
  if (xs.getD i z37).f0 = h then ((xs.getD i z37).f1, 1) else
    (lowN (mixN (xs.getD i z37) (xs.getD (i + 1) z37) h) ((xs.getD (i + 1) z37).f0 - (xs.getD i z37).f0), lowD (mixN (xs.getD i z37) (xs.getD (i + 1) z37) h) ((xs.getD (i + 1) z37).f0 - (xs.getD i z37).f0))
theorem goodR_mono {xs : List S37} (hg : goodRs xs = true) : ∀ (d i : Nat), i + d < xs.length → (xs.getD i z37).f0 + d ≤ (xs.getD (i + d) z37).f0 := by
  intro d
  induction d with
  | zero => intro i h; simp
  | succ d ih =>
    intro i h
    have h1 := ih i (by omega)
    have h2 := goodRs_step hg (i + d) (by omega)
    rw [show i + (d + 1) = i + d + 1 by omega]
    omega
theorem mix_in {a b : S37} {h : Int} (a1 : 0 ≤ a.f0) (a2 : a.f0 ≤ 999) (a3 : -500 ≤ a.f1) (a4 : a.f1 ≤ 500) (b1 : 0 ≤ b.f0) (b2 : b.f0 ≤ 999) (b3 : -500 ≤ b.f1) (b4 : b.f1 ≤ 500) (h1 : a.f0 ≤ h) (h2 : h ≤ b.f0) :
    wrap64 (wrap64 (a.f1 * wrap64 (b.f0 - h)) + wrap64 (b.f1 * wrap64 (h - a.f0))) = mixN a b h ∧ (mixN a b h).natAbs ≤ 1000000000 ∧ wrap64 (b.f0 - a.f0) = b.f0 - a.f0 := by
  obtain ⟨m1, n1⟩ := mul_small (x := a.f1) (y := b.f0 - h) (by omega) (by omega) (by omega) (by omega)
  obtain ⟨m2, n2⟩ := mul_small (x := b.f1) (y := h - a.f0) (by omega) (by omega) (by omega) (by omega)
  refine ⟨?_, by unfold mixN; omega, wrap_id (by omega) (by omega)⟩
  rw [wrap_id (x := b.f0 - h) (by omega) (by omega), wrap_id (x := h - a.f0) (by omega) (by omega), wrap_id (x := a.f1 * (b.f0 - h)) (by omega) (by omega), wrap_id (x := b.f1 * (h - a.f0)) (by omega) (by omega)]
  exact wrap_id (by omega) (by omega)
theorem last_at {xs : List S37} (h : Int) : ∀ (d i : Nat), i + 1 + d = xs.length → (xs.getD i z37).f0 ≤ h → ∃ j, i ≤ j ∧ j < xs.length ∧ (xs.getD j z37).f0 ≤ h ∧ (j + 1 < xs.length → h < (xs.getD (j + 1) z37).f0) := by
  intro d
  induction d with
  | zero => intro i hi hle; exact ⟨i, by omega, by omega, hle, fun hc => by omega⟩
  | succ d ih =>
    intro i hi hle
    by_cases hc : (xs.getD (i + 1) z37).f0 ≤ h
    · obtain ⟨j, h1, h2⟩ := ih (i + 1) (by omega) hc
      exact ⟨j, by omega, h2⟩
    · exact ⟨i, by omega, by omega, hle, fun _ => by omega⟩
theorem sp_l23In_l0 {xs : List S37} (hx : xs.length ≤ 1048576) (hg : goodRs xs = true) (h : Int) (j : Nat) (hj : j < xs.length) (hle : (xs.getD j z37).f0 ≤ h) (hnx : j + 1 < xs.length → h < (xs.getD (j + 1) z37).f0)
    (hlast : (xs.getD j z37).f0 ≠ h → j + 1 < xs.length) : ∀ (d i : Nat), i + d = j → Evn (fun k => spec_l23In.l0 k xs h (i : Int)) (levAt xs h j) := by
  intro d
  induction d with
  | zero =>
    intro i hi
    obtain rfl : i = j := by omega
    have c1 : 0 ≤ (i : Int) := by omega
    have c2 : (i : Int) < (xs.length : Int) := by omega
    by_cases he : (xs.getD i z37).f0 = h
    · have c3 : ¬ (xs.getD i z37).f0 < h := by omega
      refine Evn.step ?_
      simp only [spec_l23In.l0, if_pos c1, if_pos c2, rd_T37, Int.toNat_natCast, levAt]
      refine Evn.ite (fun c => absurd c c3) (fun _ => ?_)
      rw [if_pos he]
      refine Evn.ite (fun _ => Evn.done _) (fun c => absurd he c)
    · have c3 : (xs.getD i z37).f0 < h := by omega
      have hl := hlast he
      have hn := hnx hl
      have c4 : 0 ≤ ((i + 1 : Nat) : Int) := by omega
      have c5 : ((i + 1 : Nat) : Int) < (xs.length : Int) := by omega
      have c6 : ¬ (xs.getD (i + 1) z37).f0 < h := by omega
      have c7 : ¬ (xs.getD (i + 1) z37).f0 = h := by omega
      obtain ⟨a1, a2, a3, a4⟩ := goodR_one hg i hj
      obtain ⟨b1, b2, b3, b4⟩ := goodR_one hg (i + 1) hl
      obtain ⟨e1, e2, e3⟩ := mix_in a1 a2 a3 a4 b1 b2 b3 b4 hle (Int.le_of_lt hn)
      have hr := sp_l23Reduce (mixN (xs.getD i z37) (xs.getD (i + 1) z37) h) ((xs.getD (i + 1) z37).f0 - (xs.getD i z37).f0) (by clear e1 e3; omega) e2 (by clear e1 e3; omega)
      refine Evn.step ?_
      simp only [spec_l23In.l0, if_pos c1, if_pos c2, rd_T37, Int.toNat_natCast, if_pos c3, wrap_succ (show i < 4611686018427387904 by clear e1 e3; omega)]
      refine Evn.step ?_
      simp only [spec_l23In.l0, if_pos c4, if_pos c5, rd_T37, Int.toNat_natCast, if_neg c6, if_neg c7, wrap_pred (show i < 4611686018427387904 by clear e1 e3; omega), if_pos c1, if_pos c2, e1, e3]
      refine Evn.bind hr ?_
      simp only [levAt, if_neg he]
      exact Evn.done _
  | succ d ih =>
    intro i hi
    have c1 : 0 ≤ (i : Int) := by omega
    have c2 : (i : Int) < (xs.length : Int) := by omega
    have hm := goodR_mono hg (d + 1) i (by omega)
    rw [hi] at hm
    have c3 : (xs.getD i z37).f0 < h := by omega
    refine Evn.step ?_
    simp only [spec_l23In.l0, if_pos c1, if_pos c2, rd_T37, Int.toNat_natCast, if_pos c3, wrap_succ (show i < 4611686018427387904 by omega)]
    exact ih (i + 1) (by omega)

theorem im_within (x y z : Int) : impl_within.f x y z = some (decide (y ≤ x ∧ x ≤ z)) := by
  unfold impl_within.f
  by_cases h : x ≥ y <;> simp [h] <;> omega

theorem im_isLevel (x : Int) : impl_isLevel.f x = some (decide (-500 ≤ x ∧ x ≤ 500)) := by
  simp only [impl_isLevel.f, im_within, Option.bind_some]

theorem im_AreReadings_l0 (xs : List S37) (hx : xs.length ≤ 1048576) : ∀ (d i : Nat), i + d = xs.length → Evn (fun k => impl_AreReadings.l0 k xs xs (xs.length : Int) (i : Int)) (goodR xs d i) := by
  intro d
  induction d with
  | zero =>
    intro i h
    refine Evn.step ?_
    have h1 : ¬ (i : Int) < (xs.length : Int) := by omega
    simp only [impl_AreReadings.l0, if_neg h1, goodR]
    refine (Evn.done _).eq_ ?_
    simp only [decide_eq_decide]
    omega
  | succ d ih =>
    intro i h
    refine Evn.step ?_
    have h1 : (i : Int) < (xs.length : Int) := by omega
    have h2 : 0 ≤ (i : Int) := by omega
    have hih := ih (i + 1) (by omega)
    simp only [impl_AreReadings.l0, if_pos h1, if_pos h2, im_within, im_isLevel, Option.bind_some, wrap_succ (show i < 4611686018427387904 by omega), rd_T37, Int.toNat_natCast, goodR, okR]
    refine Evn.ite (fun c1 => ?_) (fun c1 => (Evn.done _).eq_ (by simp only [Bool.eq_false_iff.mpr c1, Bool.false_and]))
    refine Evn.ite (fun c2 => ?_) (fun c2 => (Evn.done _).eq_ (by simp only [Bool.eq_false_iff.mpr c2, Bool.and_false, Bool.false_and]))
    simp only [c1, c2, Bool.true_and]
    rcases Nat.eq_zero_or_pos i with h0 | h0
    · subst h0
      have h3 : ¬ ((0 : Nat) : Int) > 0 := by omega
      simp only [if_neg h3, decide_true, Bool.true_or, Bool.true_and]
      exact hih
    · obtain ⟨j, rfl⟩ : ∃ j, i = j + 1 := ⟨i - 1, by omega⟩
      have h3 : ((j + 1 : Nat) : Int) > 0 := by omega
      have h4 : 0 ≤ (j : Int) := by omega
      have h5 : (j : Int) < (xs.length : Int) := by omega
      simp only [if_pos h3, wrap_pred (show j < 4611686018427387904 by omega), if_pos h4, if_pos h5, Int.toNat_natCast, Nat.add_sub_cancel]
      refine Evn.ite (fun c3 => (Evn.done _).eq_ ?_) (fun c3 => hih.eq_ ?_)
      · have e1 : decide ((xs.getD j z37).f0 < (xs.getD (j + 1) z37).f0) = false := decide_eq_false (by omega)
        simp only [e1, show decide (j + 1 = 0) = false from by simp, Bool.or_false, Bool.false_and]
      · have e1 : decide ((xs.getD j z37).f0 < (xs.getD (j + 1) z37).f0) = true := decide_eq_true (by omega)
        simp only [e1, Bool.or_true, Bool.true_and]
theorem im_AreReadings (xs : List S37) (hx : xs.length ≤ 1048576) : Evn (fun k => impl_AreReadings.f k xs) (goodRs xs) := im_AreReadings_l0 xs hx xs.length 0 (by omega)

theorem im_absolute (a : Int) (h : -9223372036854775807 ≤ a) (h' : a ≤ 9223372036854775807) : impl_absolute.f a = some ((a.natAbs : Nat) : Int) := by
  unfold impl_absolute.f
  rw [wrap_id (by omega) (by omega)]
  unfold mx
  congr 1
  omega

theorem im_gcd (n : Nat) : ∀ a b : Int, b.natAbs = n → a.natAbs ≤ 4611686018427387904 → b.natAbs ≤ 4611686018427387904 → Evn (fun k => impl_gcd.f k a b) ((Nat.gcd a.natAbs b.natAbs : Nat) : Int) := by
  induction n using Nat.strongRecOn with
  | ind n ih =>
    intro a b hn ha hb
    unfold impl_gcd.f
    refine Evn.step ?_
    by_cases h0 : b = 0
    · subst h0
      simp only [impl_gcd.l0, if_true, im_absolute a (by omega) (by omega), Option.bind_some, Int.natAbs_zero, Nat.gcd_zero_right]
      exact Evn.done _
    · simp only [impl_gcd.l0, if_neg h0]
      have e : (Int.tmod a b).natAbs = a.natAbs % b.natAbs := Int.natAbs_tmod _ _
      have hlt : a.natAbs % b.natAbs < b.natAbs := Nat.mod_lt _ (by omega)
      refine (ih (Int.tmod a b).natAbs (by omega) b (Int.tmod a b) rfl hb (by omega)).eq_ ?_
      rw [e, Nat.gcd_comm b.natAbs, ← Nat.gcd_rec, Nat.gcd_comm]

theorem im_reduced (a b : Int) (hb : 0 < b) (ha : a.natAbs ≤ 1000000000) (hb2 : b ≤ 1000000000) : Evn (fun k => impl_reduced.f k a b) (lowN a b, lowD a b) := by
  unfold impl_reduced.f
  refine Evn.bind (im_gcd b.natAbs a b rfl (by omega) (by omega)) ?_
  obtain ⟨g, h0, hg, h1, h2, h3⟩ := low_mul a b hb
  obtain ⟨h4, h5⟩ := low_abs a b hb
  have hne : ¬ ((Nat.gcd a.natAbs b.natAbs : Nat) : Int) = 0 := by omega
  simp only [if_neg hne]
  refine (Evn.done _).eq_ ?_
  show (wrap64 (lowN a b), wrap64 (lowD a b)) = _
  rw [wrap_id (by omega) (by omega), wrap_id (by omega) (by omega)]

theorem im_levelIn_l0 {xs : List S37} (hx : xs.length ≤ 1048576) (hg : goodRs xs = true) (h : Int) (j : Nat) (hj : j < xs.length) (hle : (xs.getD j z37).f0 ≤ h) (hnx : j + 1 < xs.length → h < (xs.getD (j + 1) z37).f0)
    (hlast : (xs.getD j z37).f0 ≠ h → j + 1 < xs.length) : ∀ (d i : Nat), i + d = j → Evn (fun k => impl_levelIn.l0 k xs h (i : Int)) (levAt xs h j) := by
  intro d
  induction d with
  | zero =>
    intro i hi
    obtain rfl : i = j := by omega
    have c1 : 0 ≤ (i : Int) := by omega
    have c2 : (i : Int) < (xs.length : Int) := by omega
    have hsm : i < 4611686018427387904 := by omega
    by_cases hl : i + 1 < xs.length
    · have hn := hnx hl
      have c4 : 0 ≤ ((i + 1 : Nat) : Int) := by omega
      have c5 : ((i + 1 : Nat) : Int) < (xs.length : Int) := by omega
      have c6 : ¬ (xs.getD (i + 1) z37).f0 ≤ h := by omega
      refine Evn.step ?_
      by_cases he : (xs.getD i z37).f0 = h
      · simp only [impl_levelIn.l0, wrap_succ hsm, if_pos c5, if_pos c4, rd_T37, Int.toNat_natCast, if_neg c6, if_pos c1, if_pos c2, if_pos he, levAt]
        exact Evn.done _
      · obtain ⟨a1, a2, a3, a4⟩ := goodR_one hg i hj
        obtain ⟨b1, b2, b3, b4⟩ := goodR_one hg (i + 1) hl
        obtain ⟨e1, e2, e3⟩ := mix_in a1 a2 a3 a4 b1 b2 b3 b4 hle (Int.le_of_lt hn)
        have hr := im_reduced (mixN (xs.getD i z37) (xs.getD (i + 1) z37) h) ((xs.getD (i + 1) z37).f0 - (xs.getD i z37).f0) (by clear e1 e3; omega) e2 (by clear e1 e3; omega)
        simp only [impl_levelIn.l0, wrap_succ hsm, if_pos c5, if_pos c4, rd_T37, Int.toNat_natCast, if_neg c6, if_pos c1, if_pos c2, if_neg he, e1, e3]
        refine Evn.bind hr ?_
        simp only [levAt, if_neg he]
        exact Evn.done _
    · have he : (xs.getD i z37).f0 = h := Decidable.byContradiction fun hc => hl (hlast hc)
      have c5 : ¬ ((i + 1 : Nat) : Int) < (xs.length : Int) := by omega
      refine Evn.step ?_
      simp only [impl_levelIn.l0, wrap_succ hsm, if_neg c5, rd_T37, Int.toNat_natCast, if_pos c1, if_pos c2, if_pos he, levAt]
      exact Evn.done _
  | succ d ih =>
    intro i hi
    have c5 : ((i + 1 : Nat) : Int) < (xs.length : Int) := by omega
    have c4 : 0 ≤ ((i + 1 : Nat) : Int) := by omega
    have hm := goodR_mono hg d (i + 1) (by omega)
    rw [show i + 1 + d = j by omega] at hm
    have c3 : (xs.getD (i + 1) z37).f0 ≤ h := by omega
    refine Evn.step ?_
    simp only [impl_levelIn.l0, wrap_succ (show i < 4611686018427387904 by omega), if_pos c5, if_pos c4, rd_T37, Int.toNat_natCast, if_pos c3]
    exact ih (i + 1) (by omega)

def hasR (xs : List S37) (h : Int) : Bool := goodRs xs && (decide (0 < xs.length) && decide ((xs.getD 0 z37).f0 ≤ h ∧ h ≤ (xs.getD (xs.length - 1) z37).f0))
theorem sp_Within (xs : List S37) (hx : xs.length ≤ 1048576) (h : Int) : Evn (fun k => spec_l23Within.f k xs h) (hasR xs h) := by
  unfold spec_l23Within.f
  refine Evn.bind (sp_l23Good xs hx) ?_
  refine Evn.ite (fun c => ?_) (fun c => (Evn.done _).eq_ (by simp only [hasR, Bool.eq_false_iff.mpr c, Bool.false_and]))
  refine Evn.ite (fun c1 => ?_) (fun c1 => (Evn.done _).eq_ (by simp only [hasR, decide_eq_false (show ¬ 0 < xs.length by omega), Bool.false_and, Bool.and_false]))
  have e : wrap64 ((xs.length : Int) - 1) = ((xs.length - 1 : Nat) : Int) := by rw [wrap_id (by omega) (by omega)]; omega
  have c2 : 0 < (xs.length : Int) := by clear e; omega
  have c3 : 0 ≤ ((xs.length - 1 : Nat) : Int) := by clear e; omega
  have c4 : ((xs.length - 1 : Nat) : Int) < (xs.length : Int) := by clear e; omega
  simp only [e, if_pos c2, if_pos c3, if_pos c4, sp_l1In, Option.bind_some, rd_T37, Int.toNat_natCast, Int.toNat_zero]
  refine (Evn.done _).eq_ ?_
  simp only [hasR, c, decide_eq_true (show 0 < xs.length by clear e; omega), Bool.true_and]
theorem im_hasHour (xs : List S37) (hx : xs.length ≤ 1048576) (h : Int) : Evn (fun k => impl_hasHour.f k xs h) (hasR xs h) := by
  unfold impl_hasHour.f
  by_cases h0 : (xs.length : Int) = 0
  · simp only [impl_hours.f, if_pos h0, Option.bind_some]
    refine Evn.bind (im_AreReadings xs hx) ?_
    simp only [im_within, Option.bind_some]
    refine Evn.ite (fun c => (Evn.done _).eq_ ?_) (fun c => (Evn.done _).eq_ (by simp only [hasR, Bool.eq_false_iff.mpr c, Bool.false_and]))
    simp only [hasR, decide_eq_false (show ¬ 0 < xs.length by omega), Bool.false_and, Bool.and_false, decide_eq_false_iff_not]
    omega
  · have e : wrap64 ((xs.length : Int) - 1) = ((xs.length - 1 : Nat) : Int) := by rw [wrap_id (by omega) (by omega)]; omega
    have c2 : 0 < (xs.length : Int) := by clear e; omega
    have c3 : 0 ≤ ((xs.length - 1 : Nat) : Int) := by clear e; omega
    have c4 : ((xs.length - 1 : Nat) : Int) < (xs.length : Int) := by clear e; omega
    simp only [impl_hours.f, if_neg h0, e, if_pos c2, if_pos c3, if_pos c4, Option.bind_some]
    refine Evn.bind (im_AreReadings xs hx) ?_
    simp only [im_within, Option.bind_some, rd_T37, Int.toNat_natCast, Int.toNat_zero]
    refine Evn.ite (fun c => (Evn.done _).eq_ ?_) (fun c => (Evn.done _).eq_ (by simp only [hasR, Bool.eq_false_iff.mpr c, Bool.false_and]))
    simp only [hasR, c, decide_eq_true (show 0 < xs.length by clear e; omega), Bool.true_and]
theorem levels (xs : List S37) (hx : xs.length ≤ 1048576) (h : Int) : ∃ r, Evn (fun k => spec_LevelIn.f k xs h) r ∧ Evn (fun k => impl_LevelIn.f k xs h) r := by
  unfold spec_LevelIn.f impl_LevelIn.f
  by_cases hh : hasR xs h = true
  · have hq := hh
    simp only [hasR, Bool.and_eq_true, decide_eq_true_eq] at hq
    obtain ⟨hg, h0, h1, h2⟩ := hq
    obtain ⟨j, _, hj, hle, hnx⟩ := last_at h (xs.length - 1) 0 (by omega) h1
    have hlast : (xs.getD j z37).f0 ≠ h → j + 1 < xs.length := by
      intro hne
      rcases Nat.lt_or_ge (j + 1) xs.length with hc | hc
      · exact hc
      · have : j = xs.length - 1 := by omega
        rw [this] at hle hne
        omega
    refine ⟨((levAt xs h j).1, (levAt xs h j).2, true), Evn.bind (sp_Within xs hx h) ?_, Evn.bind (im_hasHour xs hx h) ?_⟩
    · simp only [hh, if_true, spec_l23In.f]
      exact Evn.bind (sp_l23In_l0 hx hg h j hj hle hnx hlast j 0 (by omega)) (Evn.done _)
    · simp only [hh, if_true, impl_levelIn.f]
      exact Evn.bind (im_levelIn_l0 hx hg h j hj hle hnx hlast j 0 (by omega)) (Evn.done _)
  · have hf := Bool.eq_false_iff.mpr hh
    refine ⟨(0, 0, false), Evn.bind (sp_Within xs hx h) ?_, Evn.bind (im_hasHour xs hx h) ?_⟩
    · simp only [hf, Bool.false_eq_true, if_false]; exact Evn.done _
    · simp only [hf, Bool.false_eq_true, if_false]; exact Evn.done _

theorem FnExactLevelIn : ∀ (l0 : List (S59)) (a1 : Int), l0.length ≤ maxLen → (∀ x ∈ l0, (Lit.int .i64 x.f0).wf = true ∧ (Lit.int .i64 x.f1).wf = true) → (Lit.int .i64 a1).wf = true → ∃ k, laws_FnExactLevelIn.f k l0 a1 = some true := by
  intro l h9 hl _ _
  apply Evn.get
  simp only [laws_FnExactLevelIn.f, ev_szReadingS, Option.bind_some]
  refine Evn.ite (fun _ => Evn.done _) (fun h => ?_)
  have hx : l.length ≤ 1048576 := by unfold maxLen at hl; unfold wrap64 at h; split at h <;> omega
  have hx' : (l.map convReading).length ≤ 1048576 := by simpa using hx
  obtain ⟨r, h1, h2⟩ := levels _ hx' h9
  refine Evn.bind (ev_toReadingS l hx) ?_
  refine Evn.bind h1 ?_
  refine Evn.bind (ev_toReadingS l hx) ?_
  refine Evn.bind h2 ?_
  simp only [if_true, bne_self_eq_false]
  refine Evn.step ?_
  simp only [laws_FnExactLevelIn.j0, Bool.false_eq_true, if_false]
  refine Evn.bind (ev_toReadingS l hx) ?_
  refine Evn.bind (ev_eqReadingS _ hx') ?_
  simp only [if_true]
  exact Evn.done _

end Go.Proofs.Ytmfidodcpbochaa.Pure
