/- The plain statement of FnExactRenameLegs: its plain function returns true at every input. No condition beyond the arguments' own bounds. -/
import Derived.Test.YtfaojmabalplfaaQFnExactRenameLegsx5
import Derived.Test.YtfaojmabalplfaaAid
namespace Go.Proofs.Ytfaojmabalplfaa.Pure
open Go.RowKit Go.Proofs.YtfaojmabalplfaaW.PrintWords Go.Proofs.YtfaojmabalplfaaW.PrintLast Go.Proofs.Ytfaojmabalplfaa.Aid Go.Proofs.Ytfaojmabalplfaa.QFnExactRenameLegs
set_option linter.unusedVariables false
set_option linter.unusedSimpArgs false

theorem ev_toIntS_l0 (xs : List Int) (hx : xs.length ≤ 1048576) : ∀ (d i : Nat) (ys : List Int), i + d = xs.length → ys.length = xs.length → Evn (fun k => laws_toIntS.l0 k xs ys (i : Int)) (ys.take i ++ xs.drop i) := by
  intro d
  induction d with
  | zero =>
    intro i ys h hy
    refine Evn.step ?_
    have h1 : ¬ (i : Int) < (xs.length : Int) := by omega
    simp only [laws_toIntS.l0, if_neg h1]
    have e : ys.take i ++ xs.drop i = ys := by rw [List.take_of_length_le (by omega), List.drop_eq_nil_of_le (by omega)]; simp
    rw [e]
    exact Evn.done _
  | succ d ih =>
    intro i ys h hy
    refine Evn.step ?_
    have h1 : (i : Int) < (xs.length : Int) := by omega
    have h2 : 0 ≤ (i : Int) := by omega
    have h3 : (i : Int) < (ys.length : Int) := by omega
    simp only [laws_toIntS.l0, if_pos h1, if_pos h2, if_pos h3, Int.toNat_natCast, wrap_succ (show i < 4611686018427387904 by omega)]
    refine (ih (i + 1) _ (by omega) (by simpa using hy)).eq_ ?_
    rw [set_take _ _ _ (by omega), getD_drop xs i 0 (by omega)]
    simp [rd]
theorem ev_toIntS (xs : List Int) (hx : xs.length ≤ 1048576) : Evn (fun k => laws_toIntS.f k xs) xs := by
  unfold laws_toIntS.f
  refine Evn.ite (fun _ => Evn.ite (fun _ => ?_) (fun h => (h (by omega)).elim)) (fun h => (h (by omega)).elim)
  have h := ev_toIntS_l0 xs hx xs.length 0 (List.replicate (xs.length : Int).toNat 0) (by omega) (by simp)
  simpa using h

theorem ev_eqIntS_l0 (xs : List Int) (hx : xs.length ≤ 4194304) : ∀ (d i : Nat), i + d = xs.length → Evn (fun k => laws_eqIntS.l0 k xs xs (i : Int)) true := by
  intro d
  induction d with
  | zero =>
    intro i h
    refine Evn.step ?_
    have h1 : ¬ (i : Int) < (xs.length : Int) := by omega
    simp only [laws_eqIntS.l0, if_neg h1]
    exact Evn.done _
  | succ d ih =>
    intro i h
    refine Evn.step ?_
    have h1 : (i : Int) < (xs.length : Int) := by omega
    have h2 : 0 ≤ (i : Int) := by omega
    simp only [laws_eqIntS.l0, if_pos h1, if_pos h2, if_true, wrap_succ (show i < 4611686018427387904 by omega)]
    exact ih (i + 1) (by omega)
theorem ev_eqIntS (xs : List Int) (hx : xs.length ≤ 4194304) : Evn (fun k => laws_eqIntS.f k xs xs) true := by
  simp only [laws_eqIntS.f, if_true]
  exact ev_eqIntS_l0 xs hx xs.length 0 (by omega)

/-! The marks: a, a + 1, .. -/
def marksI (a : Int) : Nat → List Int
  | 0 => []
  | n + 1 => marksI a n ++ [a + n]
theorem marksI_len (a : Int) (n : Nat) : (marksI a n).length = n := by
  induction n with
  | zero => rfl
  | succ n ih => simp [marksI, ih]
theorem marksI_get (a : Int) (n : Nat) : ∀ i, i < n → (marksI a n).getD i 0 = a + i := by
  induction n with
  | zero => intro i h; omega
  | succ n ih =>
    intro i h
    rw [marksI, List.getD_eq_getElem?_getD]
    rcases Nat.lt_or_ge i n with hi | hi
    · rw [List.getElem?_append_left (by rw [marksI_len]; exact hi), ← List.getD_eq_getElem?_getD]
      exact ih i hi
    · obtain rfl : i = n := by omega
      rw [List.getElem?_append_right (by rw [marksI_len]; omega), marksI_len]
      simp
theorem ev_markIntS_l0 (a : Int) (ha : 0 ≤ a) (ha2 : a ≤ 1099511627776) (n : Nat) (hn : n ≤ 4194304) : ∀ (d i : Nat) (ys : List Int), i + d = n → ys.length = n → ys.take i = marksI a i → Evn (fun k => laws_markIntS.l0 k ys (a + i) (i : Int)) (a + n, marksI a n) := by
  intro d
  induction d with
  | zero =>
    intro i ys h hy ht
    refine Evn.step ?_
    have h1 : ¬ (i : Int) < (ys.length : Int) := by omega
    simp only [laws_markIntS.l0, if_neg h1]
    obtain rfl : i = n := by omega
    rw [List.take_of_length_le (by omega)] at ht
    rw [ht]
    exact Evn.done _
  | succ d ih =>
    intro i ys h hy ht
    refine Evn.step ?_
    have h1 : (i : Int) < (ys.length : Int) := by omega
    have h2 : 0 ≤ (i : Int) := by omega
    have e : wrap64 (a + i + 1) = a + ((i + 1 : Nat) : Int) := by rw [wrap_id (by omega) (by omega)]; omega
    simp only [laws_markIntS.l0, if_pos h1, if_pos h2, Int.toNat_natCast, e, wrap_succ (show i < 4611686018427387904 by omega)]
    exact ih (i + 1) _ (by omega) (by simpa using hy) (by rw [set_take _ _ _ (by omega), ht, marksI])
theorem ev_markIntS (ys : List Int) (a : Int) (ha : 0 ≤ a) (ha2 : a ≤ 1099511627776) (hn : ys.length ≤ 4194304) : Evn (fun k => laws_markIntS.f k ys a) (a + ys.length, marksI a ys.length) := by
  have h := ev_markIntS_l0 a ha ha2 ys.length hn ys.length 0 ys (by omega) rfl rfl
  simpa [laws_markIntS.f] using h

theorem ev_szLegS (l : List S75) (q : Int) : laws_szLegS.f l q = some (if wrap64 (q - (l.length : Int)) < 0 then -1 else wrap64 (q - (l.length : Int))) := by
  unfold laws_szLegS.f
  split <;> rfl

-- laws_toLeg: as it stands

def convLeg (x : S75) : S70 := ⟨x.f0, x.f1, x.f2, x.f3, x.f4⟩
theorem ev_toLegS_l0 (xs : List S75) (hx : xs.length ≤ 1048576) : ∀ (d i : Nat) (ys : List S70), i + d = xs.length → ys.length = xs.length → Evn (fun k => laws_toLegS.l0 k xs ys (i : Int)) (ys.take i ++ (xs.drop i).map convLeg) := by
  intro d
  induction d with
  | zero =>
    intro i ys h hy
    refine Evn.step ?_
    have h1 : ¬ (i : Int) < (xs.length : Int) := by omega
    simp only [laws_toLegS.l0, if_neg h1]
    have e : ys.take i ++ (xs.drop i).map convLeg = ys := by rw [List.take_of_length_le (by omega), List.drop_eq_nil_of_le (by omega)]; simp
    rw [e]
    exact Evn.done _
  | succ d ih =>
    intro i ys h hy
    refine Evn.step ?_
    have h1 : (i : Int) < (xs.length : Int) := by omega
    have h2 : 0 ≤ (i : Int) := by omega
    have h3 : (i : Int) < (ys.length : Int) := by omega
    simp only [laws_toLegS.l0, laws_toLeg.f, if_pos h1, if_pos h2, if_pos h3, Option.bind_some, Int.toNat_natCast, wrap_succ (show i < 4611686018427387904 by omega)]
    refine (ih (i + 1) _ (by omega) (by simpa using hy)).eq_ ?_
    rw [set_take _ _ _ (by omega), getD_drop xs i z75 (by omega)]
    simp [convLeg, rd_T75]
theorem ev_toLegS (xs : List S75) (hx : xs.length ≤ 1048576) : Evn (fun k => laws_toLegS.f k xs) (xs.map convLeg) := by
  unfold laws_toLegS.f
  refine Evn.ite (fun _ => Evn.ite (fun _ => ?_) (fun h => (h (by omega)).elim)) (fun h => (h (by omega)).elim)
  have h := ev_toLegS_l0 xs hx xs.length 0 (List.replicate (xs.length : Int).toNat z70) (by omega) (by simp)
  simpa using h

-- laws_eqLeg: as it stands

theorem ev_eqLegS_l0 (xs : List S70) (hx : xs.length ≤ 4194304) : ∀ (d i : Nat), i + d = xs.length → Evn (fun k => laws_eqLegS.l0 k xs xs (i : Int)) true := by
  intro d
  induction d with
  | zero =>
    intro i h
    refine Evn.step ?_
    have h1 : ¬ (i : Int) < (xs.length : Int) := by omega
    simp only [laws_eqLegS.l0, if_neg h1]
    exact Evn.done _
  | succ d ih =>
    intro i h
    refine Evn.step ?_
    have h1 : (i : Int) < (xs.length : Int) := by omega
    have h2 : 0 ≤ (i : Int) := by omega
    simp only [laws_eqLegS.l0, laws_eqLeg.f, if_pos h1, if_pos h2, Option.bind_some, if_true, wrap_succ (show i < 4611686018427387904 by omega)]
    exact ih (i + 1) (by omega)
theorem ev_eqLegS (xs : List S70) (hx : xs.length ≤ 4194304) : Evn (fun k => laws_eqLegS.f k xs xs) true := by
  simp only [laws_eqLegS.f, if_true]
  exact ev_eqLegS_l0 xs hx xs.length 0 (by omega)

/-! The marks that the law lays: b, b + 1, .. -/
def marksLeg (b : Int) : Nat → List S70
  | 0 => []
  | d + 1 => (⟨b, b + 1, b + 2, b + 3, b + 4⟩ : S70) :: marksLeg (b + 5) d
theorem marksLeg_len (d : Nat) : ∀ b, (marksLeg b d).length = d := by
  induction d with
  | zero => intro b; rfl
  | succ d ih => intro b; simp [marksLeg, ih]
theorem ev_markLegS_l0 (n : Nat) (hn : n ≤ 4194304) : ∀ (d i : Nat) (b : Int) (ys : List S70), i + d = n → ys.length = n → 0 ≤ b → b + 5 * d ≤ 1152921504606846976 → Evn (fun k => laws_markLegS.l0 k ys b (i : Int)) (b + 5 * d, ys.take i ++ marksLeg b d) := by
  intro d
  induction d with
  | zero =>
    intro i b ys h hy h0 hb
    refine Evn.step ?_
    have h1 : ¬ (i : Int) < (ys.length : Int) := by omega
    simp only [laws_markLegS.l0, if_neg h1, marksLeg]
    rw [List.take_of_length_le (by omega)]
    simpa using Evn.done _
  | succ d ih =>
    intro i b ys h hy h0 hb
    refine Evn.step ?_
    have h1 : (i : Int) < (ys.length : Int) := by omega
    have h2 : 0 ≤ (i : Int) := by omega
    have hs : ∀ (zs : List S70) (v : S70), zs.length = ys.length → rd_T70 (zs.set i v) (i : Int) = v := by
      intro zs v hz
      unfold rd_T70
      rw [Int.toNat_natCast, List.getD_eq_getElem?_getD, List.getElem?_set_self (by omega)]
      rfl
    have hk := ih (i + 1) (b + 5) (ys.set i ⟨b, b + 1, b + 2, b + 3, b + 4⟩) (by omega) (by simpa using hy) (by omega) (by omega)
    have e1 : wrap64 (b + 1) = b + 1 := by rw [wrap_id (by omega) (by omega)]
    have e2 : wrap64 (b + 1 + 1) = b + 2 := by rw [wrap_id (by omega) (by omega)]; omega
    have e3 : wrap64 (b + 2 + 1) = b + 3 := by rw [wrap_id (by omega) (by omega)]; omega
    have e4 : wrap64 (b + 3 + 1) = b + 4 := by rw [wrap_id (by omega) (by omega)]; omega
    have e5 : wrap64 (b + 4 + 1) = b + 5 := by rw [wrap_id (by omega) (by omega)]; omega
    simp only [laws_markLegS.l0, if_pos h1, if_pos h2, Option.bind_some, Int.toNat_natCast, hs, List.length_set, List.set_set, e1, e2, e3, e4, e5, wrap_succ (show i < 4611686018427387904 from Nat.lt_of_lt_of_le (show i < 4194304 + 1 by omega) (by decide))]
    refine hk.eq_ ?_
    rw [set_take _ _ _ (by omega), marksLeg, List.append_assoc]
    simp only [List.cons_append, List.nil_append, Prod.mk.injEq, and_true]
    omega
theorem ev_markLegS (ys : List S70) (a : Int) (ha : 0 ≤ a) (ha2 : a ≤ 1099511627776) (hn : ys.length ≤ 4194304) : Evn (fun k => laws_markLegS.f k ys a) (a + 5 * ys.length, marksLeg a ys.length) := by
  have h := ev_markLegS_l0 ys.length hn ys.length 0 a ys (by omega) rfl ha (by omega)
  simpa [laws_markLegS.f] using h

theorem ev_heldLegS_l0 (n : Nat) (hn : n ≤ 4194304) : ∀ (d i : Nat) (b : Int) (ys : List S70), i + d = n → ys.length = n → ys.drop i = marksLeg b d → 0 ≤ b → b + 5 * d ≤ 1152921504606846976 → Evn (fun k => laws_heldLegS.l0 k ys b (i : Int)) (b + 5 * d) := by
  intro d
  induction d with
  | zero =>
    intro i b ys h hy hd h0 hb
    refine Evn.step ?_
    have h1 : ¬ (i : Int) < (ys.length : Int) := by omega
    simp only [laws_heldLegS.l0, if_neg h1]
    simpa using Evn.done _
  | succ d ih =>
    intro i b ys h hy hd h0 hb
    refine Evn.step ?_
    have h1 : (i : Int) < (ys.length : Int) := by omega
    have h2 : 0 ≤ (i : Int) := by omega
    rw [getD_drop ys i z70 (by omega), marksLeg] at hd
    injection hd with hd1 hd2
    have hr : rd_T70 ys (i : Int) = ⟨b, b + 1, b + 2, b + 3, b + 4⟩ := by unfold rd_T70; rw [Int.toNat_natCast]; exact hd1
    have hk := ih (i + 1) (b + 5) ys (by omega) hy hd2 (by omega) (by omega)
    have e1 : wrap64 (b + 1) = b + 1 := by rw [wrap_id (by omega) (by omega)]
    have e2 : wrap64 (b + 1 + 1) = b + 2 := by rw [wrap_id (by omega) (by omega)]; omega
    have e3 : wrap64 (b + 2 + 1) = b + 3 := by rw [wrap_id (by omega) (by omega)]; omega
    have e4 : wrap64 (b + 3 + 1) = b + 4 := by rw [wrap_id (by omega) (by omega)]; omega
    have e5 : wrap64 (b + 4 + 1) = b + 5 := by rw [wrap_id (by omega) (by omega)]; omega
    simp only [laws_heldLegS.l0, if_pos h1, if_pos h2, hr, e1, e2, e3, e4, e5, if_true, wrap_succ (show i < 4611686018427387904 from Nat.lt_of_lt_of_le (show i < 4194304 + 1 by omega) (by decide))]
    refine hk.eq_ ?_
    clear e1 e2 e3 e4 e5
    omega
theorem ev_heldLegS (n : Nat) (a : Int) (ha : 0 ≤ a) (ha2 : a ≤ 1099511627776) (hn : n ≤ 4194304) : Evn (fun k => laws_heldLegS.f k (marksLeg a n) a) (a + 5 * n) := by
  have h := ev_heldLegS_l0 n hn n 0 a (marksLeg a n) (by omega) (marksLeg_len n a) rfl ha (by omega)
  simpa [laws_heldLegS.f] using h

theorem sp_l1In (x y z : Int) : spec_l1In.f x y z = some (decide (y ≤ x ∧ x ≤ z)) := by
  unfold spec_l1In.f
  by_cases h : x ≥ y <;> simp [h] <;> omega

theorem sp_l4Station (x : Int) : spec_l4Station.f x = some (decide (0 ≤ x ∧ x ≤ 7)) := by
  simp only [spec_l4Station.f, sp_l1In, Option.bind_some]

theorem sp_l1Has_l0 (xs : List Int) (v : Int) (hx : xs.length ≤ 4194304) : ∀ (d i : Nat), i + d = xs.length → Evn (fun k => spec_l1Has.l0 k xs v (i : Int)) ((xs.drop i).contains v) := by
  intro d
  induction d with
  | zero =>
    intro i h
    refine Evn.step ?_
    have h1 : ¬ (i : Int) < (xs.length : Int) := by omega
    simp only [spec_l1Has.l0, if_neg h1]
    rw [List.drop_eq_nil_of_le (by omega)]
    exact Evn.done _
  | succ d ih =>
    intro i h
    refine Evn.step ?_
    have h1 : (i : Int) < (xs.length : Int) := by omega
    have h2 : 0 ≤ (i : Int) := by omega
    simp only [spec_l1Has.l0, if_pos h1, if_pos h2, rd, Int.toNat_natCast, wrap_succ (show i < 4611686018427387904 by omega)]
    rw [getD_drop xs i 0 (by omega)]
    refine Evn.ite (fun c => (Evn.done _).eq_ ?_) (fun c => (ih (i + 1) (by omega)).eq_ ?_)
    · rw [List.contains_cons, c]; simp
    · rw [List.contains_cons, show (v == xs.getD i 0) = false from by simpa using fun h => c h.symm]; simp
theorem sp_l1Has (xs : List Int) (v : Int) (hx : xs.length ≤ 4194304) : Evn (fun k => spec_l1Has.f k xs v) (xs.contains v) := by
  have h := sp_l1Has_l0 xs v hx xs.length 0 (by omega)
  simpa [spec_l1Has.f] using h

def goodN (xs : List Int) : Nat → Nat → Bool
  | 0, _ => (xs.length : Int) == 8
  | d + 1, i => (decide (0 ≤ xs.getD i 0 ∧ xs.getD i 0 ≤ 7) && !(xs.take i).contains (xs.getD i 0)) && goodN xs d (i + 1)
def goodNs (xs : List Int) : Bool := goodN xs xs.length 0
theorem goodN_facts (xs : List Int) : ∀ (d i : Nat), i + d = xs.length → goodN xs d i = true → (∀ j, i ≤ j → j < xs.length → (0 ≤ xs.getD j 0 ∧ xs.getD j 0 ≤ 7) ∧ (xs.take j).contains (xs.getD j 0) = false) ∧ xs.length = 8 := by
  intro d
  induction d with
  | zero =>
    intro i h hg
    refine ⟨fun j h1 h2 => by omega, ?_⟩
    simp only [goodN, beq_iff_eq] at hg
    omega
  | succ d ih =>
    intro i h hg
    simp only [goodN, Bool.and_eq_true, decide_eq_true_eq, Bool.not_eq_true'] at hg
    obtain ⟨⟨g1, g2⟩, g3⟩ := hg
    obtain ⟨h1, h2⟩ := ih (i + 1) (by omega) g3
    refine ⟨fun j hj hl => ?_, h2⟩
    rcases Nat.lt_or_ge i j with hc | hc
    · exact h1 j hc hl
    · obtain rfl : j = i := by omega
      exact ⟨g1, g2⟩
theorem goodNs_len {xs : List Int} (h : goodNs xs = true) : xs.length = 8 := (goodN_facts xs xs.length 0 (by omega) h).2
theorem goodNs_in {xs : List Int} (h : goodNs xs = true) (j : Nat) (hj : j < xs.length) : 0 ≤ xs.getD j 0 ∧ xs.getD j 0 ≤ 7 := ((goodN_facts xs xs.length 0 (by omega) h).1 j (by omega) hj).1
theorem goodNs_new {xs : List Int} (h : goodNs xs = true) (j : Nat) (hj : j < xs.length) : (xs.take j).contains (xs.getD j 0) = false := ((goodN_facts xs xs.length 0 (by omega) h).1 j (by omega) hj).2
theorem sp_l20Good_l0 (xs : List Int) (hx : xs.length ≤ 1048576) : ∀ (d i : Nat), i + d = xs.length → Evn (fun k => spec_l20Good.l0 k xs (i : Int)) (goodN xs d i) := by
  intro d
  induction d with
  | zero =>
    intro i h
    refine Evn.step ?_
    have h1 : ¬ (i : Int) < (xs.length : Int) := by omega
    simp only [spec_l20Good.l0, if_neg h1, goodN]
    exact Evn.done _
  | succ d ih =>
    intro i h
    refine Evn.step ?_
    have h1 : (i : Int) < (xs.length : Int) := by omega
    have h2 : 0 ≤ (i : Int) := by omega
    have h3 : (i : Int) ≤ (xs.length : Int) := by omega
    have hl : (xs.take i).length ≤ 4194304 := by rw [List.length_take]; omega
    simp only [spec_l20Good.l0, if_pos h1, if_pos h2, if_pos h3, sp_l4Station, rd, Int.toNat_natCast, Option.bind_some, wrap_succ (show i < 4611686018427387904 by omega), goodN]
    refine Evn.ite (fun c1 => ?_) (fun c1 => (Evn.done _).eq_ (by simp only [Bool.eq_false_iff.mpr c1, Bool.false_and]))
    simp only [c1, Bool.true_and]
    refine Evn.bind (sp_l1Has _ _ hl) ?_
    refine Evn.ite (fun c2 => (Evn.done _).eq_ (by simp only [c2, Bool.not_true, Bool.false_and])) (fun c2 => (ih (i + 1) (by omega)).eq_ (by simp only [Bool.eq_false_iff.mpr c2, Bool.not_false, Bool.true_and]))
theorem sp_l20Good (xs : List Int) (hx : xs.length ≤ 1048576) : Evn (fun k => spec_l20Good.f k xs) (goodNs xs) := sp_l20Good_l0 xs hx xs.length 0 (by omega)

/-! A leg's rules. -/
def okLeg (x : S70) : Bool := decide (0 ≤ x.f0 ∧ x.f0 ≤ 7) && (decide (0 ≤ x.f1 ∧ x.f1 ≤ 7) && (!decide (x.f0 = x.f1) && (decide (1 ≤ x.f2 ∧ x.f2 ≤ 500) && (decide (0 ≤ x.f3 ∧ x.f3 ≤ 359) && decide (-90 ≤ x.f4 ∧ x.f4 ≤ 90)))))
def goodLegs (xs : List S70) : Bool := xs.all okLeg && decide (xs.length ≤ 12)
theorem goodLegs_len {xs : List S70} (h : goodLegs xs = true) : xs.length ≤ 12 := by
  simp only [goodLegs, Bool.and_eq_true, decide_eq_true_eq] at h
  exact h.2
theorem goodLegs_ok {xs : List S70} (h : goodLegs xs = true) (j : Nat) (hj : j < xs.length) : okLeg (xs.getD j z70) = true := by
  simp only [goodLegs, Bool.and_eq_true, List.all_eq_true] at h
  refine h.1 _ ?_
  rw [List.getD_eq_getElem?_getD, List.getElem?_eq_getElem hj]
  exact List.getElem_mem hj
theorem okLeg_in {x : S70} (h : okLeg x = true) : (0 ≤ x.f0 ∧ x.f0 ≤ 7) ∧ (0 ≤ x.f1 ∧ x.f1 ≤ 7) ∧ ¬ x.f0 = x.f1 ∧ (1 ≤ x.f2 ∧ x.f2 ≤ 500) ∧ (0 ≤ x.f3 ∧ x.f3 ≤ 359) ∧ (-90 ≤ x.f4 ∧ x.f4 ≤ 90) := by
  simp only [okLeg, Bool.and_eq_true, decide_eq_true_eq, Bool.not_eq_true', decide_eq_false_iff_not] at h
  exact h
theorem ite_not (c : Prop) [Decidable c] (x : Bool) : (if c then some false else some x) = some (!decide c && x) := by
  by_cases h : c <;> simp [h]

theorem sp_l4Leg (x : S70) : spec_l4Leg.f x.f0 x.f1 x.f2 x.f3 x.f4 = some (okLeg x) := by
  simp only [spec_l4Leg.f, sp_l4Station, spec_l2Bearing.f, sp_l1In, Option.bind_some, ite_and, ite_not, okLeg]

theorem sp_l4Legs_l0 (xs : List S70) (hx : xs.length ≤ 4194304) : ∀ (d i : Nat), i + d = xs.length → Evn (fun k => spec_l4Legs.l0 k xs (i : Int)) ((xs.drop i).all okLeg && decide (xs.length ≤ 12)) := by
  intro d
  induction d with
  | zero =>
    intro i h
    refine Evn.step ?_
    have h1 : ¬ (i : Int) < (xs.length : Int) := by omega
    simp only [spec_l4Legs.l0, if_neg h1]
    rw [List.drop_eq_nil_of_le (by omega)]
    refine (Evn.done _).eq_ ?_
    simp only [List.all_nil, Bool.true_and, decide_eq_decide]
    omega
  | succ d ih =>
    intro i h
    refine Evn.step ?_
    have h1 : (i : Int) < (xs.length : Int) := by omega
    have h2 : 0 ≤ (i : Int) := by omega
    simp only [spec_l4Legs.l0, if_pos h1, if_pos h2, sp_l4Leg, Option.bind_some, wrap_succ (show i < 4611686018427387904 by omega), rd_T70, Int.toNat_natCast]
    rw [getD_drop xs i z70 (by omega), List.all_cons]
    exact Evn.ite (fun c => (ih (i + 1) (by omega)).eq_ (by simp only [c, Bool.true_and])) (fun c => (Evn.done _).eq_ (by simp only [Bool.eq_false_iff.mpr c, Bool.false_and]))
theorem sp_l4Legs (xs : List S70) (hx : xs.length ≤ 4194304) : Evn (fun k => spec_l4Legs.f k xs) (goodLegs xs) := by
  have h := sp_l4Legs_l0 xs hx xs.length 0 (by omega)
  simpa [spec_l4Legs.f, goodLegs] using h

def renL (ys : List Int) (x : S70) : S70 := ⟨ys.getD x.f0.toNat 0, ys.getD x.f1.toNat 0, x.f2, x.f3, x.f4⟩
theorem ren_step {ys : List Int} {zs : List S70} {xs : List S70} {i : Nat} (h : i < xs.length) : zs ++ (xs.drop i).map (renL ys) = (zs ++ [renL ys (xs.getD i z70)]) ++ (xs.drop (i + 1)).map (renL ys) := by
  rw [getD_drop xs i z70 h]; simp
theorem sp_l20Rename (xs : List S70) (ys : List Int) (hg : goodLegs xs = true) (hl : ys.length = 8) : spec_l20Rename.f xs ys = some (xs.map (renL ys)) := by
  have hx := goodLegs_len hg
  unfold spec_l20Rename.f
  rw [if_pos ⟨by omega, fun i hi => by obtain ⟨⟨g1, g2⟩, ⟨g3, g4⟩, _⟩ := okLeg_in (goodLegs_ok hg i hi); omega⟩]
  rfl

def renLs (xs : List S70) (ys : List Int) : List S70 × Bool := if goodLegs xs = true ∧ goodNs ys = true then (xs.map (renL ys), true) else ([], false)
theorem sp_RenameLegs (xs : List S70) (ys : List Int) (hx : xs.length ≤ 4194304) (hy : ys.length ≤ 1048576) : Evn (fun k => spec_RenameLegs.f k xs ys) (renLs xs ys) := by
  unfold spec_RenameLegs.f
  refine Evn.bind (sp_l4Legs xs hx) ?_
  unfold renLs
  refine Evn.ite (fun c => ?_) (fun c => ?_)
  · refine Evn.bind (sp_l20Good ys hy) ?_
    refine Evn.ite (fun c1 => ?_) (fun c1 => ?_)
    · rw [if_pos ⟨c, c1⟩]
      simp only [sp_l20Rename xs ys c (goodNs_len c1), Option.bind_some]
      exact Evn.done _
    · rw [if_neg (fun h => c1 h.2)]
      exact Evn.done _
  · rw [if_neg (fun h => c h.1)]
    exact Evn.done _

theorem im_within (x y z : Int) : impl_within.f x y z = some (decide (y ≤ x ∧ x ≤ z)) := by
  unfold impl_within.f
  by_cases h : x ≥ y <;> simp [h] <;> omega

theorem im_isStation (x : Int) : impl_isStation.f x = some (decide (0 ≤ x ∧ x ≤ 7)) := by
  simp only [impl_isStation.f, im_within, Option.bind_some]

def idxI (xs : List Int) (v : Int) : Nat → Int → Int
  | 0, _ => -1
  | d + 1, i => if v = xs.getD i.toNat 0 then i else idxI xs v d (i + 1)
theorem idxI_has (xs : List Int) (v : Int) : ∀ (d i : Nat), i + d = xs.length → decide (idxI xs v d (i : Int) ≥ 0) = (xs.drop i).contains v := by
  intro d
  induction d with
  | zero => intro i h; rw [List.drop_eq_nil_of_le (by omega)]; simp [idxI]
  | succ d ih =>
    intro i h
    rw [getD_drop xs i 0 (by omega), List.contains_cons]
    unfold idxI
    rw [Int.toNat_natCast]
    by_cases c : v = xs.getD i 0
    · rw [if_pos c, ← c]; simp
    · rw [if_neg c, show (v == xs.getD i 0) = false from by simpa using c, Bool.false_or]
      exact ih (i + 1) (by omega)
theorem li_Index_l0 (xs : List Int) (v : Int) (hx : xs.length ≤ 4194304) : ∀ (d i : Nat), i + d = xs.length → Evn (fun k => slices_Index_int_int.l0 k xs v (xs.length : Int) (i : Int)) (idxI xs v d (i : Int)) := by
  intro d
  induction d with
  | zero =>
    intro i h
    refine Evn.step ?_
    have h1 : ¬ (i : Int) < (xs.length : Int) := by omega
    simp only [slices_Index_int_int.l0, if_neg h1]
    exact Evn.done _
  | succ d ih =>
    intro i h
    refine Evn.step ?_
    have h1 : (i : Int) < (xs.length : Int) := by omega
    have h2 : 0 ≤ (i : Int) := by omega
    simp only [slices_Index_int_int.l0, if_pos h1, if_pos h2, rd, wrap_succ (show i < 4611686018427387904 by omega), idxI]
    refine Evn.ite (fun c => (Evn.done _).eq_ ?_) (fun c => (ih (i + 1) (by omega)).eq_ ?_)
    · rw [if_pos c]
    · rw [if_neg c]; rfl

theorem im_has (xs : List Int) (v : Int) (hx : xs.length ≤ 4194304) : Evn (fun k => impl_has.f k xs v) (xs.contains v) := by
  unfold impl_has.f slices_Contains_int_int.f slices_Index_int_int.f
  refine Evn.bind (Evn.bind (li_Index_l0 xs v hx xs.length 0 (by omega)) (Evn.done _)) ?_
  refine (Evn.done _).eq_ ?_
  have h := idxI_has xs v xs.length 0 (by omega)
  simpa using h

theorem im_IsRenaming_l0 (xs : List Int) (hx : xs.length ≤ 1048576) : ∀ (d i : Nat), i + d = xs.length → Evn (fun k => impl_IsRenaming.l0 k xs xs (xs.length : Int) (i : Int)) (goodN xs d i) := by
  intro d
  induction d with
  | zero =>
    intro i h
    refine Evn.step ?_
    have h1 : ¬ (i : Int) < (xs.length : Int) := by omega
    simp only [impl_IsRenaming.l0, if_neg h1, goodN]
    exact Evn.done _
  | succ d ih =>
    intro i h
    refine Evn.step ?_
    have h1 : (i : Int) < (xs.length : Int) := by omega
    have h2 : 0 ≤ (i : Int) := by omega
    have h3 : (i : Int) ≤ (xs.length : Int) := by omega
    have hl : (xs.take i).length ≤ 4194304 := by rw [List.length_take]; omega
    simp only [impl_IsRenaming.l0, if_pos h1, if_pos h2, if_pos h3, im_isStation, rd, Int.toNat_natCast, Option.bind_some, wrap_succ (show i < 4611686018427387904 by omega), goodN]
    refine Evn.ite (fun c1 => ?_) (fun c1 => (Evn.done _).eq_ (by simp only [Bool.eq_false_iff.mpr c1, Bool.false_and]))
    simp only [c1, Bool.true_and]
    refine Evn.bind (im_has _ _ hl) ?_
    refine Evn.ite (fun c2 => (Evn.done _).eq_ (by simp only [c2, Bool.not_true, Bool.false_and])) (fun c2 => (ih (i + 1) (by omega)).eq_ (by simp only [Bool.eq_false_iff.mpr c2, Bool.not_false, Bool.true_and]))
theorem im_IsRenaming (xs : List Int) (hx : xs.length ≤ 1048576) : Evn (fun k => impl_IsRenaming.f k xs) (goodNs xs) := im_IsRenaming_l0 xs hx xs.length 0 (by omega)

theorem im_IsLeg (x : S70) : impl_IsLeg.f x.f0 x.f1 x.f2 x.f3 x.f4 = some (okLeg x) := by
  simp only [impl_IsLeg.f, im_isStation, impl_isBearing.f, im_within, Option.bind_some, ite_and, ite_not, okLeg]

theorem im_areLegs_l0 (xs : List S70) (hx : xs.length ≤ 4194304) : ∀ (d i : Nat), i + d = xs.length → Evn (fun k => impl_areLegs.l0 k xs xs (xs.length : Int) (i : Int)) ((xs.drop i).all okLeg && decide (xs.length ≤ 12)) := by
  intro d
  induction d with
  | zero =>
    intro i h
    refine Evn.step ?_
    have h1 : ¬ (i : Int) < (xs.length : Int) := by omega
    simp only [impl_areLegs.l0, if_neg h1]
    rw [List.drop_eq_nil_of_le (by omega)]
    refine (Evn.done _).eq_ ?_
    simp only [List.all_nil, Bool.true_and, decide_eq_decide]
    omega
  | succ d ih =>
    intro i h
    refine Evn.step ?_
    have h1 : (i : Int) < (xs.length : Int) := by omega
    have h2 : 0 ≤ (i : Int) := by omega
    simp only [impl_areLegs.l0, if_pos h1, if_pos h2, im_IsLeg, Option.bind_some, wrap_succ (show i < 4611686018427387904 by omega), rd_T70, Int.toNat_natCast]
    rw [getD_drop xs i z70 (by omega), List.all_cons]
    exact Evn.ite (fun c => (ih (i + 1) (by omega)).eq_ (by simp only [c, Bool.true_and])) (fun c => (Evn.done _).eq_ (by simp only [Bool.eq_false_iff.mpr c, Bool.false_and]))
theorem im_areLegs (xs : List S70) (hx : xs.length ≤ 4194304) : Evn (fun k => impl_areLegs.f k xs) (goodLegs xs) := by
  have h := im_areLegs_l0 xs hx xs.length 0 (by omega)
  simpa [impl_areLegs.f, goodLegs] using h

theorem im_RenameLegs_l0 (xs : List S70) (ys : List Int) (hg : goodLegs xs = true) (hl : ys.length = 8) : ∀ (d i : Nat) (zs : List S70), i + d = xs.length → zs.length = i → Evn (fun k => impl_RenameLegs.l0 k ys zs xs (xs.length : Int) (i : Int)) (zs ++ (xs.drop i).map (renL ys), true) := by
  have hx := goodLegs_len hg
  intro d
  induction d with
  | zero =>
    intro i zs h hz
    refine Evn.step ?_
    have h1 : ¬ (i : Int) < (xs.length : Int) := by omega
    simp only [impl_RenameLegs.l0, if_neg h1]
    rw [List.drop_eq_nil_of_le (by omega)]
    simpa using Evn.done _
  | succ d ih =>
    intro i zs h hz
    refine Evn.step ?_
    have h1 : (i : Int) < (xs.length : Int) := by omega
    have h2 : 0 ≤ (i : Int) := by omega
    obtain ⟨⟨g1, g2⟩, ⟨g3, g4⟩, _⟩ := okLeg_in (goodLegs_ok hg i (by omega))
    have hc : 0 ≤ (xs.getD i z70).f0 ∧ (xs.getD i z70).f0 < (ys.length : Int) ∧ 0 ≤ (xs.getD i z70).f1 ∧ (xs.getD i z70).f1 < (ys.length : Int) := by omega
    rw [ren_step (by omega)]
    simp only [impl_RenameLegs.l0, if_pos h1, if_pos h2, rd_T70, Int.toNat_natCast, wrap_succ (show i < 4611686018427387904 by omega)]
    simp only [impl_renamed.f]
    simp only [if_pos hc, Option.bind_some]
    exact Evn.ite (fun _ => ih (i + 1) _ (by omega) (by rw [List.length_append, hz]; rfl)) (fun c => absurd (by omega) c)
theorem im_RenameLegs (xs : List S70) (ys : List Int) (hx : xs.length ≤ 4194304) (hy : ys.length ≤ 1048576) : Evn (fun k => impl_RenameLegs.f k xs ys) (renLs xs ys) := by
  unfold impl_RenameLegs.f
  refine Evn.bind (im_areLegs xs hx) ?_
  unfold renLs
  refine Evn.ite (fun c => ?_) (fun c => ?_)
  · refine Evn.bind (im_IsRenaming ys hy) (Evn.step ?_)
    simp only [impl_RenameLegs.j0]
    refine Evn.ite (fun c1 => ?_) (fun c1 => ?_)
    · rw [if_neg (by intro h; rw [h.2] at c1; cases c1)]
      exact Evn.done _
    · have c2 : goodNs ys = true := by simpa using c1
      rw [if_pos ⟨c, c2⟩]
      have h := im_RenameLegs_l0 xs ys c (goodNs_len c2) xs.length 0 [] (by omega) rfl
      simpa using h
  · refine Evn.step ?_
    simp only [impl_RenameLegs.j0, if_true]
    rw [if_neg (fun h => c h.1)]
    exact Evn.done _

theorem FnExactRenameLegs : ∀ (l0 : List (S75)) (l1 : List Int), l0.length ≤ maxLen → (∀ x ∈ l0, (Lit.int .i64 x.f0).wf = true ∧ (Lit.int .i64 x.f1).wf = true ∧ (Lit.int .i64 x.f2).wf = true ∧ (Lit.int .i64 x.f3).wf = true ∧ (Lit.int .i64 x.f4).wf = true) → l1.length ≤ maxLen → (∀ x ∈ l1, (Lit.int .i64 x).wf = true) → ∃ k, laws_FnExactRenameLegs.f k l0 l1 = some true := by
  intro l m hl _ _ _
  apply Evn.get
  unfold laws_FnExactRenameLegs.f
  refine Evn.ite (fun _ => Evn.done _) (fun h' => ?_)
  simp only [ev_szLegS, Option.bind_some]
  refine Evn.ite (fun _ => Evn.done _) (fun h => ?_)
  have hx : l.length ≤ 1048576 := by unfold maxLen at hl; unfold wrap64 at h; split at h <;> omega
  have hx' : (l.map convLeg).length ≤ 4194304 := by rw [List.length_map]; omega
  have hy : m.length ≤ 1048576 := by omega
  have hy4 : m.length ≤ 4194304 := by omega
  clear h hl
  have hs := sp_RenameLegs (l.map convLeg) m hx' hy
  have hi := im_RenameLegs (l.map convLeg) m hx' hy
  have hr : (renLs (l.map convLeg) m).1.length ≤ 4194304 := by
    unfold renLs
    split
    · rw [List.length_map]; exact hx'
    · simp
  generalize renLs (l.map convLeg) m = r at hs hi hr
  generalize hL : l.map convLeg = L at hs hi hx'
  have hto : Evn (fun k => laws_toLegS.f k l) L := hL ▸ ev_toLegS l hx
  repeat (first
    | exact Evn.done _
    | simp only [if_true, bne_self_eq_false, Bool.false_eq_true, if_false]
    | refine Evn.bind hto ?_
    | refine Evn.bind hs ?_
    | refine Evn.bind hi ?_
    | refine Evn.bind (ev_toLegS _ (by assumption)) ?_
    | refine Evn.bind (ev_toIntS _ (by assumption)) ?_
    | refine Evn.bind (ev_eqLegS _ (by assumption)) ?_
    | refine Evn.bind (ev_eqIntS _ (by assumption)) ?_
    | refine Evn.bind (ev_markLegS _ _ (by omega) (by omega) (by first | assumption | omega)) ?_
    | refine Evn.bind (ev_heldLegS _ _ (by omega) (by omega) (by first | assumption | omega)) ?_
    | refine Evn.bind (ev_markIntS _ _ (by omega) (by omega) (by first | assumption | omega)) ?_
    | refine Evn.bind (ev_heldIntS _ _ (by omega) (by omega) (by first | assumption | omega)) ?_
    | refine Evn.ite (fun h_ => absurd h_ (by first | omega | decide)) (fun _ => ?_)
    | refine Evn.ite (fun _ => ?_) (fun h_ => absurd (by first | rfl | omega) h_)
    | dsimp only
    | (refine Evn.step ?_; simp only [laws_FnExactRenameLegs.j0])
    | (refine Evn.step ?_; simp only [laws_FnExactRenameLegs.j1])
    | (refine Evn.step ?_; simp only [laws_FnExactRenameLegs.j2]))

end Go.Proofs.Ytfaojmabalplfaa.Pure
