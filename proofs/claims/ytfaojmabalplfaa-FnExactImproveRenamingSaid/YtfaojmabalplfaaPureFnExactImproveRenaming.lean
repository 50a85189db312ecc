/- The plain statement of FnExactImproveRenaming: its plain function returns true at every input. No condition beyond the arguments' own bounds. -/
import Derived.Test.YtfaojmabalplfaaQFnExactImproveRenamingx10
import Derived.Test.YtfaojmabalplfaaViAid
namespace Go.Proofs.Ytfaojmabalplfaa.Pure
open Go.RowKit Go.Proofs.YtfaojmabalplfaaW.PrintWords Go.Proofs.YtfaojmabalplfaaW.PrintLast Go.Proofs.Ytfaojmabalplfaa.Aid Go.Proofs.Ytfaojmabalplfaa.QFnExactImproveRenaming
set_option linter.unusedVariables false
set_option linter.unusedSimpArgs false

theorem ev_toIntS_l0 (xs : List Int) (hx : xs.length ≤ 1048576) : ∀ (d i : Nat) (ys : List Int), i + d = xs.length → ys.length = xs.length → Evn (fun k => laws_toIntS.l0 k xs ys (i : Int)) (ys.take i ++ xs.drop i) := by
  intro d
  induction d with
  | zero =>
    intro i ys h hy
    refine Evn.step ?_
    have h1 : ¬ (i : Int) < (xs.length : Int) := by omega
    simp only [laws_toIntS.l0, if_neg h1]
    have e : ys.take i ++ xs.drop i = ys := by rw [List.take_of_length_le (by omega), List.drop_eq_nil_of_le (by omega)]; simp
    rw [e]
    exact Evn.done _
  | succ d ih =>
    intro i ys h hy
    refine Evn.step ?_
    have h1 : (i : Int) < (xs.length : Int) := by omega
    have h2 : 0 ≤ (i : Int) := by omega
    have h3 : (i : Int) < (ys.length : Int) := by omega
    simp only [laws_toIntS.l0, if_pos h1, if_pos h2, if_pos h3, Int.toNat_natCast, wrap_succ (show i < 4611686018427387904 by omega)]
    refine (ih (i + 1) _ (by omega) (by simpa using hy)).eq_ ?_
    rw [set_take _ _ _ (by omega), getD_drop xs i 0 (by omega)]
    simp [rd]
theorem ev_toIntS (xs : List Int) (hx : xs.length ≤ 1048576) : Evn (fun k => laws_toIntS.f k xs) xs := by
  unfold laws_toIntS.f
  refine Evn.ite (fun _ => Evn.ite (fun _ => ?_) (fun h => (h (by omega)).elim)) (fun h => (h (by omega)).elim)
  have h := ev_toIntS_l0 xs hx xs.length 0 (List.replicate (xs.length : Int).toNat 0) (by omega) (by simp)
  simpa using h

theorem ev_eqIntS_l0 (xs : List Int) (hx : xs.length ≤ 4194304) : ∀ (d i : Nat), i + d = xs.length → Evn (fun k => laws_eqIntS.l0 k xs xs (i : Int)) true := by
  intro d
  induction d with
  | zero =>
    intro i h
    refine Evn.step ?_
    have h1 : ¬ (i : Int) < (xs.length : Int) := by omega
    simp only [laws_eqIntS.l0, if_neg h1]
    exact Evn.done _
  | succ d ih =>
    intro i h
    refine Evn.step ?_
    have h1 : (i : Int) < (xs.length : Int) := by omega
    have h2 : 0 ≤ (i : Int) := by omega
    simp only [laws_eqIntS.l0, if_pos h1, if_pos h2, if_true, wrap_succ (show i < 4611686018427387904 by omega)]
    exact ih (i + 1) (by omega)
theorem ev_eqIntS (xs : List Int) (hx : xs.length ≤ 4194304) : Evn (fun k => laws_eqIntS.f k xs xs) true := by
  simp only [laws_eqIntS.f, if_true]
  exact ev_eqIntS_l0 xs hx xs.length 0 (by omega)

/-! The marks: a, a + 1, .. -/
def marksI (a : Int) : Nat → List Int
  | 0 => []
  | n + 1 => marksI a n ++ [a + n]
theorem marksI_len (a : Int) (n : Nat) : (marksI a n).length = n := by
  induction n with
  | zero => rfl
  | succ n ih => simp [marksI, ih]
theorem marksI_get (a : Int) (n : Nat) : ∀ i, i < n → (marksI a n).getD i 0 = a + i := by
  induction n with
  | zero => intro i h; omega
  | succ n ih =>
    intro i h
    rw [marksI, List.getD_eq_getElem?_getD]
    rcases Nat.lt_or_ge i n with hi | hi
    · rw [List.getElem?_append_left (by rw [marksI_len]; exact hi), ← List.getD_eq_getElem?_getD]
      exact ih i hi
    · obtain rfl : i = n := by omega
      rw [List.getElem?_append_right (by rw [marksI_len]; omega), marksI_len]
      simp
theorem ev_markIntS_l0 (a : Int) (ha : 0 ≤ a) (ha2 : a ≤ 1099511627776) (n : Nat) (hn : n ≤ 4194304) : ∀ (d i : Nat) (ys : List Int), i + d = n → ys.length = n → ys.take i = marksI a i → Evn (fun k => laws_markIntS.l0 k ys (a + i) (i : Int)) (a + n, marksI a n) := by
  intro d
  induction d with
  | zero =>
    intro i ys h hy ht
    refine Evn.step ?_
    have h1 : ¬ (i : Int) < (ys.length : Int) := by omega
    simp only [laws_markIntS.l0, if_neg h1]
    obtain rfl : i = n := by omega
    rw [List.take_of_length_le (by omega)] at ht
    rw [ht]
    exact Evn.done _
  | succ d ih =>
    intro i ys h hy ht
    refine Evn.step ?_
    have h1 : (i : Int) < (ys.length : Int) := by omega
    have h2 : 0 ≤ (i : Int) := by omega
    have e : wrap64 (a + i + 1) = a + ((i + 1 : Nat) : Int) := by rw [wrap_id (by omega) (by omega)]; omega
    simp only [laws_markIntS.l0, if_pos h1, if_pos h2, Int.toNat_natCast, e, wrap_succ (show i < 4611686018427387904 by omega)]
    exact ih (i + 1) _ (by omega) (by simpa using hy) (by rw [set_take _ _ _ (by omega), ht, marksI])
theorem ev_markIntS (ys : List Int) (a : Int) (ha : 0 ≤ a) (ha2 : a ≤ 1099511627776) (hn : ys.length ≤ 4194304) : Evn (fun k => laws_markIntS.f k ys a) (a + ys.length, marksI a ys.length) := by
  have h := ev_markIntS_l0 a ha ha2 ys.length hn ys.length 0 ys (by omega) rfl rfl
  simpa [laws_markIntS.f] using h

theorem ev_heldIntS_l0 (a : Int) (ha : 0 ≤ a) (ha2 : a ≤ 1099511627776) (n : Nat) (hn : n ≤ 4194304) : ∀ (d i : Nat), i + d = n → Evn (fun k => laws_heldIntS.l0 k (marksI a n) (a + i) (i : Int)) (a + n) := by
  intro d
  induction d with
  | zero =>
    intro i h
    refine Evn.step ?_
    have h1 : ¬ (i : Int) < ((marksI a n).length : Int) := by rw [marksI_len]; omega
    simp only [laws_heldIntS.l0, if_neg h1]
    obtain rfl : i = n := by omega
    exact Evn.done _
  | succ d ih =>
    intro i h
    refine Evn.step ?_
    have h1 : (i : Int) < ((marksI a n).length : Int) := by rw [marksI_len]; omega
    have h2 : 0 ≤ (i : Int) := by omega
    have h3 : rd (marksI a n) (i : Int) = a + i := by unfold rd; rw [Int.toNat_natCast]; exact marksI_get a n i (by omega)
    have e : wrap64 (a + i + 1) = a + ((i + 1 : Nat) : Int) := by rw [wrap_id (by omega) (by omega)]; omega
    simp only [laws_heldIntS.l0, if_pos h1, if_pos h2, if_pos h3, e, wrap_succ (show i < 4611686018427387904 by omega)]
    exact ih (i + 1) (by omega)
theorem ev_heldIntS (n : Nat) (a : Int) (ha : 0 ≤ a) (ha2 : a ≤ 1099511627776) (hn : n ≤ 4194304) : Evn (fun k => laws_heldIntS.f k (marksI a n) a) (a + n) := by
  have h := ev_heldIntS_l0 a ha ha2 n hn n 0 (by omega)
  simpa [laws_heldIntS.f] using h

theorem ev_szLegS (l : List S75) (q : Int) : laws_szLegS.f l q = some (if wrap64 (q - (l.length : Int)) < 0 then -1 else wrap64 (q - (l.length : Int))) := by
  unfold laws_szLegS.f
  split <;> rfl

-- laws_toLeg: as it stands

def convLeg (x : S75) : S70 := ⟨x.f0, x.f1, x.f2, x.f3, x.f4⟩
theorem ev_toLegS_l0 (xs : List S75) (hx : xs.length ≤ 1048576) : ∀ (d i : Nat) (ys : List S70), i + d = xs.length → ys.length = xs.length → Evn (fun k => laws_toLegS.l0 k xs ys (i : Int)) (ys.take i ++ (xs.drop i).map convLeg) := by
  intro d
  induction d with
  | zero =>
    intro i ys h hy
    refine Evn.step ?_
    have h1 : ¬ (i : Int) < (xs.length : Int) := by omega
    simp only [laws_toLegS.l0, if_neg h1]
    have e : ys.take i ++ (xs.drop i).map convLeg = ys := by rw [List.take_of_length_le (by omega), List.drop_eq_nil_of_le (by omega)]; simp
    rw [e]
    exact Evn.done _
  | succ d ih =>
    intro i ys h hy
    refine Evn.step ?_
    have h1 : (i : Int) < (xs.length : Int) := by omega
    have h2 : 0 ≤ (i : Int) := by omega
    have h3 : (i : Int) < (ys.length : Int) := by omega
    simp only [laws_toLegS.l0, laws_toLeg.f, if_pos h1, if_pos h2, if_pos h3, Option.bind_some, Int.toNat_natCast, wrap_succ (show i < 4611686018427387904 by omega)]
    refine (ih (i + 1) _ (by omega) (by simpa using hy)).eq_ ?_
    rw [set_take _ _ _ (by omega), getD_drop xs i z75 (by omega)]
    simp [convLeg, rd_T75]
theorem ev_toLegS (xs : List S75) (hx : xs.length ≤ 1048576) : Evn (fun k => laws_toLegS.f k xs) (xs.map convLeg) := by
  unfold laws_toLegS.f
  refine Evn.ite (fun _ => Evn.ite (fun _ => ?_) (fun h => (h (by omega)).elim)) (fun h => (h (by omega)).elim)
  have h := ev_toLegS_l0 xs hx xs.length 0 (List.replicate (xs.length : Int).toNat z70) (by omega) (by simp)
  simpa using h

-- laws_eqLeg: as it stands

theorem ev_eqLegS_l0 (xs : List S70) (hx : xs.length ≤ 4194304) : ∀ (d i : Nat), i + d = xs.length → Evn (fun k => laws_eqLegS.l0 k xs xs (i : Int)) true := by
  intro d
  induction d with
  | zero =>
    intro i h
    refine Evn.step ?_
    have h1 : ¬ (i : Int) < (xs.length : Int) := by omega
    simp only [laws_eqLegS.l0, if_neg h1]
    exact Evn.done _
  | succ d ih =>
    intro i h
    refine Evn.step ?_
    have h1 : (i : Int) < (xs.length : Int) := by omega
    have h2 : 0 ≤ (i : Int) := by omega
    simp only [laws_eqLegS.l0, laws_eqLeg.f, if_pos h1, if_pos h2, Option.bind_some, if_true, wrap_succ (show i < 4611686018427387904 by omega)]
    exact ih (i + 1) (by omega)
theorem ev_eqLegS (xs : List S70) (hx : xs.length ≤ 4194304) : Evn (fun k => laws_eqLegS.f k xs xs) true := by
  simp only [laws_eqLegS.f, if_true]
  exact ev_eqLegS_l0 xs hx xs.length 0 (by omega)

/-! The marks that the law lays: b, b + 1, .. -/
def marksLeg (b : Int) : Nat → List S70
  | 0 => []
  | d + 1 => (⟨b, b + 1, b + 2, b + 3, b + 4⟩ : S70) :: marksLeg (b + 5) d
theorem marksLeg_len (d : Nat) : ∀ b, (marksLeg b d).length = d := by
  induction d with
  | zero => intro b; rfl
  | succ d ih => intro b; simp [marksLeg, ih]
theorem ev_markLegS_l0 (n : Nat) (hn : n ≤ 4194304) : ∀ (d i : Nat) (b : Int) (ys : List S70), i + d = n → ys.length = n → 0 ≤ b → b + 5 * d ≤ 1152921504606846976 → Evn (fun k => laws_markLegS.l0 k ys b (i : Int)) (b + 5 * d, ys.take i ++ marksLeg b d) := by
  intro d
  induction d with
  | zero =>
    intro i b ys h hy h0 hb
    refine Evn.step ?_
    have h1 : ¬ (i : Int) < (ys.length : Int) := by omega
    simp only [laws_markLegS.l0, if_neg h1, marksLeg]
    rw [List.take_of_length_le (by omega)]
    simpa using Evn.done _
  | succ d ih =>
    intro i b ys h hy h0 hb
    refine Evn.step ?_
    have h1 : (i : Int) < (ys.length : Int) := by omega
    have h2 : 0 ≤ (i : Int) := by omega
    have hs : ∀ (zs : List S70) (v : S70), zs.length = ys.length → rd_T70 (zs.set i v) (i : Int) = v := by
      intro zs v hz
      unfold rd_T70
      rw [Int.toNat_natCast, List.getD_eq_getElem?_getD, List.getElem?_set_self (by omega)]
      rfl
    have hk := ih (i + 1) (b + 5) (ys.set i ⟨b, b + 1, b + 2, b + 3, b + 4⟩) (by omega) (by simpa using hy) (by omega) (by omega)
    have e1 : wrap64 (b + 1) = b + 1 := by rw [wrap_id (by omega) (by omega)]
    have e2 : wrap64 (b + 1 + 1) = b + 2 := by rw [wrap_id (by omega) (by omega)]; omega
    have e3 : wrap64 (b + 2 + 1) = b + 3 := by rw [wrap_id (by omega) (by omega)]; omega
    have e4 : wrap64 (b + 3 + 1) = b + 4 := by rw [wrap_id (by omega) (by omega)]; omega
    have e5 : wrap64 (b + 4 + 1) = b + 5 := by rw [wrap_id (by omega) (by omega)]; omega
    simp only [laws_markLegS.l0, if_pos h1, if_pos h2, Option.bind_some, Int.toNat_natCast, hs, List.length_set, List.set_set, e1, e2, e3, e4, e5, wrap_succ (show i < 4611686018427387904 from Nat.lt_of_lt_of_le (show i < 4194304 + 1 by omega) (by decide))]
    refine hk.eq_ ?_
    rw [set_take _ _ _ (by omega), marksLeg, List.append_assoc]
    simp only [List.cons_append, List.nil_append, Prod.mk.injEq, and_true]
    omega
theorem ev_markLegS (ys : List S70) (a : Int) (ha : 0 ≤ a) (ha2 : a ≤ 1099511627776) (hn : ys.length ≤ 4194304) : Evn (fun k => laws_markLegS.f k ys a) (a + 5 * ys.length, marksLeg a ys.length) := by
  have h := ev_markLegS_l0 ys.length hn ys.length 0 a ys (by omega) rfl ha (by omega)
  simpa [laws_markLegS.f] using h

theorem sp_l1In (x y z : Int) : spec_l1In.f x y z = some (decide (y ≤ x ∧ x ≤ z)) := by
  unfold spec_l1In.f
  by_cases h : x ≥ y <;> simp [h] <;> omega

theorem sp_l4Station (x : Int) : spec_l4Station.f x = some (decide (0 ≤ x ∧ x ≤ 7)) := by
  simp only [spec_l4Station.f, sp_l1In, Option.bind_some]

theorem sp_l1Has_l0 (xs : List Int) (v : Int) (hx : xs.length ≤ 4194304) : ∀ (d i : Nat), i + d = xs.length → Evn (fun k => spec_l1Has.l0 k xs v (i : Int)) ((xs.drop i).contains v) := by
  intro d
  induction d with
  | zero =>
    intro i h
    refine Evn.step ?_
    have h1 : ¬ (i : Int) < (xs.length : Int) := by omega
    simp only [spec_l1Has.l0, if_neg h1]
    rw [List.drop_eq_nil_of_le (by omega)]
    exact Evn.done _
  | succ d ih =>
    intro i h
    refine Evn.step ?_
    have h1 : (i : Int) < (xs.length : Int) := by omega
    have h2 : 0 ≤ (i : Int) := by omega
    simp only [spec_l1Has.l0, if_pos h1, if_pos h2, rd, Int.toNat_natCast, wrap_succ (show i < 4611686018427387904 by omega)]
    rw [getD_drop xs i 0 (by omega)]
    refine Evn.ite (fun c => (Evn.done _).eq_ ?_) (fun c => (ih (i + 1) (by omega)).eq_ ?_)
    · rw [List.contains_cons, c]; simp
    · rw [List.contains_cons, show (v == xs.getD i 0) = false from by simpa using fun h => c h.symm]; simp
theorem sp_l1Has (xs : List Int) (v : Int) (hx : xs.length ≤ 4194304) : Evn (fun k => spec_l1Has.f k xs v) (xs.contains v) := by
  have h := sp_l1Has_l0 xs v hx xs.length 0 (by omega)
  simpa [spec_l1Has.f] using h

def goodN (xs : List Int) : Nat → Nat → Bool
  | 0, _ => (xs.length : Int) == 8
  | d + 1, i => (decide (0 ≤ xs.getD i 0 ∧ xs.getD i 0 ≤ 7) && !(xs.take i).contains (xs.getD i 0)) && goodN xs d (i + 1)
def goodNs (xs : List Int) : Bool := goodN xs xs.length 0
theorem goodN_facts (xs : List Int) : ∀ (d i : Nat), i + d = xs.length → goodN xs d i = true → (∀ j, i ≤ j → j < xs.length → (0 ≤ xs.getD j 0 ∧ xs.getD j 0 ≤ 7) ∧ (xs.take j).contains (xs.getD j 0) = false) ∧ xs.length = 8 := by
  intro d
  induction d with
  | zero =>
    intro i h hg
    refine ⟨fun j h1 h2 => by omega, ?_⟩
    simp only [goodN, beq_iff_eq] at hg
    omega
  | succ d ih =>
    intro i h hg
    simp only [goodN, Bool.and_eq_true, decide_eq_true_eq, Bool.not_eq_true'] at hg
    obtain ⟨⟨g1, g2⟩, g3⟩ := hg
    obtain ⟨h1, h2⟩ := ih (i + 1) (by omega) g3
    refine ⟨fun j hj hl => ?_, h2⟩
    rcases Nat.lt_or_ge i j with hc | hc
    · exact h1 j hc hl
    · obtain rfl : j = i := by omega
      exact ⟨g1, g2⟩
theorem goodNs_len {xs : List Int} (h : goodNs xs = true) : xs.length = 8 := (goodN_facts xs xs.length 0 (by omega) h).2
theorem goodNs_in {xs : List Int} (h : goodNs xs = true) (j : Nat) (hj : j < xs.length) : 0 ≤ xs.getD j 0 ∧ xs.getD j 0 ≤ 7 := ((goodN_facts xs xs.length 0 (by omega) h).1 j (by omega) hj).1
theorem goodNs_new {xs : List Int} (h : goodNs xs = true) (j : Nat) (hj : j < xs.length) : (xs.take j).contains (xs.getD j 0) = false := ((goodN_facts xs xs.length 0 (by omega) h).1 j (by omega) hj).2
theorem sp_l20Good_l0 (xs : List Int) (hx : xs.length ≤ 1048576) : ∀ (d i : Nat), i + d = xs.length → Evn (fun k => spec_l20Good.l0 k xs (i : Int)) (goodN xs d i) := by
  intro d
  induction d with
  | zero =>
    intro i h
    refine Evn.step ?_
    have h1 : ¬ (i : Int) < (xs.length : Int) := by omega
    simp only [spec_l20Good.l0, if_neg h1, goodN]
    exact Evn.done _
  | succ d ih =>
    intro i h
    refine Evn.step ?_
    have h1 : (i : Int) < (xs.length : Int) := by omega
    have h2 : 0 ≤ (i : Int) := by omega
    have h3 : (i : Int) ≤ (xs.length : Int) := by omega
    have hl : (xs.take i).length ≤ 4194304 := by rw [List.length_take]; omega
    simp only [spec_l20Good.l0, if_pos h1, if_pos h2, if_pos h3, sp_l4Station, rd, Int.toNat_natCast, Option.bind_some, wrap_succ (show i < 4611686018427387904 by omega), goodN]
    refine Evn.ite (fun c1 => ?_) (fun c1 => (Evn.done _).eq_ (by simp only [Bool.eq_false_iff.mpr c1, Bool.false_and]))
    simp only [c1, Bool.true_and]
    refine Evn.bind (sp_l1Has _ _ hl) ?_
    refine Evn.ite (fun c2 => (Evn.done _).eq_ (by simp only [c2, Bool.not_true, Bool.false_and])) (fun c2 => (ih (i + 1) (by omega)).eq_ (by simp only [Bool.eq_false_iff.mpr c2, Bool.not_false, Bool.true_and]))
theorem sp_l20Good (xs : List Int) (hx : xs.length ≤ 1048576) : Evn (fun k => spec_l20Good.f k xs) (goodNs xs) := sp_l20Good_l0 xs hx xs.length 0 (by omega)

/-! A leg's rules. -/
def okLeg (x : S70) : Bool := decide (0 ≤ x.f0 ∧ x.f0 ≤ 7) && (decide (0 ≤ x.f1 ∧ x.f1 ≤ 7) && (!decide (x.f0 = x.f1) && (decide (1 ≤ x.f2 ∧ x.f2 ≤ 500) && (decide (0 ≤ x.f3 ∧ x.f3 ≤ 359) && decide (-90 ≤ x.f4 ∧ x.f4 ≤ 90)))))
def goodLegs (xs : List S70) : Bool := xs.all okLeg && decide (xs.length ≤ 12)
theorem goodLegs_len {xs : List S70} (h : goodLegs xs = true) : xs.length ≤ 12 := by
  simp only [goodLegs, Bool.and_eq_true, decide_eq_true_eq] at h
  exact h.2
theorem goodLegs_ok {xs : List S70} (h : goodLegs xs = true) (j : Nat) (hj : j < xs.length) : okLeg (xs.getD j z70) = true := by
  simp only [goodLegs, Bool.and_eq_true, List.all_eq_true] at h
  refine h.1 _ ?_
  rw [List.getD_eq_getElem?_getD, List.getElem?_eq_getElem hj]
  exact List.getElem_mem hj
theorem okLeg_in {x : S70} (h : okLeg x = true) : (0 ≤ x.f0 ∧ x.f0 ≤ 7) ∧ (0 ≤ x.f1 ∧ x.f1 ≤ 7) ∧ ¬ x.f0 = x.f1 ∧ (1 ≤ x.f2 ∧ x.f2 ≤ 500) ∧ (0 ≤ x.f3 ∧ x.f3 ≤ 359) ∧ (-90 ≤ x.f4 ∧ x.f4 ≤ 90) := by
  simp only [okLeg, Bool.and_eq_true, decide_eq_true_eq, Bool.not_eq_true', decide_eq_false_iff_not] at h
  exact h
theorem ite_not (c : Prop) [Decidable c] (x : Bool) : (if c then some false else some x) = some (!decide c && x) := by
  by_cases h : c <;> simp [h]

theorem sp_l4Leg (x : S70) : spec_l4Leg.f x.f0 x.f1 x.f2 x.f3 x.f4 = some (okLeg x) := by
  simp only [spec_l4Leg.f, sp_l4Station, spec_l2Bearing.f, sp_l1In, Option.bind_some, ite_and, ite_not, okLeg]

theorem sp_l4Legs_l0 (xs : List S70) (hx : xs.length ≤ 4194304) : ∀ (d i : Nat), i + d = xs.length → Evn (fun k => spec_l4Legs.l0 k xs (i : Int)) ((xs.drop i).all okLeg && decide (xs.length ≤ 12)) := by
  intro d
  induction d with
  | zero =>
    intro i h
    refine Evn.step ?_
    have h1 : ¬ (i : Int) < (xs.length : Int) := by omega
    simp only [spec_l4Legs.l0, if_neg h1]
    rw [List.drop_eq_nil_of_le (by omega)]
    refine (Evn.done _).eq_ ?_
    simp only [List.all_nil, Bool.true_and, decide_eq_decide]
    omega
  | succ d ih =>
    intro i h
    refine Evn.step ?_
    have h1 : (i : Int) < (xs.length : Int) := by omega
    have h2 : 0 ≤ (i : Int) := by omega
    simp only [spec_l4Legs.l0, if_pos h1, if_pos h2, sp_l4Leg, Option.bind_some, wrap_succ (show i < 4611686018427387904 by omega), rd_T70, Int.toNat_natCast]
    rw [getD_drop xs i z70 (by omega), List.all_cons]
    exact Evn.ite (fun c => (ih (i + 1) (by omega)).eq_ (by simp only [c, Bool.true_and])) (fun c => (Evn.done _).eq_ (by simp only [Bool.eq_false_iff.mpr c, Bool.false_and]))
theorem sp_l4Legs (xs : List S70) (hx : xs.length ≤ 4194304) : Evn (fun k => spec_l4Legs.f k xs) (goodLegs xs) := by
  have h := sp_l4Legs_l0 xs hx xs.length 0 (by omega)
  simpa [spec_l4Legs.f, goodLegs] using h

def renL (ys : List Int) (x : S70) : S70 := ⟨ys.getD x.f0.toNat 0, ys.getD x.f1.toNat 0, x.f2, x.f3, x.f4⟩
theorem ren_step {ys : List Int} {zs : List S70} {xs : List S70} {i : Nat} (h : i < xs.length) : zs ++ (xs.drop i).map (renL ys) = (zs ++ [renL ys (xs.getD i z70)]) ++ (xs.drop (i + 1)).map (renL ys) := by
  rw [getD_drop xs i z70 h]; simp
theorem sp_l20Rename (xs : List S70) (ys : List Int) (hg : goodLegs xs = true) (hl : ys.length = 8) : spec_l20Rename.f xs ys = some (xs.map (renL ys)) := by
  have hx := goodLegs_len hg
  unfold spec_l20Rename.f
  rw [if_pos ⟨by omega, fun i hi => by obtain ⟨⟨g1, g2⟩, ⟨g3, g4⟩, _⟩ := okLeg_in (goodLegs_ok hg i hi); omega⟩]
  rfl

theorem sp_l1Most (a b : Int) : spec_l1Most.f a b = some (max a b) := by
  unfold spec_l1Most.f
  split <;> congr 1 <;> omega

def shB (x y : S70) : Bool := (decide (x.f0 = y.f0) && decide (x.f1 = y.f1)) || (decide (x.f0 = y.f1) && decide (x.f1 = y.f0))
theorem shared_form (a b c d : Int) : (if a = c then (if b = d then some true else (if a = d then some (b == c) else some false)) else (if a = d then some (b == c) else some false)) = some ((decide (a = c) && decide (b = d)) || (decide (a = d) && decide (b = c))) := by
  have e : (b == c) = decide (b = c) := rfl
  rw [e]
  by_cases h1 : a = c <;> by_cases h2 : b = d <;> by_cases h3 : a = d <;> simp [h1, h2, h3]
  all_goals (by_cases h4 : c = d <;> simp [h4])

def absI (z : Int) : Int := mx z (wrap64 (-z))
def turnI (a b : Int) : Int := mn (absI (wrap64 (a - b))) (wrap64 (360 - absI (wrap64 (a - b))))
def revL (y : S70) : S70 := ⟨y.f1, y.f0, y.f2, Int.tmod (wrap64 (y.f3 + 180)) 360, wrap64 (-y.f4)⟩
def agB (x y : S70) (g t : Int) : Bool := decide (turnI x.f3 y.f3 ≤ g) && (decide (absI (wrap64 (x.f4 - y.f4)) ≤ g) && decide (absI (wrap64 (x.f2 - y.f2)) ≤ t))
def agreeB (x y : S70) (g t : Int) : Bool := if y.f0 = x.f0 then agB x y g t else agB x (revL y) g t

theorem sp_TurnBetween (a b : Int) (ha : 0 ≤ a ∧ a ≤ 359) (hb : 0 ≤ b ∧ b ≤ 359) : spec_TurnBetween.f a b = some (turnI a b, true) := by
  simp only [spec_TurnBetween.f, spec_l2Bearing.f, sp_l1In, Option.bind_some, decide_eq_true ha, decide_eq_true hb, if_true]
  unfold turnI absI mn mx
  have e1 : wrap64 (a - b) = a - b := wrap_id (by omega) (by omega)
  rw [e1]
  clear e1
  have e2 : wrap64 (a - b + 360) = a - b + 360 := wrap_id (by omega) (by omega)
  have e3 : wrap64 (-(a - b)) = -(a - b) := wrap_id (by clear e2; omega) (by clear e2; omega)
  rw [e2, e3, Int.tmod_eq_emod_of_nonneg (by clear e2 e3; omega)]
  clear e2 e3
  have hm : 0 ≤ (a - b + 360) % 360 ∧ (a - b + 360) % 360 < 360 := by omega
  have e4 : wrap64 (360 - (a - b + 360) % 360) = 360 - (a - b + 360) % 360 := wrap_id (by omega) (by omega)
  rw [e4]
  clear e4
  have hs : ∀ z : Int, 0 ≤ z → z ≤ 359 → wrap64 (360 - z) = 360 - z := fun z _ _ => wrap_id (by omega) (by omega)
  unfold spec_l1Least.f
  by_cases h : a - b < -(a - b)
  · rw [if_pos h, hs _ (by clear hs; omega) (by clear hs; omega)]
    clear hs
    have e5 : (a - b + 360) % 360 = a - b + 360 := by omega
    rw [e5]
    split <;> split <;> simp only [Option.bind_some, Option.some.injEq, Prod.mk.injEq, and_true] <;> omega
  · rw [if_neg h, hs _ (by clear hs; omega) (by clear hs; omega)]
    clear hs
    have e5 : (a - b + 360) % 360 = a - b := by omega
    rw [e5]
    split <;> split <;> simp only [Option.bind_some, Option.some.injEq, Prod.mk.injEq, and_true] <;> omega
theorem most_abs (a b : Int) (h : -1000 ≤ a ∧ a ≤ 1000) (h' : -1000 ≤ b ∧ b ≤ 1000) : spec_l1Most.f (wrap64 (a - b)) (wrap64 (b - a)) = some (absI (wrap64 (a - b))) := by
  have e1 : wrap64 (a - b) = a - b := wrap_id (by omega) (by omega)
  have e2 : wrap64 (b - a) = b - a := wrap_id (by clear e1; omega) (by clear e1; omega)
  have e3 : wrap64 (-(a - b)) = -(a - b) := wrap_id (by clear e1 e2; omega) (by clear e1 e2; omega)
  unfold spec_l1Most.f absI mx
  rw [e1, e2, e3]
  clear e1 e2 e3
  split <;> split <;> simp only [Option.some.injEq] <;> omega
theorem sp_agree_end (x z : S70) (g t : Int) (h3 : 0 ≤ x.f3 ∧ x.f3 ≤ 359) (h4 : -90 ≤ x.f4 ∧ x.f4 ≤ 90) (h2 : 1 ≤ x.f2 ∧ x.f2 ≤ 500) (k3 : 0 ≤ z.f3 ∧ z.f3 ≤ 359) (k4 : -90 ≤ z.f4 ∧ z.f4 ≤ 90) (k2 : 1 ≤ z.f2 ∧ z.f2 ≤ 500) :
    Evn (fun k => spec_DoAgree.j3 k g t false x.f0 x.f1 x.f2 x.f3 x.f4 z.f0 z.f1 z.f2 z.f3 z.f4) (agB x z g t, true) := by
  refine Evn.step ?_
  simp only [spec_DoAgree.j3, Bool.false_eq_true, if_false, sp_TurnBetween _ _ h3 k3, most_abs x.f4 z.f4 (by omega) (by omega), most_abs x.f2 z.f2 (by omega) (by omega), Option.bind_some]
  unfold agB
  refine Evn.ite (fun c1 => Evn.ite (fun c2 => ?_) (fun c2 => ?_)) (fun c1 => ?_)
  · rw [decide_eq_true c1, decide_eq_true c2, Bool.true_and, Bool.true_and]; exact Evn.done _
  · rw [decide_eq_false c2, Bool.false_and, Bool.and_false]; exact Evn.done _
  · rw [decide_eq_false c1, Bool.false_and]; exact Evn.done _
theorem rev_ok {y : S70} (h3 : 0 ≤ y.f3 ∧ y.f3 ≤ 359) (h4 : -90 ≤ y.f4 ∧ y.f4 ≤ 90) : (0 ≤ (revL y).f3 ∧ (revL y).f3 ≤ 359) ∧ (-90 ≤ (revL y).f4 ∧ (revL y).f4 ≤ 90) := by
  unfold revL
  dsimp only
  have e2 : wrap64 (y.f3 + 180) = y.f3 + 180 := wrap_id (by omega) (by omega)
  have e3 : wrap64 (-y.f4) = -y.f4 := wrap_id (by clear e2; omega) (by clear e2; omega)
  rw [e2, e3, Int.tmod_eq_emod_of_nonneg (by clear e2 e3; omega)]
  clear e2 e3
  omega
theorem sp_DoAgree (x y : S70) (g t : Int) (hx : okLeg x = true) (hy : okLeg y = true) (hg : 0 ≤ g) (ht : 0 ≤ t) :
    Evn (fun k => spec_DoAgree.f k x.f0 x.f1 x.f2 x.f3 x.f4 y.f0 y.f1 y.f2 y.f3 y.f4 g t) (if shB x y = true then (agreeB x y g t, true) else (false, false)) := by
  obtain ⟨_, _, hn, h2, h3, h4⟩ := okLeg_in hx
  obtain ⟨_, _, hm, k2, k3, k4⟩ := okLeg_in hy
  obtain ⟨r3, r4⟩ := rev_ok k3 k4
  have hg' : ¬ g < 0 := by omega
  have ht' : decide (t < 0) = false := decide_eq_false (by omega)
  simp only [spec_DoAgree.f, sp_l4Leg, hx, hy, if_true, Option.bind_some, if_neg hg', ht']
  refine Evn.step ?_
  simp only [spec_DoAgree.j0, Bool.false_eq_true, if_false]
  have tail : ¬ (x.f0 = y.f1 ∧ x.f1 = y.f0) → Evn (fun k => spec_DoAgree.j2 k g t x.f0 x.f1 x.f2 x.f3 x.f4 y.f0 y.f1 y.f2 y.f3 y.f4) (if shB x y = true then (agreeB x y g t, true) else (false, false)) := by
    intro hr
    refine Evn.step ?_
    simp only [spec_DoAgree.j2]
    by_cases c1 : x.f0 = y.f0
    · simp only [if_pos c1]
      by_cases c2 : x.f1 = y.f1
      · have e1 : (x.f1 != y.f1) = false := bne_eq_false_iff_eq.2 c2
        have e2 : shB x y = true := by unfold shB; rw [decide_eq_true c1, decide_eq_true c2]; rfl
        have e3 : agreeB x y g t = agB x y g t := by unfold agreeB; rw [if_pos c1.symm]
        rw [e1, e2, if_pos rfl, e3]
        exact sp_agree_end x y g t h3 h4 h2 k3 k4 k2
      · have e1 : (x.f1 != y.f1) = true := bne_iff_ne.2 c2
        have e2 : shB x y = false := by
          unfold shB
          rw [decide_eq_false c2, Bool.and_false, Bool.false_or]
          by_cases c3 : x.f0 = y.f1
          · rw [decide_eq_false (fun h => hr ⟨c3, h⟩), Bool.and_false]
          · rw [decide_eq_false c3, Bool.false_and]
        rw [e1, e2, if_neg (by decide)]
        refine Evn.step ?_
        simp only [spec_DoAgree.j3, if_true]
        exact Evn.done _
    · simp only [if_neg c1]
      have e2 : shB x y = false := by
        unfold shB
        rw [decide_eq_false c1, Bool.false_and, Bool.false_or]
        by_cases c3 : x.f0 = y.f1
        · rw [decide_eq_false (fun h => hr ⟨c3, h⟩), Bool.and_false]
        · rw [decide_eq_false c3, Bool.false_and]
      rw [e2, if_neg (by decide)]
      refine Evn.step ?_
      simp only [spec_DoAgree.j3, if_true]
      exact Evn.done _
  refine Evn.ite (fun c1 => Evn.step ?_) (fun c1 => Evn.step ?_)
  · simp only [spec_DoAgree.j1]
    refine Evn.ite (fun c2 => ?_) (fun c2 => ?_)
    · have c3 : x.f1 = y.f0 := beq_iff_eq.1 c2
      simp only [spec_l4Reverse.f, Option.bind_some]
      have e2 : shB x y = true := by unfold shB; rw [decide_eq_true c1, decide_eq_true c3, Bool.and_self, Bool.or_true]
      have e3 : agreeB x y g t = agB x (revL y) g t := by unfold agreeB; rw [if_neg (by omega)]
      rw [e2, if_pos rfl, e3]
      refine Evn.step ?_
      simp only [spec_DoAgree.j2, if_pos c1]
      have e1 : (x.f1 != y.f0) = false := bne_eq_false_iff_eq.2 c3
      rw [e1]
      exact sp_agree_end x (revL y) g t h3 h4 h2 r3 r4 k2
    · exact tail (fun h => c2 (beq_iff_eq.2 h.2))
  · simp only [spec_DoAgree.j1, Bool.false_eq_true, if_false]
    exact tail (fun h => c1 h.1)

def hit (xs : List S70) (y : S70) : Bool := xs.any fun x => shB x y && agreeB x y 0 0
def sc (xs : List S70) : List S70 → Int
  | [] => 0
  | y :: l => (if hit xs y = true then 1 else 0) + sc xs l
theorem sc_le (xs : List S70) : ∀ l, 0 ≤ sc xs l ∧ sc xs l ≤ l.length := by
  intro l
  induction l with
  | nil => exact ⟨Int.le_refl _, Int.le_refl _⟩
  | cons y l ih =>
    rw [sc, List.length_cons]
    split <;> omega
theorem goodNs_ne {ys : List Int} (h : goodNs ys = true) {i j : Nat} (hij : i < j) (hj : j < ys.length) : ys.getD i 0 ≠ ys.getD j 0 := by
  intro e
  have h1 := goodNs_new h j hj
  rw [← e] at h1
  have hm : ys.getD i 0 ∈ ys.take j := by
    refine List.mem_iff_getElem?.2 ⟨i, ?_⟩
    rw [List.getElem?_take_of_lt hij, List.getD_eq_getElem?_getD, List.getElem?_eq_getElem (by omega)]
    rfl
  rw [List.contains_eq_mem, decide_eq_false_iff_not] at h1
  exact h1 hm
theorem ren_ok {ys : List Int} (h : goodNs ys = true) {x : S70} (hx : okLeg x = true) : okLeg (renL ys x) = true := by
  obtain ⟨⟨a1, a2⟩, ⟨b1, b2⟩, hn, h2, h3, h4⟩ := okLeg_in hx
  have hl := goodNs_len h
  have g0 := goodNs_in h x.f0.toNat (by omega)
  have g1 := goodNs_in h x.f1.toNat (by omega)
  have hne : ys.getD x.f0.toNat 0 ≠ ys.getD x.f1.toNat 0 := by
    rcases Nat.lt_or_ge x.f0.toNat x.f1.toNat with hc | hc
    · exact goodNs_ne h hc (by omega)
    · exact (goodNs_ne h (show x.f1.toNat < x.f0.toNat by omega) (by omega)).symm
  unfold okLeg renL
  dsimp only
  rw [decide_eq_true g0, decide_eq_true g1, decide_eq_false hne, decide_eq_true h2, decide_eq_true h3, decide_eq_true h4]
  rfl

theorem sp_l20Score_l1 (xs ys : List S70) (hx : goodLegs xs = true) (hy : ∀ y ∈ ys, okLeg y = true) (i : Nat) (hi : i < ys.length) (m : Int) (R : Int)
    (r1 : Evn (fun k => spec_l20Score.l0 k xs ys (wrap64 (m + 1)) ((i + 1 : Nat) : Int)) (1 + R)) (r0 : Evn (fun k => spec_l20Score.l0 k xs ys m ((i + 1 : Nat) : Int)) R) (hil : ys.length ≤ 4194304) :
    ∀ (d j : Nat) (f : Bool), j + d = xs.length → Evn (fun k => spec_l20Score.l1 k xs ys m (i : Int) f (j : Int)) ((if (f || (xs.drop j).any fun x => shB x (ys.getD i z70) && agreeB x (ys.getD i z70) 0 0) = true then 1 else 0) + R) := by
  have hxl := goodLegs_len hx
  have hyi : okLeg (ys.getD i z70) = true := by
    refine hy _ ?_
    rw [List.getD_eq_getElem?_getD, List.getElem?_eq_getElem hi]
    exact List.getElem_mem hi
  have hw := wrap_succ (show i < 4611686018427387904 by omega)
  intro d
  induction d with
  | zero =>
    intro j f h
    refine Evn.step ?_
    have h1 : ¬ (j : Int) < (xs.length : Int) := by clear hw; omega
    rw [List.drop_eq_nil_of_le (by clear hw; omega), List.any_nil, Bool.or_false]
    simp only [spec_l20Score.l1, if_neg h1, hw]
    refine Evn.ite (fun c => ?_) (fun c => ?_)
    · rw [if_pos c]; exact r1
    · rw [if_neg c]; exact r0.eq_ (by omega)
  | succ d ih =>
    intro j f h
    have h1 : (j : Int) < (xs.length : Int) := by clear hw; omega
    have h2 : 0 ≤ (j : Int) := by omega
    have h3 : 0 ≤ (i : Int) := by omega
    have h4 : (i : Int) < (ys.length : Int) := by clear hw; omega
    have hwj := wrap_succ (show j < 4611686018427387904 by clear hw; omega)
    refine Evn.step ?_
    rw [getD_drop xs j z70 (by clear hw hwj; omega), List.any_cons]
    simp only [spec_l20Score.l1, if_pos h1, if_pos h2, if_pos h3, if_pos h4, rd_T70, Int.toNat_natCast, hwj]
    refine Evn.bind (sp_DoAgree (xs.getD j z70) (ys.getD i z70) 0 0 (goodLegs_ok hx j (by clear hw hwj; omega)) hyi (by decide) (by decide)) ?_
    have e1 : (if shB (xs.getD j z70) (ys.getD i z70) = true then (agreeB (xs.getD j z70) (ys.getD i z70) 0 0, true) else (false, false)).1 = (shB (xs.getD j z70) (ys.getD i z70) && agreeB (xs.getD j z70) (ys.getD i z70) 0 0) := by
      split
      · rename_i c; rw [c, Bool.true_and]
      · rename_i c; rw [Bool.eq_false_iff.mpr c, Bool.false_and]
    rw [e1]
    refine Evn.ite (fun c => ?_) (fun c => ?_)
    · have h5 := ih (j + 1) true (by clear hw hwj; omega)
      rw [c, Bool.true_or]
      rw [Bool.true_or] at h5
      exact h5
    · have h5 := ih (j + 1) (shB (xs.getD j z70) (ys.getD i z70) && agreeB (xs.getD j z70) (ys.getD i z70) 0 0) (by clear hw hwj; omega)
      rw [Bool.eq_false_iff.mpr c, Bool.false_or]
      exact h5
theorem sp_l20Score_l0 (xs ys : List S70) (hx : goodLegs xs = true) (hy : ∀ y ∈ ys, okLeg y = true) (hil : ys.length ≤ 4194304) : ∀ (d i : Nat) (m : Int), i + d = ys.length → 0 ≤ m → m ≤ i → Evn (fun k => spec_l20Score.l0 k xs ys m (i : Int)) (m + sc xs (ys.drop i)) := by
  intro d
  induction d with
  | zero =>
    intro i m h _ _
    refine Evn.step ?_
    have h1 : ¬ (i : Int) < (ys.length : Int) := by omega
    simp only [spec_l20Score.l0, if_neg h1]
    rw [List.drop_eq_nil_of_le (by omega), sc, Int.add_zero]
    exact Evn.done _
  | succ d ih =>
    intro i m h h0 hm
    have h1 : (i : Int) < (ys.length : Int) := by omega
    have hw : wrap64 (m + 1) = m + 1 := wrap_id (by omega) (by omega)
    refine Evn.step ?_
    rw [getD_drop ys i z70 (by clear hw; omega), sc]
    simp only [spec_l20Score.l0, if_pos h1]
    have h2 := sp_l20Score_l1 xs ys hx hy i (by clear hw; omega) m (m + sc xs (ys.drop (i + 1))) (by rw [hw]; exact (ih (i + 1) (m + 1) (by clear hw; omega) (by clear hw; omega) (by clear hw; omega)).eq_ (by clear hw; omega)) (ih (i + 1) m (by clear hw; omega) (by clear hw; omega) (by clear hw; omega)) hil xs.length 0 false (by omega)
    rw [List.drop_zero, Bool.false_or] at h2
    refine h2.eq_ ?_
    unfold hit
    clear hw
    omega
theorem sp_l20Score (xs ys : List S70) (hx : goodLegs xs = true) (hy : ∀ y ∈ ys, okLeg y = true) (hil : ys.length ≤ 4194304) : Evn (fun k => spec_l20Score.f k xs ys) (sc xs ys) := by
  have h := sp_l20Score_l0 xs ys hx hy hil ys.length 0 0 (by omega) (by omega) (by omega)
  rw [List.drop_zero] at h
  unfold spec_l20Score.f
  exact h.eq_ (by omega)

def perm8 (rs : List Int) : Prop := rs.length = 8 ∧ (∀ i, i < 8 → 0 ≤ rs.getD i 0 ∧ rs.getD i 0 ≤ 7) ∧ ∀ i j, i < j → j < 8 → rs.getD i 0 ≠ rs.getD j 0
theorem perm8_good {rs : List Int} (h : goodNs rs = true) : perm8 rs := by
  have hl := goodNs_len h
  exact ⟨hl, fun i hi => goodNs_in h i (by omega), fun i j hij hj => goodNs_ne h hij (by omega)⟩
theorem ren_ok8 {rs : List Int} (h : perm8 rs) {x : S70} (hx : okLeg x = true) : okLeg (renL rs x) = true := by
  obtain ⟨⟨a1, a2⟩, ⟨b1, b2⟩, hn, h2, h3, h4⟩ := okLeg_in hx
  have g0 := h.2.1 x.f0.toNat (by omega)
  have g1 := h.2.1 x.f1.toNat (by omega)
  have hne : rs.getD x.f0.toNat 0 ≠ rs.getD x.f1.toNat 0 := by
    rcases Nat.lt_or_ge x.f0.toNat x.f1.toNat with hc | hc
    · exact h.2.2 _ _ hc (by omega)
    · exact (h.2.2 x.f1.toNat x.f0.toNat (by omega) (by omega)).symm
  unfold okLeg renL
  dsimp only
  rw [decide_eq_true g0, decide_eq_true g1, decide_eq_false hne, decide_eq_true h2, decide_eq_true h3, decide_eq_true h4]
  rfl
theorem ren_all8 {rs : List Int} (h : perm8 rs) {ys : List S70} (hy : goodLegs ys = true) : ∀ y ∈ ys.map (renL rs), okLeg y = true := by
  intro y hm
  obtain ⟨x, hx, rfl⟩ := List.mem_map.1 hm
  refine ren_ok8 h ?_
  simp only [goodLegs, Bool.and_eq_true, List.all_eq_true] at hy
  exact hy.1 x hx
def swapL (rs : List Int) (i j : Nat) : List Int := (rs.set i (rs.getD j 0)).set j (rs.getD i 0)
theorem swapL_len (rs : List Int) (i j : Nat) : (swapL rs i j).length = rs.length := by unfold swapL; rw [List.length_set, List.length_set]
theorem getD_set_ (l : List Int) (i k : Nat) (v : Int) (hi : i < l.length) : (l.set i v).getD k 0 = if k = i then v else l.getD k 0 := by
  rw [List.getD_eq_getElem?_getD, List.getElem?_set, List.getD_eq_getElem?_getD]
  by_cases h : i = k
  · rw [if_pos h, if_pos h.symm, if_pos hi]; rfl
  · rw [if_neg h, if_neg (fun e => h e.symm)]
theorem swapL_getD (rs : List Int) (i j k : Nat) (hi : i < rs.length) (hj : j < rs.length) : (swapL rs i j).getD k 0 = if k = j then rs.getD i 0 else if k = i then rs.getD j 0 else rs.getD k 0 := by
  unfold swapL
  rw [getD_set_ _ j k _ (by rw [List.length_set]; exact hj), getD_set_ rs i k _ hi]
theorem perm8_swap {rs : List Int} (h : perm8 rs) {i j : Nat} (hi : i < 8) (hj : j < 8) : perm8 (swapL rs i j) := by
  obtain ⟨hl, hr, hn⟩ := h
  have hne : ∀ a b, a < 8 → b < 8 → a ≠ b → rs.getD a 0 ≠ rs.getD b 0 := by
    intro a b ha hb hab
    rcases Nat.lt_or_ge a b with hc | hc
    · exact hn a b hc hb
    · exact (hn b a (by omega) ha).symm
  refine ⟨by rw [swapL_len]; exact hl, fun k hk => ?_, fun a b hab hb => ?_⟩
  · rw [swapL_getD rs i j k (by omega) (by omega)]
    split
    · exact hr i hi
    · split
      · exact hr j hj
      · exact hr k hk
  · rw [swapL_getD rs i j a (by omega) (by omega), swapL_getD rs i j b (by omega) (by omega)]
    repeat' split
    all_goals first | exact hne _ _ (by omega) (by omega) (by omega) | (exfalso; omega)
def better (b : List Int × Int) (own : List Int) (s : Int) : List Int × Int := if s > b.2 then (own, s) else b
def impJ (xs ys : List S70) (rs : List Int) (i : Nat) : Nat → Nat → List Int × Int → List Int × Int
  | 0, _, b => b
  | d + 1, j, b => impJ xs ys rs i d (j + 1) (better b (swapL rs i j) (sc xs (ys.map (renL (swapL rs i j)))))
def impI (xs ys : List S70) (rs : List Int) : Nat → Nat → List Int × Int → List Int × Int
  | 0, _, b => b
  | d + 1, i, b => impI xs ys rs d (i + 1) (impJ xs ys rs i (8 - (i + 1)) (i + 1) b)
def impTs (xs ys : List S70) (rs : List Int) : List Int × Int × Bool :=
  if goodLegs xs = true ∧ goodLegs ys = true ∧ goodNs rs = true then ((impI xs ys rs 8 0 (rs, sc xs (ys.map (renL rs)))).1, (impI xs ys rs 8 0 (rs, sc xs (ys.map (renL rs)))).2, true) else ([], 0, false)
theorem impJ_len (xs ys : List S70) (rs : List Int) (i : Nat) : ∀ d j b, b.1.length = rs.length → (impJ xs ys rs i d j b).1.length = rs.length := by
  intro d
  induction d with
  | zero => intro j b h; exact h
  | succ d ih =>
    intro j b h
    refine ih (j + 1) _ ?_
    unfold better
    split
    · exact swapL_len rs i j
    · exact h
theorem impI_len (xs ys : List S70) (rs : List Int) : ∀ d i b, b.1.length = rs.length → (impI xs ys rs d i b).1.length = rs.length := by
  intro d
  induction d with
  | zero => intro i b h; exact h
  | succ d ih => intro i b h; exact ih (i + 1) _ (impJ_len xs ys rs i _ _ b h)

theorem sp_l1Own (l : List Int) (h : l.length ≤ 4194304) : spec_l1Own.f l = some l := by
  unfold spec_l1Own.f
  simp only [Option.bind_some, List.length_nil, List.nil_append]
  rw [if_pos (by omega)]
theorem sp_Improve_l1 (xs ys : List S70) (rs : List Int) (hx : goodLegs xs = true) (hy : goodLegs ys = true) (hp : perm8 rs) (i : Nat) (hi : i < 8) (R : List Int × Int → List Int × Int × Bool)
    (hrest : ∀ (b : List Int) (m : Int), Evn (fun k => spec_ImproveRenaming.l0 k xs ys rs b m ((i + 1 : Nat) : Int)) (R (b, m))) :
    ∀ (d j : Nat) (b : List Int) (m : Int), j + d = 8 → i < j → Evn (fun k => spec_ImproveRenaming.l1 k xs ys rs b m (i : Int) (j : Int)) (R (impJ xs ys rs i d j (b, m))) := by
  have hl := hp.1
  have hyl := goodLegs_len hy
  intro d
  induction d with
  | zero =>
    intro j b m h hij
    refine Evn.step ?_
    have h1 : ¬ (j : Int) < (rs.length : Int) := by omega
    simp only [spec_ImproveRenaming.l1, if_neg h1, wrap_succ (show i < 4611686018427387904 by omega), impJ]
    exact hrest b m
  | succ d ih =>
    intro j b m h hij
    have h1 : (j : Int) < (rs.length : Int) := by omega
    have h2 : 0 ≤ (j : Int) := by omega
    have h3 : 0 ≤ (i : Int) := by omega
    have h4 : (i : Int) < (rs.length : Int) := by omega
    have hp2 := perm8_swap hp hi (show j < 8 by omega)
    have hw := wrap_succ (show j < 4611686018427387904 by omega)
    refine Evn.step ?_
    simp only [spec_ImproveRenaming.l1, if_pos h1, sp_l1Own rs (by omega), Option.bind_some, if_pos h2, if_pos h3, if_pos h4, rd, Int.toNat_natCast, hw]
    clear hw
    have hr := sp_l20Rename ys (swapL rs i j) hy hp2.1
    unfold swapL at hr
    simp only [hr, Option.bind_some]
    refine Evn.bind (sp_l20Score xs (ys.map (renL (swapL rs i j))) hx (ren_all8 hp2 hy) (by rw [List.length_map]; omega)) ?_
    unfold impJ better
    refine Evn.ite (fun c => ?_) (fun c => ?_)
    · rw [if_pos c]; exact ih (j + 1) _ _ (by omega) (by omega)
    · rw [if_neg c]; exact ih (j + 1) b m (by omega) (by omega)
theorem sp_Improve_l0 (xs ys : List S70) (rs : List Int) (hx : goodLegs xs = true) (hy : goodLegs ys = true) (hp : perm8 rs) :
    ∀ (d i : Nat) (b : List Int) (m : Int), i + d = 8 → Evn (fun k => spec_ImproveRenaming.l0 k xs ys rs b m (i : Int)) ((impI xs ys rs d i (b, m)).1, (impI xs ys rs d i (b, m)).2, true) := by
  have hl := hp.1
  intro d
  induction d with
  | zero =>
    intro i b m h
    refine Evn.step ?_
    have h1 : ¬ (i : Int) < (rs.length : Int) := by omega
    simp only [spec_ImproveRenaming.l0, if_neg h1, impI]
    exact Evn.done _
  | succ d ih =>
    intro i b m h
    have h1 : (i : Int) < (rs.length : Int) := by omega
    refine Evn.step ?_
    simp only [spec_ImproveRenaming.l0, if_pos h1, wrap_succ (show i < 4611686018427387904 by omega), impI]
    exact sp_Improve_l1 xs ys rs hx hy hp i (by omega) (fun p => ((impI xs ys rs d (i + 1) p).1, (impI xs ys rs d (i + 1) p).2, true)) (fun b m => ih (i + 1) b m (by omega)) (8 - (i + 1)) (i + 1) b m (by omega) (by omega)
theorem sp_ImproveRenaming (xs ys : List S70) (rs : List Int) (hx : xs.length ≤ 4194304) (hy : ys.length ≤ 4194304) (hr : rs.length ≤ 1048576) : Evn (fun k => spec_ImproveRenaming.f k xs ys rs) (impTs xs ys rs) := by
  unfold spec_ImproveRenaming.f impTs
  have no : ¬ (goodLegs xs = true ∧ goodLegs ys = true ∧ goodNs rs = true) → Evn (fun k => spec_ImproveRenaming.j0 k xs ys rs true) (if goodLegs xs = true ∧ goodLegs ys = true ∧ goodNs rs = true then ((impI xs ys rs 8 0 (rs, sc xs (ys.map (renL rs)))).1, (impI xs ys rs 8 0 (rs, sc xs (ys.map (renL rs)))).2, true) else ([], 0, false)) := by
    intro h
    rw [if_neg h]
    refine Evn.step ?_
    simp only [spec_ImproveRenaming.j0, if_true]
    exact Evn.done _
  refine Evn.bind (sp_l4Legs xs hx) ?_
  refine Evn.ite (fun c1 => ?_) (fun c1 => no (fun h => c1 h.1))
  refine Evn.bind (sp_l4Legs ys hy) ?_
  refine Evn.ite (fun c2 => ?_) (fun c2 => no (fun h => c2 h.2.1))
  refine Evn.bind (sp_l20Good rs hr) ?_
  by_cases c3 : goodNs rs = true
  · rw [if_pos ⟨c1, c2, c3⟩]
    have hp := perm8_good c3
    simp only [c3, Bool.not_true]
    refine Evn.step ?_
    simp only [spec_ImproveRenaming.j0, Bool.false_eq_true, if_false, sp_l20Rename ys rs c2 (goodNs_len c3), sp_l1Own rs (by omega), Option.bind_some]
    refine Evn.bind (sp_l20Score xs (ys.map (renL rs)) c1 (ren_all8 hp c2) (by rw [List.length_map]; exact hy)) ?_
    exact sp_Improve_l0 xs ys rs c1 c2 hp 8 0 rs _ (by omega)
  · have e : (!goodNs rs) = true := by rw [Bool.eq_false_iff.mpr c3]; rfl
    simp only [e]
    exact no (fun h => c3 h.2.2)

theorem im_within (x y z : Int) : impl_within.f x y z = some (decide (y ≤ x ∧ x ≤ z)) := by
  unfold impl_within.f
  by_cases h : x ≥ y <;> simp [h] <;> omega

theorem im_isStation (x : Int) : impl_isStation.f x = some (decide (0 ≤ x ∧ x ≤ 7)) := by
  simp only [impl_isStation.f, im_within, Option.bind_some]

def idxI (xs : List Int) (v : Int) : Nat → Int → Int
  | 0, _ => -1
  | d + 1, i => if v = xs.getD i.toNat 0 then i else idxI xs v d (i + 1)
theorem idxI_has (xs : List Int) (v : Int) : ∀ (d i : Nat), i + d = xs.length → decide (idxI xs v d (i : Int) ≥ 0) = (xs.drop i).contains v := by
  intro d
  induction d with
  | zero => intro i h; rw [List.drop_eq_nil_of_le (by omega)]; simp [idxI]
  | succ d ih =>
    intro i h
    rw [getD_drop xs i 0 (by omega), List.contains_cons]
    unfold idxI
    rw [Int.toNat_natCast]
    by_cases c : v = xs.getD i 0
    · rw [if_pos c, ← c]; simp
    · rw [if_neg c, show (v == xs.getD i 0) = false from by simpa using c, Bool.false_or]
      exact ih (i + 1) (by omega)
theorem li_Index_l0 (xs : List Int) (v : Int) (hx : xs.length ≤ 4194304) : ∀ (d i : Nat), i + d = xs.length → Evn (fun k => slices_Index_int_int.l0 k xs v (xs.length : Int) (i : Int)) (idxI xs v d (i : Int)) := by
  intro d
  induction d with
  | zero =>
    intro i h
    refine Evn.step ?_
    have h1 : ¬ (i : Int) < (xs.length : Int) := by omega
    simp only [slices_Index_int_int.l0, if_neg h1]
    exact Evn.done _
  | succ d ih =>
    intro i h
    refine Evn.step ?_
    have h1 : (i : Int) < (xs.length : Int) := by omega
    have h2 : 0 ≤ (i : Int) := by omega
    simp only [slices_Index_int_int.l0, if_pos h1, if_pos h2, rd, wrap_succ (show i < 4611686018427387904 by omega), idxI]
    refine Evn.ite (fun c => (Evn.done _).eq_ ?_) (fun c => (ih (i + 1) (by omega)).eq_ ?_)
    · rw [if_pos c]
    · rw [if_neg c]; rfl

theorem im_has (xs : List Int) (v : Int) (hx : xs.length ≤ 4194304) : Evn (fun k => impl_has.f k xs v) (xs.contains v) := by
  unfold impl_has.f slices_Contains_int_int.f slices_Index_int_int.f
  refine Evn.bind (Evn.bind (li_Index_l0 xs v hx xs.length 0 (by omega)) (Evn.done _)) ?_
  refine (Evn.done _).eq_ ?_
  have h := idxI_has xs v xs.length 0 (by omega)
  simpa using h

theorem im_IsRenaming_l0 (xs : List Int) (hx : xs.length ≤ 1048576) : ∀ (d i : Nat), i + d = xs.length → Evn (fun k => impl_IsRenaming.l0 k xs xs (xs.length : Int) (i : Int)) (goodN xs d i) := by
  intro d
  induction d with
  | zero =>
    intro i h
    refine Evn.step ?_
    have h1 : ¬ (i : Int) < (xs.length : Int) := by omega
    simp only [impl_IsRenaming.l0, if_neg h1, goodN]
    exact Evn.done _
  | succ d ih =>
    intro i h
    refine Evn.step ?_
    have h1 : (i : Int) < (xs.length : Int) := by omega
    have h2 : 0 ≤ (i : Int) := by omega
    have h3 : (i : Int) ≤ (xs.length : Int) := by omega
    have hl : (xs.take i).length ≤ 4194304 := by rw [List.length_take]; omega
    simp only [impl_IsRenaming.l0, if_pos h1, if_pos h2, if_pos h3, im_isStation, rd, Int.toNat_natCast, Option.bind_some, wrap_succ (show i < 4611686018427387904 by omega), goodN]
    refine Evn.ite (fun c1 => ?_) (fun c1 => (Evn.done _).eq_ (by simp only [Bool.eq_false_iff.mpr c1, Bool.false_and]))
    simp only [c1, Bool.true_and]
    refine Evn.bind (im_has _ _ hl) ?_
    refine Evn.ite (fun c2 => (Evn.done _).eq_ (by simp only [c2, Bool.not_true, Bool.false_and])) (fun c2 => (ih (i + 1) (by omega)).eq_ (by simp only [Bool.eq_false_iff.mpr c2, Bool.not_false, Bool.true_and]))
theorem im_IsRenaming (xs : List Int) (hx : xs.length ≤ 1048576) : Evn (fun k => impl_IsRenaming.f k xs) (goodNs xs) := im_IsRenaming_l0 xs hx xs.length 0 (by omega)

theorem im_IsLeg (x : S70) : impl_IsLeg.f x.f0 x.f1 x.f2 x.f3 x.f4 = some (okLeg x) := by
  simp only [impl_IsLeg.f, im_isStation, impl_isBearing.f, im_within, Option.bind_some, ite_and, ite_not, okLeg]

theorem im_areLegs_l0 (xs : List S70) (hx : xs.length ≤ 4194304) : ∀ (d i : Nat), i + d = xs.length → Evn (fun k => impl_areLegs.l0 k xs xs (xs.length : Int) (i : Int)) ((xs.drop i).all okLeg && decide (xs.length ≤ 12)) := by
  intro d
  induction d with
  | zero =>
    intro i h
    refine Evn.step ?_
    have h1 : ¬ (i : Int) < (xs.length : Int) := by omega
    simp only [impl_areLegs.l0, if_neg h1]
    rw [List.drop_eq_nil_of_le (by omega)]
    refine (Evn.done _).eq_ ?_
    simp only [List.all_nil, Bool.true_and, decide_eq_decide]
    omega
  | succ d ih =>
    intro i h
    refine Evn.step ?_
    have h1 : (i : Int) < (xs.length : Int) := by omega
    have h2 : 0 ≤ (i : Int) := by omega
    simp only [impl_areLegs.l0, if_pos h1, if_pos h2, im_IsLeg, Option.bind_some, wrap_succ (show i < 4611686018427387904 by omega), rd_T70, Int.toNat_natCast]
    rw [getD_drop xs i z70 (by omega), List.all_cons]
    exact Evn.ite (fun c => (ih (i + 1) (by omega)).eq_ (by simp only [c, Bool.true_and])) (fun c => (Evn.done _).eq_ (by simp only [Bool.eq_false_iff.mpr c, Bool.false_and]))
theorem im_areLegs (xs : List S70) (hx : xs.length ≤ 4194304) : Evn (fun k => impl_areLegs.f k xs) (goodLegs xs) := by
  have h := im_areLegs_l0 xs hx xs.length 0 (by omega)
  simpa [impl_areLegs.f, goodLegs] using h

theorem im_joins (x y : S70) : impl_joins.f x.f0 x.f1 x.f2 x.f3 x.f4 y.f0 y.f1 y.f2 y.f3 y.f4 = some (shB x y) := by
  unfold impl_joins.f
  exact shared_form x.f0 x.f1 y.f0 y.f1

theorem im_absolute (a : Int) (h : -9223372036854775807 ≤ a) (h' : a ≤ 9223372036854775807) : impl_absolute.f a = some ((a.natAbs : Nat) : Int) := by
  unfold impl_absolute.f
  rw [wrap_id (by omega) (by omega)]
  unfold mx
  congr 1
  omega

theorem im_agree (x y : S70) (g t : Int) : impl_agree.f x.f0 x.f1 x.f2 x.f3 x.f4 y.f0 y.f1 y.f2 y.f3 y.f4 g t = some (agreeB x y g t) := by
  simp only [impl_agree.f, impl_turn.f, impl_absolute.f, impl_Leg_reverse.f, impl_back.f, Option.bind_some]
  unfold agreeB
  split
  · unfold agB turnI absI
    by_cases c1 : mn (mx (wrap64 (x.f3 - y.f3)) (wrap64 (-wrap64 (x.f3 - y.f3)))) (wrap64 (360 - mx (wrap64 (x.f3 - y.f3)) (wrap64 (-wrap64 (x.f3 - y.f3))))) ≤ g
    · rw [if_pos c1, decide_eq_true c1, Bool.true_and]
      split
      · rename_i c2; rw [decide_eq_true c2, Bool.true_and]
      · rename_i c2; rw [decide_eq_false c2, Bool.false_and]
    · rw [if_neg c1, decide_eq_false c1, Bool.false_and]
  · unfold agB turnI absI revL
    dsimp only
    split
    · rename_i c1
      rw [decide_eq_true c1, Bool.true_and]
      split
      · rename_i c2; rw [decide_eq_true c2, Bool.true_and]
      · rename_i c2; rw [decide_eq_false c2, Bool.false_and]
    · rename_i c1
      rw [decide_eq_false c1, Bool.false_and]

theorem some_beq_t (b : Bool) : (some b == some true) = b := by cases b <;> rfl
theorem im_xMatched (xs : List S70) (y : S70) : impl_xMatched.f xs y.f0 y.f1 y.f2 y.f3 y.f4 = some (hit xs y) := by
  unfold impl_xMatched.f hit
  simp only [im_joins, im_agree, some_beq_t, Option.isSome_some, List.all_eq_true, implies_true, if_true]
theorem im_matchScore_l0 (xs ys : List S70) (rs : List Int) (hg : goodLegs ys = true) (hl : rs.length = 8) : ∀ (d i : Nat) (m : Int), i + d = ys.length → 0 ≤ m → m ≤ i → Evn (fun k => impl_matchScore.l0 k xs rs m ys (ys.length : Int) (i : Int)) (m + sc xs ((ys.drop i).map (renL rs))) := by
  have hx := goodLegs_len hg
  intro d
  induction d with
  | zero =>
    intro i m h _ _
    refine Evn.step ?_
    have h1 : ¬ (i : Int) < (ys.length : Int) := by omega
    simp only [impl_matchScore.l0, if_neg h1]
    rw [List.drop_eq_nil_of_le (by omega), List.map_nil, sc, Int.add_zero]
    exact Evn.done _
  | succ d ih =>
    intro i m h h0 hm
    have h1 : (i : Int) < (ys.length : Int) := by omega
    have h2 : 0 ≤ (i : Int) := by omega
    obtain ⟨⟨g1, g2⟩, ⟨g3, g4⟩, _⟩ := okLeg_in (goodLegs_ok hg i (by omega))
    have hc : 0 ≤ (ys.getD i z70).f0 ∧ (ys.getD i z70).f0 < (rs.length : Int) ∧ 0 ≤ (ys.getD i z70).f1 ∧ (ys.getD i z70).f1 < (rs.length : Int) := by omega
    have hw := wrap_succ (show i < 4611686018427387904 by omega)
    have hw2 : wrap64 (m + 1) = m + 1 := wrap_id (by clear hw; omega) (by clear hw; omega)
    refine Evn.step ?_
    rw [getD_drop ys i z70 (by clear hw hw2; omega), List.map_cons, sc]
    have hm' := im_xMatched xs (renL rs (ys.getD i z70))
    unfold renL at hm'
    dsimp only at hm'
    simp only [impl_matchScore.l0, if_pos h1, if_pos h2, rd_T70, Int.toNat_natCast, hw, hw2]
    simp only [impl_renamed.f]
    simp only [if_pos hc, Option.bind_some, rd]
    clear hw hw2
    rw [show (fun k => (impl_xMatched.f xs (rs.getD (ys.getD i z70).f0.toNat 0) (rs.getD (ys.getD i z70).f1.toNat 0) (ys.getD i z70).f2 (ys.getD i z70).f3 (ys.getD i z70).f4).bind fun t215 => if t215 = true then impl_matchScore.l0 k xs rs (m + 1) ys (ys.length : Int) ((i + 1 : Nat) : Int) else impl_matchScore.l0 k xs rs m ys (ys.length : Int) ((i + 1 : Nat) : Int)) = fun k => if hit xs (renL rs (ys.getD i z70)) = true then impl_matchScore.l0 k xs rs (m + 1) ys (ys.length : Int) ((i + 1 : Nat) : Int) else impl_matchScore.l0 k xs rs m ys (ys.length : Int) ((i + 1 : Nat) : Int) from by funext k; rw [hm']; rfl]
    refine Evn.ite (fun c => ?_) (fun c => ?_)
    · rw [if_pos c]
      exact (ih (i + 1) (m + 1) (by omega) (by omega) (by omega)).eq_ (by omega)
    · rw [if_neg c]
      exact (ih (i + 1) m (by omega) (by omega) (by omega)).eq_ (by omega)
theorem im_matchScore (xs ys : List S70) (rs : List Int) (hg : goodLegs ys = true) (hl : rs.length = 8) : Evn (fun k => impl_matchScore.f k xs ys rs) (sc xs (ys.map (renL rs))) := by
  have h := im_matchScore_l0 xs ys rs hg hl ys.length 0 0 (by omega) (by omega) (by omega)
  rw [List.drop_zero] at h
  unfold impl_matchScore.f
  exact h.eq_ (by omega)

theorem clone_int (l : List Int) (h : l.length ≤ 4194304) : slices_Clone_int_int.f l = some l := by
  unfold slices_Clone_int_int.f
  rw [if_pos (by omega)]
theorem im_Improve_l1 (xs ys : List S70) (rs : List Int) (hy : goodLegs ys = true) (hl : rs.length = 8) (i : Nat) (hi : i < 8) (R : List Int × Int → List Int × Int × Bool)
    (hrest : ∀ (b : List Int) (m : Int), Evn (fun k => impl_ImproveRenaming.l0 k xs ys rs b m (rs.length : Int) ((i + 1 : Nat) : Int)) (R (b, m))) :
    ∀ (d j : Nat) (b : List Int) (m : Int), j + d = 8 → i < j → Evn (fun k => impl_ImproveRenaming.l1 k xs ys rs b m (i : Int) (j : Int) (rs.length : Int) (i : Int)) (R (impJ xs ys rs i d j (b, m))) := by
  have hyl := goodLegs_len hy
  intro d
  induction d with
  | zero =>
    intro j b m h hij
    refine Evn.step ?_
    have h1 : ¬ (j : Int) < (rs.length : Int) := by omega
    simp only [impl_ImproveRenaming.l1, if_neg h1, wrap_succ (show i < 4611686018427387904 by omega), impJ]
    exact hrest b m
  | succ d ih =>
    intro j b m h hij
    have h1 : (j : Int) < (rs.length : Int) := by omega
    have h2 : 0 ≤ (j : Int) := by omega
    have h3 : 0 ≤ (i : Int) := by omega
    have h4 : (i : Int) < (rs.length : Int) := by omega
    have hw := wrap_succ (show j < 4611686018427387904 by omega)
    refine Evn.step ?_
    simp only [impl_ImproveRenaming.l1, if_pos h1, clone_int rs (by omega), Option.bind_some, if_pos h2, if_pos h3, if_pos h4, rd, Int.toNat_natCast, hw]
    clear hw
    refine Evn.bind (im_matchScore xs ys (swapL rs i j) hy (by rw [swapL_len]; exact hl)) ?_
    unfold impJ better
    refine Evn.ite (fun c => ?_) (fun c => ?_)
    · rw [if_pos c]; exact ih (j + 1) _ _ (by omega) (by omega)
    · rw [if_neg c]; exact ih (j + 1) b m (by omega) (by omega)
theorem im_Improve_l0 (xs ys : List S70) (rs : List Int) (hy : goodLegs ys = true) (hl : rs.length = 8) :
    ∀ (d i : Nat) (b : List Int) (m : Int), i + d = 8 → Evn (fun k => impl_ImproveRenaming.l0 k xs ys rs b m (rs.length : Int) (i : Int)) ((impI xs ys rs d i (b, m)).1, (impI xs ys rs d i (b, m)).2, true) := by
  intro d
  induction d with
  | zero =>
    intro i b m h
    refine Evn.step ?_
    have h1 : ¬ (i : Int) < (rs.length : Int) := by omega
    simp only [impl_ImproveRenaming.l0, if_neg h1, impI]
    exact Evn.done _
  | succ d ih =>
    intro i b m h
    have h1 : (i : Int) < (rs.length : Int) := by omega
    refine Evn.step ?_
    simp only [impl_ImproveRenaming.l0, if_pos h1, wrap_succ (show i < 4611686018427387904 by omega), impI]
    exact im_Improve_l1 xs ys rs hy hl i (by omega) (fun p => ((impI xs ys rs d (i + 1) p).1, (impI xs ys rs d (i + 1) p).2, true)) (fun b m => ih (i + 1) b m (by omega)) (8 - (i + 1)) (i + 1) b m (by omega) (by omega)
theorem im_ImproveRenaming (xs ys : List S70) (rs : List Int) (hx : xs.length ≤ 4194304) (hy : ys.length ≤ 4194304) (hr : rs.length ≤ 1048576) : Evn (fun k => impl_ImproveRenaming.f k xs ys rs) (impTs xs ys rs) := by
  unfold impl_ImproveRenaming.f impTs
  have no : ¬ (goodLegs xs = true ∧ goodLegs ys = true ∧ goodNs rs = true) → Evn (fun k => impl_ImproveRenaming.j0 k xs ys rs true) (if goodLegs xs = true ∧ goodLegs ys = true ∧ goodNs rs = true then ((impI xs ys rs 8 0 (rs, sc xs (ys.map (renL rs)))).1, (impI xs ys rs 8 0 (rs, sc xs (ys.map (renL rs)))).2, true) else ([], 0, false)) := by
    intro h
    rw [if_neg h]
    refine Evn.step ?_
    simp only [impl_ImproveRenaming.j0, if_true]
    exact Evn.done _
  refine Evn.bind (im_areLegs xs hx) ?_
  refine Evn.ite (fun c1 => ?_) (fun c1 => no (fun h => c1 h.1))
  refine Evn.bind (im_areLegs ys hy) ?_
  refine Evn.ite (fun c2 => ?_) (fun c2 => no (fun h => c2 h.2.1))
  refine Evn.bind (im_IsRenaming rs hr) ?_
  by_cases c3 : goodNs rs = true
  · rw [if_pos ⟨c1, c2, c3⟩]
    have hl := goodNs_len c3
    simp only [c3, Bool.not_true]
    refine Evn.step ?_
    simp only [impl_ImproveRenaming.j0, Bool.false_eq_true, if_false, clone_int rs (by omega), Option.bind_some]
    refine Evn.bind (im_matchScore xs ys rs c2 hl) ?_
    exact im_Improve_l0 xs ys rs c2 hl 8 0 rs _ (by omega)
  · have e : (!goodNs rs) = true := by rw [Bool.eq_false_iff.mpr c3]; rfl
    simp only [e]
    exact no (fun h => c3 h.2.2)

theorem FnExactImproveRenaming : ∀ (l0 : List (S75)) (l1 : List (S75)) (l2 : List Int), l0.length ≤ maxLen → (∀ x ∈ l0, (Lit.int .i64 x.f0).wf = true ∧ (Lit.int .i64 x.f1).wf = true ∧ (Lit.int .i64 x.f2).wf = true ∧ (Lit.int .i64 x.f3).wf = true ∧ (Lit.int .i64 x.f4).wf = true) → l1.length ≤ maxLen → (∀ x ∈ l1, (Lit.int .i64 x.f0).wf = true ∧ (Lit.int .i64 x.f1).wf = true ∧ (Lit.int .i64 x.f2).wf = true ∧ (Lit.int .i64 x.f3).wf = true ∧ (Lit.int .i64 x.f4).wf = true) → l2.length ≤ maxLen → (∀ x ∈ l2, (Lit.int .i64 x).wf = true) → ∃ k, laws_FnExactImproveRenaming.f k l0 l1 l2 = some true := by
  intro l m n hl _ hm _ _ _
  apply Evn.get
  unfold laws_FnExactImproveRenaming.f
  refine Evn.ite (fun _ => Evn.done _) (fun h' => ?_)
  simp only [ev_szLegS, Option.bind_some]
  refine Evn.ite (fun _ => Evn.done _) (fun h => ?_)
  have hx : l.length ≤ 1048576 := by unfold maxLen at hl; unfold wrap64 at h; split at h <;> omega
  have e1 : (if wrap64 (1048576 - (l.length : Int)) < 0 then -1 else wrap64 (1048576 - (l.length : Int))) = 1048576 - (l.length : Int) := by rw [wrap_id (by omega) (by omega), if_neg (by omega)]
  rw [e1]
  refine Evn.ite (fun _ => Evn.done _) (fun h2 => ?_)
  have hy : m.length ≤ 1048576 := by unfold maxLen at hl hm; unfold wrap64 at h2; split at h2 <;> omega
  clear h2 e1
  have hx' : (l.map convLeg).length ≤ 4194304 := by rw [List.length_map]; omega
  have hy' : (m.map convLeg).length ≤ 4194304 := by rw [List.length_map]; omega
  have hn : n.length ≤ 1048576 := by omega
  have hn4 : n.length ≤ 4194304 := by omega
  clear h hl hm h'
  have hs := sp_ImproveRenaming (l.map convLeg) (m.map convLeg) n hx' hy' hn
  have hi := im_ImproveRenaming (l.map convLeg) (m.map convLeg) n hx' hy' hn
  have hr : (impTs (l.map convLeg) (m.map convLeg) n).1.length ≤ 4194304 := by
    unfold impTs
    split
    · dsimp only
      rw [impI_len _ _ n 8 0 _ rfl]
      exact hn4
    · simp
  generalize impTs (l.map convLeg) (m.map convLeg) n = r at hs hi hr
  generalize hL : l.map convLeg = L at hs hi hx'
  generalize hM : m.map convLeg = M at hs hi hy'
  have hto : Evn (fun k => laws_toLegS.f k l) L := hL ▸ ev_toLegS l hx
  have hto2 : Evn (fun k => laws_toLegS.f k m) M := hM ▸ ev_toLegS m hy
  repeat (first
    | exact Evn.done _
    | simp only [if_true, bne_self_eq_false, Bool.false_eq_true, if_false]
    | refine Evn.bind hto ?_
    | refine Evn.bind hto2 ?_
    | refine Evn.bind hs ?_
    | refine Evn.bind hi ?_
    | refine Evn.bind (ev_toLegS _ (by assumption)) ?_
    | refine Evn.bind (ev_toIntS _ (by assumption)) ?_
    | refine Evn.bind (ev_eqLegS _ (by assumption)) ?_
    | refine Evn.bind (ev_eqIntS _ (by assumption)) ?_
    | refine Evn.bind (ev_markLegS _ _ (by omega) (by omega) (by first | assumption | omega)) ?_
    | refine Evn.bind (ev_heldLegS _ _ (by omega) (by omega) (by first | assumption | omega)) ?_
    | refine Evn.bind (ev_markIntS _ _ (by omega) (by omega) (by first | assumption | omega)) ?_
    | refine Evn.bind (ev_heldIntS _ _ (by omega) (by omega) (by first | assumption | omega)) ?_
    | refine Evn.ite (fun h_ => absurd h_ (by first | omega | decide)) (fun _ => ?_)
    | refine Evn.ite (fun _ => ?_) (fun h_ => absurd (by first | rfl | omega) h_)
    | dsimp only
    | (refine Evn.step ?_; simp only [laws_FnExactImproveRenaming.j0])
    | (refine Evn.step ?_; simp only [laws_FnExactImproveRenaming.j1])
    | (refine Evn.step ?_; simp only [laws_FnExactImproveRenaming.j2]))

end Go.Proofs.Ytfaojmabalplfaa.Pure
