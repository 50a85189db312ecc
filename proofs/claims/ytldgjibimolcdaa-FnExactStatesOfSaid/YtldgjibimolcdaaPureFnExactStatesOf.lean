/- The plain statement of FnExactStatesOf: its plain function returns true at every input. No condition beyond the arguments' own bounds. -/
import Derived.Test.YtldgjibimolcdaaPFnExactStatesOfx6
import Derived.Test.YtldgjibimolcdaaAid
namespace Go.Proofs.Ytldgjibimolcdaa.Pure
open Go.RowKit Go.Proofs.YtldgjibimolcdaaW.PrintWords Go.Proofs.YtldgjibimolcdaaW.PrintLast Go.Proofs.Ytldgjibimolcdaa.Aid Go.Proofs.Ytldgjibimolcdaa.PFnExactStatesOf
set_option linter.unusedVariables false
set_option linter.unusedSimpArgs false

theorem ev_szLeadS (l : List S23) (q : Int) : laws_szLeadS.f l q = some (if wrap64 (q - (l.length : Int)) < 0 then -1 else wrap64 (q - (l.length : Int))) := by
  unfold laws_szLeadS.f
  split <;> rfl

-- laws_toLead: as it stands

def convLead (x : S23) : S25 := ⟨x.f0, x.f1, x.f2, x.f3, x.f4⟩
theorem ev_toLeadS_l0 (xs : List S23) (hx : xs.length ≤ 1048576) : ∀ (d i : Nat) (ys : List S25), i + d = xs.length → ys.length = xs.length → Evn (fun k => laws_toLeadS.l0 k xs ys (i : Int)) (ys.take i ++ (xs.drop i).map convLead) := by
  intro d
  induction d with
  | zero =>
    intro i ys h hy
    refine Evn.step ?_
    have h1 : ¬ (i : Int) < (xs.length : Int) := by omega
    simp only [laws_toLeadS.l0, if_neg h1]
    have e : ys.take i ++ (xs.drop i).map convLead = ys := by rw [List.take_of_length_le (by omega), List.drop_eq_nil_of_le (by omega)]; simp
    rw [e]
    exact Evn.done _
  | succ d ih =>
    intro i ys h hy
    refine Evn.step ?_
    have h1 : (i : Int) < (xs.length : Int) := by omega
    have h2 : 0 ≤ (i : Int) := by omega
    have h3 : (i : Int) < (ys.length : Int) := by omega
    simp only [laws_toLeadS.l0, laws_toLead.f, if_pos h1, if_pos h2, if_pos h3, Option.bind_some, Int.toNat_natCast, wrap_succ (show i < 4611686018427387904 by omega)]
    refine (ih (i + 1) _ (by omega) (by simpa using hy)).eq_ ?_
    rw [set_take _ _ _ (by omega), getD_drop xs i z23 (by omega)]
    simp [convLead, rd_T23]
theorem ev_toLeadS (xs : List S23) (hx : xs.length ≤ 1048576) : Evn (fun k => laws_toLeadS.f k xs) (xs.map convLead) := by
  unfold laws_toLeadS.f
  refine Evn.ite (fun _ => Evn.ite (fun _ => ?_) (fun h => (h (by omega)).elim)) (fun h => (h (by omega)).elim)
  have h := ev_toLeadS_l0 xs hx xs.length 0 (List.replicate (xs.length : Int).toNat z25) (by omega) (by simp)
  simpa using h

-- laws_eqLead: as it stands

theorem ev_eqLeadS_l0 (xs : List S25) (hx : xs.length ≤ 4194304) : ∀ (d i : Nat), i + d = xs.length → Evn (fun k => laws_eqLeadS.l0 k xs xs (i : Int)) true := by
  intro d
  induction d with
  | zero =>
    intro i h
    refine Evn.step ?_
    have h1 : ¬ (i : Int) < (xs.length : Int) := by omega
    simp only [laws_eqLeadS.l0, if_neg h1]
    exact Evn.done _
  | succ d ih =>
    intro i h
    refine Evn.step ?_
    have h1 : (i : Int) < (xs.length : Int) := by omega
    have h2 : 0 ≤ (i : Int) := by omega
    simp only [laws_eqLeadS.l0, laws_eqLead.f, if_pos h1, if_pos h2, Option.bind_some, if_true, wrap_succ (show i < 4611686018427387904 by omega)]
    exact ih (i + 1) (by omega)
theorem ev_eqLeadS (xs : List S25) (hx : xs.length ≤ 4194304) : Evn (fun k => laws_eqLeadS.f k xs xs) true := by
  simp only [laws_eqLeadS.f, if_true]
  exact ev_eqLeadS_l0 xs hx xs.length 0 (by omega)

theorem ev_eqIntS_l0 (xs : List Int) (hx : xs.length ≤ 4194304) : ∀ (d i : Nat), i + d = xs.length → Evn (fun k => laws_eqIntS.l0 k xs xs (i : Int)) true := by
  intro d
  induction d with
  | zero =>
    intro i h
    refine Evn.step ?_
    have h1 : ¬ (i : Int) < (xs.length : Int) := by omega
    simp only [laws_eqIntS.l0, if_neg h1]
    exact Evn.done _
  | succ d ih =>
    intro i h
    refine Evn.step ?_
    have h1 : (i : Int) < (xs.length : Int) := by omega
    have h2 : 0 ≤ (i : Int) := by omega
    simp only [laws_eqIntS.l0, if_pos h1, if_pos h2, if_true, wrap_succ (show i < 4611686018427387904 by omega)]
    exact ih (i + 1) (by omega)
theorem ev_eqIntS (xs : List Int) (hx : xs.length ≤ 4194304) : Evn (fun k => laws_eqIntS.f k xs xs) true := by
  simp only [laws_eqIntS.f, if_true]
  exact ev_eqIntS_l0 xs hx xs.length 0 (by omega)

/-! The marks that the law lays: b, b + 1, .. -/
def marksLead (b : Int) : Nat → List S25
  | 0 => []
  | d + 1 => (⟨b, b + 1, b + 2, b + 3, b + 4⟩ : S25) :: marksLead (b + 5) d
theorem marksLead_len (d : Nat) : ∀ b, (marksLead b d).length = d := by
  induction d with
  | zero => intro b; rfl
  | succ d ih => intro b; simp [marksLead, ih]
theorem ev_markLeadS_l0 (n : Nat) (hn : n ≤ 4194304) : ∀ (d i : Nat) (b : Int) (ys : List S25), i + d = n → ys.length = n → 0 ≤ b → b + 5 * d ≤ 1152921504606846976 → Evn (fun k => laws_markLeadS.l0 k ys b (i : Int)) (b + 5 * d, ys.take i ++ marksLead b d) := by
  intro d
  induction d with
  | zero =>
    intro i b ys h hy h0 hb
    refine Evn.step ?_
    have h1 : ¬ (i : Int) < (ys.length : Int) := by omega
    simp only [laws_markLeadS.l0, if_neg h1, marksLead]
    rw [List.take_of_length_le (by omega)]
    simpa using Evn.done _
  | succ d ih =>
    intro i b ys h hy h0 hb
    refine Evn.step ?_
    have h1 : (i : Int) < (ys.length : Int) := by omega
    have h2 : 0 ≤ (i : Int) := by omega
    have hs : ∀ (zs : List S25) (v : S25), zs.length = ys.length → rd_T25 (zs.set i v) (i : Int) = v := by
      intro zs v hz
      unfold rd_T25
      rw [Int.toNat_natCast, List.getD_eq_getElem?_getD, List.getElem?_set_self (by omega)]
      rfl
    have hk := ih (i + 1) (b + 5) (ys.set i ⟨b, b + 1, b + 2, b + 3, b + 4⟩) (by omega) (by simpa using hy) (by omega) (by omega)
    have e1 : wrap64 (b + 1) = b + 1 := by rw [wrap_id (by omega) (by omega)]
    have e2 : wrap64 (b + 1 + 1) = b + 2 := by rw [wrap_id (by omega) (by omega)]; omega
    have e3 : wrap64 (b + 2 + 1) = b + 3 := by rw [wrap_id (by omega) (by omega)]; omega
    have e4 : wrap64 (b + 3 + 1) = b + 4 := by rw [wrap_id (by omega) (by omega)]; omega
    have e5 : wrap64 (b + 4 + 1) = b + 5 := by rw [wrap_id (by omega) (by omega)]; omega
    simp only [laws_markLeadS.l0, if_pos h1, if_pos h2, Option.bind_some, Int.toNat_natCast, hs, List.length_set, List.set_set, e1, e2, e3, e4, e5, wrap_succ (show i < 4611686018427387904 from Nat.lt_of_lt_of_le (show i < 4194304 + 1 by omega) (by decide))]
    refine hk.eq_ ?_
    rw [set_take _ _ _ (by omega), marksLead, List.append_assoc]
    simp only [List.cons_append, List.nil_append, Prod.mk.injEq, and_true]
    omega
theorem ev_markLeadS (ys : List S25) (a : Int) (ha : 0 ≤ a) (ha2 : a ≤ 1099511627776) (hn : ys.length ≤ 4194304) : Evn (fun k => laws_markLeadS.f k ys a) (a + 5 * ys.length, marksLead a ys.length) := by
  have h := ev_markLeadS_l0 ys.length hn ys.length 0 a ys (by omega) rfl ha (by omega)
  simpa [laws_markLeadS.f] using h

/-! The marks: a, a + 1, .. -/
def marksI (a : Int) : Nat → List Int
  | 0 => []
  | n + 1 => marksI a n ++ [a + n]
theorem marksI_len (a : Int) (n : Nat) : (marksI a n).length = n := by
  induction n with
  | zero => rfl
  | succ n ih => simp [marksI, ih]
theorem marksI_get (a : Int) (n : Nat) : ∀ i, i < n → (marksI a n).getD i 0 = a + i := by
  induction n with
  | zero => intro i h; omega
  | succ n ih =>
    intro i h
    rw [marksI, List.getD_eq_getElem?_getD]
    rcases Nat.lt_or_ge i n with hi | hi
    · rw [List.getElem?_append_left (by rw [marksI_len]; exact hi), ← List.getD_eq_getElem?_getD]
      exact ih i hi
    · obtain rfl : i = n := by omega
      rw [List.getElem?_append_right (by rw [marksI_len]; omega), marksI_len]
      simp
theorem ev_markIntS_l0 (a : Int) (ha : 0 ≤ a) (ha2 : a ≤ 1099511627776) (n : Nat) (hn : n ≤ 4194304) : ∀ (d i : Nat) (ys : List Int), i + d = n → ys.length = n → ys.take i = marksI a i → Evn (fun k => laws_markIntS.l0 k ys (a + i) (i : Int)) (a + n, marksI a n) := by
  intro d
  induction d with
  | zero =>
    intro i ys h hy ht
    refine Evn.step ?_
    have h1 : ¬ (i : Int) < (ys.length : Int) := by omega
    simp only [laws_markIntS.l0, if_neg h1]
    obtain rfl : i = n := by omega
    rw [List.take_of_length_le (by omega)] at ht
    rw [ht]
    exact Evn.done _
  | succ d ih =>
    intro i ys h hy ht
    refine Evn.step ?_
    have h1 : (i : Int) < (ys.length : Int) := by omega
    have h2 : 0 ≤ (i : Int) := by omega
    have e : wrap64 (a + i + 1) = a + ((i + 1 : Nat) : Int) := by rw [wrap_id (by omega) (by omega)]; omega
    simp only [laws_markIntS.l0, if_pos h1, if_pos h2, Int.toNat_natCast, e, wrap_succ (show i < 4611686018427387904 by omega)]
    exact ih (i + 1) _ (by omega) (by simpa using hy) (by rw [set_take _ _ _ (by omega), ht, marksI])
theorem ev_markIntS (ys : List Int) (a : Int) (ha : 0 ≤ a) (ha2 : a ≤ 1099511627776) (hn : ys.length ≤ 4194304) : Evn (fun k => laws_markIntS.f k ys a) (a + ys.length, marksI a ys.length) := by
  have h := ev_markIntS_l0 a ha ha2 ys.length hn ys.length 0 ys (by omega) rfl rfl
  simpa [laws_markIntS.f] using h

theorem ev_heldIntS_l0 (a : Int) (ha : 0 ≤ a) (ha2 : a ≤ 1099511627776) (n : Nat) (hn : n ≤ 4194304) : ∀ (d i : Nat), i + d = n → Evn (fun k => laws_heldIntS.l0 k (marksI a n) (a + i) (i : Int)) (a + n) := by
  intro d
  induction d with
  | zero =>
    intro i h
    refine Evn.step ?_
    have h1 : ¬ (i : Int) < ((marksI a n).length : Int) := by rw [marksI_len]; omega
    simp only [laws_heldIntS.l0, if_neg h1]
    obtain rfl : i = n := by omega
    exact Evn.done _
  | succ d ih =>
    intro i h
    refine Evn.step ?_
    have h1 : (i : Int) < ((marksI a n).length : Int) := by rw [marksI_len]; omega
    have h2 : 0 ≤ (i : Int) := by omega
    have h3 : rd (marksI a n) (i : Int) = a + i := by unfold rd; rw [Int.toNat_natCast]; exact marksI_get a n i (by omega)
    have e : wrap64 (a + i + 1) = a + ((i + 1 : Nat) : Int) := by rw [wrap_id (by omega) (by omega)]; omega
    simp only [laws_heldIntS.l0, if_pos h1, if_pos h2, if_pos h3, e, wrap_succ (show i < 4611686018427387904 by omega)]
    exact ih (i + 1) (by omega)
theorem ev_heldIntS (n : Nat) (a : Int) (ha : 0 ≤ a) (ha2 : a ≤ 1099511627776) (hn : n ≤ 4194304) : Evn (fun k => laws_heldIntS.f k (marksI a n) a) (a + n) := by
  have h := ev_heldIntS_l0 a ha ha2 n hn n 0 (by omega)
  simpa [laws_heldIntS.f] using h

theorem sp_l1In (x y z : Int) : spec_l1In.f x y z = some (decide (y ≤ x ∧ x ≤ z)) := by
  unfold spec_l1In.f
  by_cases h : x ≥ y <;> simp [h] <;> omega

theorem sp_l4Station (x : Int) : spec_l4Station.f x = some (decide (0 ≤ x ∧ x ≤ 7)) := by
  simp only [spec_l4Station.f, sp_l1In, Option.bind_some]

def okLead (x : S25) : Bool := decide (1 ≤ x.f0 ∧ x.f0 ≤ 99) && (decide (0 ≤ x.f1 ∧ x.f1 ≤ 7) && (decide (1 ≤ x.f2 ∧ x.f2 ≤ 9) && (decide (1 ≤ x.f3 ∧ x.f3 ≤ 9) && decide (0 ≤ x.f4 ∧ x.f4 ≤ 3))))
/-! The rules of a list of Lead, as both texts have them. -/
def goodLead (xs : List S25) : Nat → Nat → Bool
  | 0, _ => decide (xs.length ≤ 12)
  | d + 1, i => (okLead (xs.getD i z25) && (decide (i = 0) || decide ((xs.getD (i - 1) z25).f0 < (xs.getD i z25).f0))) && goodLead xs d (i + 1)
def goodLeads (xs : List S25) : Bool := goodLead xs xs.length 0
theorem goodLead_facts (xs : List S25) : ∀ (d i : Nat), i + d = xs.length → goodLead xs d i = true → (∀ j, i ≤ j → j < xs.length → okLead (xs.getD j z25) = true ∧ (j = 0 ∨ (xs.getD (j - 1) z25).f0 < (xs.getD j z25).f0)) ∧ xs.length ≤ 12 := by
  intro d
  induction d with
  | zero =>
    intro i h hg
    exact ⟨fun j h1 h2 => by omega, by simpa [goodLead] using hg⟩
  | succ d ih =>
    intro i h hg
    simp only [goodLead, Bool.and_eq_true, Bool.or_eq_true, decide_eq_true_eq] at hg
    obtain ⟨⟨g1, g2⟩, g3⟩ := hg
    obtain ⟨h1, h2⟩ := ih (i + 1) (by omega) g3
    refine ⟨fun j hj hl => ?_, h2⟩
    rcases Nat.lt_or_ge i j with hc | hc
    · exact h1 j hc hl
    · obtain rfl : j = i := by omega
      exact ⟨g1, g2⟩
theorem goodLeads_len {xs : List S25} (h : goodLeads xs = true) : xs.length ≤ 12 := (goodLead_facts xs xs.length 0 (by omega) h).2
theorem goodLeads_ok {xs : List S25} (h : goodLeads xs = true) (j : Nat) (hj : j < xs.length) : okLead (xs.getD j z25) = true := ((goodLead_facts xs xs.length 0 (by omega) h).1 j (by omega) hj).1
theorem goodLeads_step {xs : List S25} (h : goodLeads xs = true) (j : Nat) (hj : j + 1 < xs.length) : (xs.getD j z25).f0 < (xs.getD (j + 1) z25).f0 := by
  have h1 := ((goodLead_facts xs xs.length 0 (by omega) h).1 (j + 1) (by omega) hj).2
  rcases h1 with h1 | h1
  · omega
  · exact h1

theorem sp_l18One (x : S25) : spec_l18One.f x.f0 x.f1 x.f2 x.f3 x.f4 = some (okLead x) := by
  simp only [spec_l18One.f, sp_l4Station, spec_l18State.f, sp_l1In, Option.bind_some, ite_and, okLead]

theorem sp_l18Good_l0 (xs : List S25) (hx : xs.length ≤ 1048576) : ∀ (d i : Nat), i + d = xs.length → Evn (fun k => spec_l18Good.l0 k xs (i : Int)) (goodLead xs d i) := by
  intro d
  induction d with
  | zero =>
    intro i h
    refine Evn.step ?_
    have h1 : ¬ (i : Int) < (xs.length : Int) := by omega
    simp only [spec_l18Good.l0, if_neg h1, goodLead]
    refine (Evn.done _).eq_ ?_
    simp only [decide_eq_decide]
    omega
  | succ d ih =>
    intro i h
    refine Evn.step ?_
    have h1 : (i : Int) < (xs.length : Int) := by omega
    have h2 : 0 ≤ (i : Int) := by omega
    have hih := ih (i + 1) (by omega)
    simp only [spec_l18Good.l0, if_pos h1, if_pos h2, sp_l18One, Option.bind_some, wrap_succ (show i < 4611686018427387904 by omega), rd_T25, Int.toNat_natCast, goodLead]
    refine Evn.ite (fun c1 => ?_) (fun c1 => (Evn.done _).eq_ (by simp only [Bool.eq_false_iff.mpr c1, Bool.false_and]))
    simp only [c1, Bool.true_and]
    rcases Nat.eq_zero_or_pos i with h0 | h0
    · subst h0
      have h3 : ¬ ((0 : Nat) : Int) > 0 := by omega
      simp only [if_neg h3, decide_true, Bool.true_or, Bool.true_and]
      exact hih
    · obtain ⟨j, rfl⟩ : ∃ j, i = j + 1 := ⟨i - 1, by omega⟩
      have h3 : ((j + 1 : Nat) : Int) > 0 := by omega
      have h4 : 0 ≤ (j : Int) := by omega
      have h5 : (j : Int) < (xs.length : Int) := by omega
      simp only [if_pos h3, wrap_pred (show j < 4611686018427387904 by omega), if_pos h4, if_pos h5, Int.toNat_natCast, Nat.add_sub_cancel]
      refine Evn.ite (fun c3 => (Evn.done _).eq_ ?_) (fun c3 => hih.eq_ ?_)
      · have e1 : decide ((xs.getD j z25).f0 < (xs.getD (j + 1) z25).f0) = false := decide_eq_false (by omega)
        simp only [e1, show decide (j + 1 = 0) = false from by simp, Bool.or_false, Bool.false_and]
      · have e1 : decide ((xs.getD j z25).f0 < (xs.getD (j + 1) z25).f0) = true := decide_eq_true (by omega)
        simp only [e1, Bool.or_true, Bool.true_and]
theorem sp_l18Good (xs : List S25) (hx : xs.length ≤ 1048576) : Evn (fun k => spec_l18Good.f k xs) (goodLeads xs) := sp_l18Good_l0 xs hx xs.length 0 (by omega)

def cntL (xs : List S25) : Nat → Nat → List Int → List Int
  | 0, _, ys => ys
  | d + 1, i, ys => cntL xs d (i + 1) (ys.set (xs.getD i z25).f4.toNat (wrap64 (ys.getD (xs.getD i z25).f4.toNat 0 + 1)))
theorem cntL_len (xs : List S25) : ∀ (d i : Nat) (ys : List Int), (cntL xs d i ys).length = ys.length := by
  intro d
  induction d with
  | zero => intro i ys; rfl
  | succ d ih => intro i ys; rw [cntL, ih]; simp
def statesL (xs : List S25) : List Int × Bool := if goodLeads xs = true then (cntL xs xs.length 0 (List.replicate 4 0), true) else ([], false)
theorem lead_in {xs : List S25} (h : goodLeads xs = true) (j : Nat) (hj : j < xs.length) : (1 ≤ (xs.getD j z25).f0 ∧ (xs.getD j z25).f0 ≤ 99) ∧ (0 ≤ (xs.getD j z25).f1 ∧ (xs.getD j z25).f1 ≤ 7) ∧ (1 ≤ (xs.getD j z25).f2 ∧ (xs.getD j z25).f2 ≤ 9) ∧ (1 ≤ (xs.getD j z25).f3 ∧ (xs.getD j z25).f3 ≤ 9) ∧ (0 ≤ (xs.getD j z25).f4 ∧ (xs.getD j z25).f4 ≤ 3) := by
  have h1 := goodLeads_ok h j hj
  simp only [okLead, Bool.and_eq_true, decide_eq_true_eq] at h1
  exact h1
theorem sp_StatesOf_l0 (xs : List S25) (hx : xs.length ≤ 1048576) (hg : goodLeads xs = true) : ∀ (d i : Nat) (ys : List Int), i + d = xs.length → ys.length = 4 → Evn (fun k => spec_StatesOf.l0 k xs ys (i : Int)) (cntL xs d i ys, true) := by
  intro d
  induction d with
  | zero =>
    intro i ys h hy
    refine Evn.step ?_
    have h1 : ¬ (i : Int) < (xs.length : Int) := by omega
    simp only [spec_StatesOf.l0, if_neg h1, cntL]
    exact Evn.done _
  | succ d ih =>
    intro i ys h hy
    refine Evn.step ?_
    have h1 : (i : Int) < (xs.length : Int) := by omega
    have h2 : 0 ≤ (i : Int) := by omega
    obtain ⟨_, _, _, _, g1, g2⟩ := lead_in hg i (by omega)
    have h3 : (xs.getD i z25).f4 < (ys.length : Int) := by omega
    simp only [spec_StatesOf.l0, if_pos h1, if_pos h2, rd_T25, rd, Int.toNat_natCast, if_pos g1, if_pos h3, wrap_succ (show i < 4611686018427387904 by omega), cntL]
    exact ih (i + 1) _ (by omega) (by simpa using hy)
theorem sp_StatesOf (xs : List S25) (hx : xs.length ≤ 1048576) : Evn (fun k => spec_StatesOf.f k xs) (statesL xs) := by
  unfold spec_StatesOf.f
  refine Evn.bind (sp_l18Good xs hx) ?_
  unfold statesL
  refine Evn.ite (fun c => Evn.ite (fun _ => ?_) (fun h => absurd (by omega) h)) (fun c => ?_)
  · rw [if_pos c]
    exact sp_StatesOf_l0 xs hx c xs.length 0 _ (by omega) (by simp)
  · rw [if_neg c]
    exact Evn.done _

theorem im_within (x y z : Int) : impl_within.f x y z = some (decide (y ≤ x ∧ x ≤ z)) := by
  unfold impl_within.f
  by_cases h : x ≥ y <;> simp [h] <;> omega

theorem im_isStation (x : Int) : impl_isStation.f x = some (decide (0 ≤ x ∧ x ≤ 7)) := by
  simp only [impl_isStation.f, im_within, Option.bind_some]

theorem im_IsLead (x : S25) : impl_IsLead.f x.f0 x.f1 x.f2 x.f3 x.f4 = some (okLead x) := by
  simp only [impl_IsLead.f, impl_isId.f, im_isStation, impl_isGrade.f, impl_isState.f, im_within, Option.bind_some, ite_and, okLead]

theorem im_AreLeads_l0 (xs : List S25) (hx : xs.length ≤ 1048576) : ∀ (d i : Nat), i + d = xs.length → Evn (fun k => impl_AreLeads.l0 k xs xs (xs.length : Int) (i : Int)) (goodLead xs d i) := by
  intro d
  induction d with
  | zero =>
    intro i h
    refine Evn.step ?_
    have h1 : ¬ (i : Int) < (xs.length : Int) := by omega
    simp only [impl_AreLeads.l0, if_neg h1, goodLead]
    refine (Evn.done _).eq_ ?_
    simp only [decide_eq_decide]
    omega
  | succ d ih =>
    intro i h
    refine Evn.step ?_
    have h1 : (i : Int) < (xs.length : Int) := by omega
    have h2 : 0 ≤ (i : Int) := by omega
    have hih := ih (i + 1) (by omega)
    simp only [impl_AreLeads.l0, if_pos h1, if_pos h2, im_IsLead, Option.bind_some, wrap_succ (show i < 4611686018427387904 by omega), rd_T25, Int.toNat_natCast, goodLead]
    refine Evn.ite (fun c1 => ?_) (fun c1 => (Evn.done _).eq_ (by simp only [Bool.eq_false_iff.mpr c1, Bool.false_and]))
    simp only [c1, Bool.true_and]
    rcases Nat.eq_zero_or_pos i with h0 | h0
    · subst h0
      have h3 : ¬ ((0 : Nat) : Int) > 0 := by omega
      simp only [if_neg h3, decide_true, Bool.true_or, Bool.true_and]
      exact hih
    · obtain ⟨j, rfl⟩ : ∃ j, i = j + 1 := ⟨i - 1, by omega⟩
      have h3 : ((j + 1 : Nat) : Int) > 0 := by omega
      have h4 : 0 ≤ (j : Int) := by omega
      have h5 : (j : Int) < (xs.length : Int) := by omega
      simp only [if_pos h3, wrap_pred (show j < 4611686018427387904 by omega), if_pos h4, if_pos h5, Int.toNat_natCast, Nat.add_sub_cancel]
      refine Evn.ite (fun c3 => (Evn.done _).eq_ ?_) (fun c3 => hih.eq_ ?_)
      · have e1 : decide ((xs.getD j z25).f0 < (xs.getD (j + 1) z25).f0) = false := decide_eq_false (by omega)
        simp only [e1, show decide (j + 1 = 0) = false from by simp, Bool.or_false, Bool.false_and]
      · have e1 : decide ((xs.getD j z25).f0 < (xs.getD (j + 1) z25).f0) = true := decide_eq_true (by omega)
        simp only [e1, Bool.or_true, Bool.true_and]
theorem im_AreLeads (xs : List S25) (hx : xs.length ≤ 1048576) : Evn (fun k => impl_AreLeads.f k xs) (goodLeads xs) := im_AreLeads_l0 xs hx xs.length 0 (by omega)

theorem im_StatesOf_l0 (xs : List S25) (hx : xs.length ≤ 1048576) (hg : goodLeads xs = true) : ∀ (d i : Nat) (ys : List Int), i + d = xs.length → ys.length = 4 → Evn (fun k => impl_StatesOf.l0 k ys xs (xs.length : Int) (i : Int)) (cntL xs d i ys, true) := by
  intro d
  induction d with
  | zero =>
    intro i ys h hy
    refine Evn.step ?_
    have h1 : ¬ (i : Int) < (xs.length : Int) := by omega
    simp only [impl_StatesOf.l0, if_neg h1, cntL]
    exact Evn.done _
  | succ d ih =>
    intro i ys h hy
    refine Evn.step ?_
    have h1 : (i : Int) < (xs.length : Int) := by omega
    have h2 : 0 ≤ (i : Int) := by omega
    obtain ⟨_, _, _, _, g1, g2⟩ := lead_in hg i (by omega)
    have h3 : (xs.getD i z25).f4 < (ys.length : Int) := by omega
    simp only [impl_StatesOf.l0, if_pos h1, if_pos h2, rd_T25, rd, Int.toNat_natCast, if_pos g1, if_pos h3, wrap_succ (show i < 4611686018427387904 by omega), cntL]
    exact ih (i + 1) _ (by omega) (by simpa using hy)
theorem im_StatesOf (xs : List S25) (hx : xs.length ≤ 1048576) : Evn (fun k => impl_StatesOf.f k xs) (statesL xs) := by
  unfold impl_StatesOf.f
  refine Evn.bind (im_AreLeads xs hx) ?_
  unfold statesL
  refine Evn.ite (fun c => Evn.ite (fun _ => ?_) (fun h => absurd (by omega) h)) (fun c => ?_)
  · rw [if_pos c]
    exact im_StatesOf_l0 xs hx c xs.length 0 _ (by omega) (by simp)
  · rw [if_neg c]
    exact Evn.done _

theorem FnExactStatesOf : ∀ (l0 : List (S23)), l0.length ≤ maxLen → (∀ x ∈ l0, (Lit.int .i64 x.f0).wf = true ∧ (Lit.int .i64 x.f1).wf = true ∧ (Lit.int .i64 x.f2).wf = true ∧ (Lit.int .i64 x.f3).wf = true ∧ (Lit.int .i64 x.f4).wf = true) → ∃ k, laws_FnExactStatesOf.f k l0 = some true := by
  intro l hl _
  apply Evn.get
  unfold laws_FnExactStatesOf.f
  simp only [ev_szLeadS, Option.bind_some]
  refine Evn.ite (fun _ => Evn.done _) (fun h => ?_)
  have hx : l.length ≤ 1048576 := by unfold maxLen at hl; unfold wrap64 at h; split at h <;> omega
  have hx' : (l.map convLead).length ≤ 4194304 := by rw [List.length_map]; omega
  have hx1 : (l.map convLead).length ≤ 1048576 := by rw [List.length_map]; omega
  clear h hl
  have hs := sp_StatesOf (l.map convLead) hx1
  have hi := im_StatesOf (l.map convLead) hx1
  have hr : (statesL (l.map convLead)).1.length ≤ 4194304 := by
    unfold statesL
    split
    · simp only [cntL_len, List.length_replicate]; decide
    · simp
  generalize statesL (l.map convLead) = r at hs hi hr
  generalize hL : l.map convLead = L at hs hi hx'
  have hto : Evn (fun k => laws_toLeadS.f k l) L := hL ▸ ev_toLeadS l hx
  repeat (first
    | exact Evn.done _
    | simp only [if_true, bne_self_eq_false, Bool.false_eq_true, if_false]
    | refine Evn.bind hto ?_
    | refine Evn.bind hs ?_
    | refine Evn.bind hi ?_
    | refine Evn.bind (ev_toLeadS _ (by assumption)) ?_
    | refine Evn.bind (ev_toIntS _ (by assumption)) ?_
    | refine Evn.bind (ev_eqLeadS _ (by assumption)) ?_
    | refine Evn.bind (ev_eqIntS _ (by assumption)) ?_
    | refine Evn.bind (ev_markLeadS _ _ (by omega) (by omega) (by first | assumption | omega)) ?_
    | refine Evn.bind (ev_heldLeadS _ _ (by omega) (by omega) (by first | assumption | omega)) ?_
    | refine Evn.bind (ev_markIntS _ _ (by omega) (by omega) (by first | assumption | omega)) ?_
    | refine Evn.bind (ev_heldIntS _ _ (by omega) (by omega) (by first | assumption | omega)) ?_
    | refine Evn.ite (fun h_ => absurd h_ (by first | omega | decide)) (fun _ => ?_)
    | refine Evn.ite (fun _ => ?_) (fun h_ => absurd (by first | rfl | omega) h_)
    | dsimp only
    | (refine Evn.step ?_; simp only [laws_FnExactStatesOf.j0])
    | (refine Evn.step ?_; simp only [laws_FnExactStatesOf.j1])
    | (refine Evn.step ?_; simp only [laws_FnExactStatesOf.j2]))

end Go.Proofs.Ytldgjibimolcdaa.Pure
