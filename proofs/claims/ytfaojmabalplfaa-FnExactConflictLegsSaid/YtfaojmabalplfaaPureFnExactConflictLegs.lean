/- The plain statement of FnExactConflictLegs: its plain function returns true at every input. No condition beyond the arguments' own bounds. -/
import Derived.Test.YtfaojmabalplfaaQFnExactConflictLegsx9
import Derived.Test.YtfaojmabalplfaaAid
namespace Go.Proofs.Ytfaojmabalplfaa.Pure
open Go.RowKit Go.Proofs.YtfaojmabalplfaaW.PrintWords Go.Proofs.YtfaojmabalplfaaW.PrintLast Go.Proofs.Ytfaojmabalplfaa.Aid Go.Proofs.Ytfaojmabalplfaa.QFnExactConflictLegs
set_option linter.unusedVariables false
set_option linter.unusedSimpArgs false

theorem ev_szLegS (l : List S75) (q : Int) : laws_szLegS.f l q = some (if wrap64 (q - (l.length : Int)) < 0 then -1 else wrap64 (q - (l.length : Int))) := by
  unfold laws_szLegS.f
  split <;> rfl

-- laws_toLeg: as it stands

def convLeg (x : S75) : S70 := ⟨x.f0, x.f1, x.f2, x.f3, x.f4⟩
theorem ev_toLegS_l0 (xs : List S75) (hx : xs.length ≤ 1048576) : ∀ (d i : Nat) (ys : List S70), i + d = xs.length → ys.length = xs.length → Evn (fun k => laws_toLegS.l0 k xs ys (i : Int)) (ys.take i ++ (xs.drop i).map convLeg) := by
  intro d
  induction d with
  | zero =>
    intro i ys h hy
    refine Evn.step ?_
    have h1 : ¬ (i : Int) < (xs.length : Int) := by omega
    simp only [laws_toLegS.l0, if_neg h1]
    have e : ys.take i ++ (xs.drop i).map convLeg = ys := by rw [List.take_of_length_le (by omega), List.drop_eq_nil_of_le (by omega)]; simp
    rw [e]
    exact Evn.done _
  | succ d ih =>
    intro i ys h hy
    refine Evn.step ?_
    have h1 : (i : Int) < (xs.length : Int) := by omega
    have h2 : 0 ≤ (i : Int) := by omega
    have h3 : (i : Int) < (ys.length : Int) := by omega
    simp only [laws_toLegS.l0, laws_toLeg.f, if_pos h1, if_pos h2, if_pos h3, Option.bind_some, Int.toNat_natCast, wrap_succ (show i < 4611686018427387904 by omega)]
    refine (ih (i + 1) _ (by omega) (by simpa using hy)).eq_ ?_
    rw [set_take _ _ _ (by omega), getD_drop xs i z75 (by omega)]
    simp [convLeg, rd_T75]
theorem ev_toLegS (xs : List S75) (hx : xs.length ≤ 1048576) : Evn (fun k => laws_toLegS.f k xs) (xs.map convLeg) := by
  unfold laws_toLegS.f
  refine Evn.ite (fun _ => Evn.ite (fun _ => ?_) (fun h => (h (by omega)).elim)) (fun h => (h (by omega)).elim)
  have h := ev_toLegS_l0 xs hx xs.length 0 (List.replicate (xs.length : Int).toNat z70) (by omega) (by simp)
  simpa using h

-- laws_eqIntA2: as it stands

theorem ev_eqIntA2S_l0 (xs : List S64) (hx : xs.length ≤ 4194304) : ∀ (d i : Nat), i + d = xs.length → Evn (fun k => laws_eqIntA2S.l0 k xs xs (i : Int)) true := by
  intro d
  induction d with
  | zero =>
    intro i h
    refine Evn.step ?_
    have h1 : ¬ (i : Int) < (xs.length : Int) := by omega
    simp only [laws_eqIntA2S.l0, if_neg h1]
    exact Evn.done _
  | succ d ih =>
    intro i h
    refine Evn.step ?_
    have h1 : (i : Int) < (xs.length : Int) := by omega
    have h2 : 0 ≤ (i : Int) := by omega
    simp only [laws_eqIntA2S.l0, laws_eqIntA2.f, if_pos h1, if_pos h2, Option.bind_some, if_true, wrap_succ (show i < 4611686018427387904 by omega)]
    exact ih (i + 1) (by omega)
theorem ev_eqIntA2S (xs : List S64) (hx : xs.length ≤ 4194304) : Evn (fun k => laws_eqIntA2S.f k xs xs) true := by
  simp only [laws_eqIntA2S.f, if_true]
  exact ev_eqIntA2S_l0 xs hx xs.length 0 (by omega)

-- laws_eqLeg: as it stands

theorem ev_eqLegS_l0 (xs : List S70) (hx : xs.length ≤ 4194304) : ∀ (d i : Nat), i + d = xs.length → Evn (fun k => laws_eqLegS.l0 k xs xs (i : Int)) true := by
  intro d
  induction d with
  | zero =>
    intro i h
    refine Evn.step ?_
    have h1 : ¬ (i : Int) < (xs.length : Int) := by omega
    simp only [laws_eqLegS.l0, if_neg h1]
    exact Evn.done _
  | succ d ih =>
    intro i h
    refine Evn.step ?_
    have h1 : (i : Int) < (xs.length : Int) := by omega
    have h2 : 0 ≤ (i : Int) := by omega
    simp only [laws_eqLegS.l0, laws_eqLeg.f, if_pos h1, if_pos h2, Option.bind_some, if_true, wrap_succ (show i < 4611686018427387904 by omega)]
    exact ih (i + 1) (by omega)
theorem ev_eqLegS (xs : List S70) (hx : xs.length ≤ 4194304) : Evn (fun k => laws_eqLegS.f k xs xs) true := by
  simp only [laws_eqLegS.f, if_true]
  exact ev_eqLegS_l0 xs hx xs.length 0 (by omega)

/-! The marks that the law lays: b, b + 1, .. -/
def marksLeg (b : Int) : Nat → List S70
  | 0 => []
  | d + 1 => (⟨b, b + 1, b + 2, b + 3, b + 4⟩ : S70) :: marksLeg (b + 5) d
theorem marksLeg_len (d : Nat) : ∀ b, (marksLeg b d).length = d := by
  induction d with
  | zero => intro b; rfl
  | succ d ih => intro b; simp [marksLeg, ih]
theorem ev_markLegS_l0 (n : Nat) (hn : n ≤ 4194304) : ∀ (d i : Nat) (b : Int) (ys : List S70), i + d = n → ys.length = n → 0 ≤ b → b + 5 * d ≤ 1152921504606846976 → Evn (fun k => laws_markLegS.l0 k ys b (i : Int)) (b + 5 * d, ys.take i ++ marksLeg b d) := by
  intro d
  induction d with
  | zero =>
    intro i b ys h hy h0 hb
    refine Evn.step ?_
    have h1 : ¬ (i : Int) < (ys.length : Int) := by omega
    simp only [laws_markLegS.l0, if_neg h1, marksLeg]
    rw [List.take_of_length_le (by omega)]
    simpa using Evn.done _
  | succ d ih =>
    intro i b ys h hy h0 hb
    refine Evn.step ?_
    have h1 : (i : Int) < (ys.length : Int) := by omega
    have h2 : 0 ≤ (i : Int) := by omega
    have hs : ∀ (zs : List S70) (v : S70), zs.length = ys.length → rd_T70 (zs.set i v) (i : Int) = v := by
      intro zs v hz
      unfold rd_T70
      rw [Int.toNat_natCast, List.getD_eq_getElem?_getD, List.getElem?_set_self (by omega)]
      rfl
    have hk := ih (i + 1) (b + 5) (ys.set i ⟨b, b + 1, b + 2, b + 3, b + 4⟩) (by omega) (by simpa using hy) (by omega) (by omega)
    have e1 : wrap64 (b + 1) = b + 1 := by rw [wrap_id (by omega) (by omega)]
    have e2 : wrap64 (b + 1 + 1) = b + 2 := by rw [wrap_id (by omega) (by omega)]; omega
    have e3 : wrap64 (b + 2 + 1) = b + 3 := by rw [wrap_id (by omega) (by omega)]; omega
    have e4 : wrap64 (b + 3 + 1) = b + 4 := by rw [wrap_id (by omega) (by omega)]; omega
    have e5 : wrap64 (b + 4 + 1) = b + 5 := by rw [wrap_id (by omega) (by omega)]; omega
    simp only [laws_markLegS.l0, if_pos h1, if_pos h2, Option.bind_some, Int.toNat_natCast, hs, List.length_set, List.set_set, e1, e2, e3, e4, e5, wrap_succ (show i < 4611686018427387904 from Nat.lt_of_lt_of_le (show i < 4194304 + 1 by omega) (by decide))]
    refine hk.eq_ ?_
    rw [set_take _ _ _ (by omega), marksLeg, List.append_assoc]
    simp only [List.cons_append, List.nil_append, Prod.mk.injEq, and_true]
    omega
theorem ev_markLegS (ys : List S70) (a : Int) (ha : 0 ≤ a) (ha2 : a ≤ 1099511627776) (hn : ys.length ≤ 4194304) : Evn (fun k => laws_markLegS.f k ys a) (a + 5 * ys.length, marksLeg a ys.length) := by
  have h := ev_markLegS_l0 ys.length hn ys.length 0 a ys (by omega) rfl ha (by omega)
  simpa [laws_markLegS.f] using h

/-! The marks that the law lays: b, b + 1, .. -/
def marksIntA2 (b : Int) : Nat → List S64
  | 0 => []
  | d + 1 => (⟨b, b + 1⟩ : S64) :: marksIntA2 (b + 2) d
theorem marksIntA2_len (d : Nat) : ∀ b, (marksIntA2 b d).length = d := by
  induction d with
  | zero => intro b; rfl
  | succ d ih => intro b; simp [marksIntA2, ih]
theorem ev_markIntA2S_l0 (n : Nat) (hn : n ≤ 4194304) : ∀ (d i : Nat) (b : Int) (ys : List S64), i + d = n → ys.length = n → 0 ≤ b → b + 2 * d ≤ 1152921504606846976 → Evn (fun k => laws_markIntA2S.l0 k ys b (i : Int)) (b + 2 * d, ys.take i ++ marksIntA2 b d) := by
  intro d
  induction d with
  | zero =>
    intro i b ys h hy h0 hb
    refine Evn.step ?_
    have h1 : ¬ (i : Int) < (ys.length : Int) := by omega
    simp only [laws_markIntA2S.l0, if_neg h1, marksIntA2]
    rw [List.take_of_length_le (by omega)]
    simpa using Evn.done _
  | succ d ih =>
    intro i b ys h hy h0 hb
    refine Evn.step ?_
    have h1 : (i : Int) < (ys.length : Int) := by omega
    have h2 : 0 ≤ (i : Int) := by omega
    have hs : ∀ (zs : List S64) (v : S64), zs.length = ys.length → rd_T64 (zs.set i v) (i : Int) = v := by
      intro zs v hz
      unfold rd_T64
      rw [Int.toNat_natCast, List.getD_eq_getElem?_getD, List.getElem?_set_self (by omega)]
      rfl
    have hk := ih (i + 1) (b + 2) (ys.set i ⟨b, b + 1⟩) (by omega) (by simpa using hy) (by omega) (by omega)
    have e1 : wrap64 (b + 1) = b + 1 := by rw [wrap_id (by omega) (by omega)]
    have e2 : wrap64 (b + 1 + 1) = b + 2 := by rw [wrap_id (by omega) (by omega)]; omega
    simp only [laws_markIntA2S.l0, if_pos h1, if_pos h2, Option.bind_some, Int.toNat_natCast, hs, List.length_set, List.set_set, e1, e2, wrap_succ (show i < 4611686018427387904 from Nat.lt_of_lt_of_le (show i < 4194304 + 1 by omega) (by decide))]
    refine hk.eq_ ?_
    rw [set_take _ _ _ (by omega), marksIntA2, List.append_assoc]
    simp only [List.cons_append, List.nil_append, Prod.mk.injEq, and_true]
    omega
theorem ev_markIntA2S (ys : List S64) (a : Int) (ha : 0 ≤ a) (ha2 : a ≤ 1099511627776) (hn : ys.length ≤ 4194304) : Evn (fun k => laws_markIntA2S.f k ys a) (a + 2 * ys.length, marksIntA2 a ys.length) := by
  have h := ev_markIntA2S_l0 ys.length hn ys.length 0 a ys (by omega) rfl ha (by omega)
  simpa [laws_markIntA2S.f] using h

theorem ev_heldIntA2S_l0 (n : Nat) (hn : n ≤ 4194304) : ∀ (d i : Nat) (b : Int) (ys : List S64), i + d = n → ys.length = n → ys.drop i = marksIntA2 b d → 0 ≤ b → b + 2 * d ≤ 1152921504606846976 → Evn (fun k => laws_heldIntA2S.l0 k ys b (i : Int)) (b + 2 * d) := by
  intro d
  induction d with
  | zero =>
    intro i b ys h hy hd h0 hb
    refine Evn.step ?_
    have h1 : ¬ (i : Int) < (ys.length : Int) := by omega
    simp only [laws_heldIntA2S.l0, if_neg h1]
    simpa using Evn.done _
  | succ d ih =>
    intro i b ys h hy hd h0 hb
    refine Evn.step ?_
    have h1 : (i : Int) < (ys.length : Int) := by omega
    have h2 : 0 ≤ (i : Int) := by omega
    rw [getD_drop ys i z64 (by omega), marksIntA2] at hd
    injection hd with hd1 hd2
    have hr : rd_T64 ys (i : Int) = ⟨b, b + 1⟩ := by unfold rd_T64; rw [Int.toNat_natCast]; exact hd1
    have hk := ih (i + 1) (b + 2) ys (by omega) hy hd2 (by omega) (by omega)
    have e1 : wrap64 (b + 1) = b + 1 := by rw [wrap_id (by omega) (by omega)]
    have e2 : wrap64 (b + 1 + 1) = b + 2 := by rw [wrap_id (by omega) (by omega)]; omega
    simp only [laws_heldIntA2S.l0, if_pos h1, if_pos h2, hr, e1, e2, if_true, wrap_succ (show i < 4611686018427387904 from Nat.lt_of_lt_of_le (show i < 4194304 + 1 by omega) (by decide))]
    refine hk.eq_ ?_
    clear e1 e2
    omega
theorem ev_heldIntA2S (n : Nat) (a : Int) (ha : 0 ≤ a) (ha2 : a ≤ 1099511627776) (hn : n ≤ 4194304) : Evn (fun k => laws_heldIntA2S.f k (marksIntA2 a n) a) (a + 2 * n) := by
  have h := ev_heldIntA2S_l0 n hn n 0 a (marksIntA2 a n) (by omega) (marksIntA2_len n a) rfl ha (by omega)
  simpa [laws_heldIntA2S.f] using h

theorem sp_l1In (x y z : Int) : spec_l1In.f x y z = some (decide (y ≤ x ∧ x ≤ z)) := by
  unfold spec_l1In.f
  by_cases h : x ≥ y <;> simp [h] <;> omega

theorem sp_l4Station (x : Int) : spec_l4Station.f x = some (decide (0 ≤ x ∧ x ≤ 7)) := by
  simp only [spec_l4Station.f, sp_l1In, Option.bind_some]

/-! A leg's rules. -/
def okLeg (x : S70) : Bool := decide (0 ≤ x.f0 ∧ x.f0 ≤ 7) && (decide (0 ≤ x.f1 ∧ x.f1 ≤ 7) && (!decide (x.f0 = x.f1) && (decide (1 ≤ x.f2 ∧ x.f2 ≤ 500) && (decide (0 ≤ x.f3 ∧ x.f3 ≤ 359) && decide (-90 ≤ x.f4 ∧ x.f4 ≤ 90)))))
def goodLegs (xs : List S70) : Bool := xs.all okLeg && decide (xs.length ≤ 12)
theorem goodLegs_len {xs : List S70} (h : goodLegs xs = true) : xs.length ≤ 12 := by
  simp only [goodLegs, Bool.and_eq_true, decide_eq_true_eq] at h
  exact h.2
theorem goodLegs_ok {xs : List S70} (h : goodLegs xs = true) (j : Nat) (hj : j < xs.length) : okLeg (xs.getD j z70) = true := by
  simp only [goodLegs, Bool.and_eq_true, List.all_eq_true] at h
  refine h.1 _ ?_
  rw [List.getD_eq_getElem?_getD, List.getElem?_eq_getElem hj]
  exact List.getElem_mem hj
theorem okLeg_in {x : S70} (h : okLeg x = true) : (0 ≤ x.f0 ∧ x.f0 ≤ 7) ∧ (0 ≤ x.f1 ∧ x.f1 ≤ 7) ∧ ¬ x.f0 = x.f1 ∧ (1 ≤ x.f2 ∧ x.f2 ≤ 500) ∧ (0 ≤ x.f3 ∧ x.f3 ≤ 359) ∧ (-90 ≤ x.f4 ∧ x.f4 ≤ 90) := by
  simp only [okLeg, Bool.and_eq_true, decide_eq_true_eq, Bool.not_eq_true', decide_eq_false_iff_not] at h
  exact h
theorem ite_not (c : Prop) [Decidable c] (x : Bool) : (if c then some false else some x) = some (!decide c && x) := by
  by_cases h : c <;> simp [h]

theorem sp_l4Leg (x : S70) : spec_l4Leg.f x.f0 x.f1 x.f2 x.f3 x.f4 = some (okLeg x) := by
  simp only [spec_l4Leg.f, sp_l4Station, spec_l2Bearing.f, sp_l1In, Option.bind_some, ite_and, ite_not, okLeg]

theorem sp_l4Legs_l0 (xs : List S70) (hx : xs.length ≤ 4194304) : ∀ (d i : Nat), i + d = xs.length → Evn (fun k => spec_l4Legs.l0 k xs (i : Int)) ((xs.drop i).all okLeg && decide (xs.length ≤ 12)) := by
  intro d
  induction d with
  | zero =>
    intro i h
    refine Evn.step ?_
    have h1 : ¬ (i : Int) < (xs.length : Int) := by omega
    simp only [spec_l4Legs.l0, if_neg h1]
    rw [List.drop_eq_nil_of_le (by omega)]
    refine (Evn.done _).eq_ ?_
    simp only [List.all_nil, Bool.true_and, decide_eq_decide]
    omega
  | succ d ih =>
    intro i h
    refine Evn.step ?_
    have h1 : (i : Int) < (xs.length : Int) := by omega
    have h2 : 0 ≤ (i : Int) := by omega
    simp only [spec_l4Legs.l0, if_pos h1, if_pos h2, sp_l4Leg, Option.bind_some, wrap_succ (show i < 4611686018427387904 by omega), rd_T70, Int.toNat_natCast]
    rw [getD_drop xs i z70 (by omega), List.all_cons]
    exact Evn.ite (fun c => (ih (i + 1) (by omega)).eq_ (by simp only [c, Bool.true_and])) (fun c => (Evn.done _).eq_ (by simp only [Bool.eq_false_iff.mpr c, Bool.false_and]))
theorem sp_l4Legs (xs : List S70) (hx : xs.length ≤ 4194304) : Evn (fun k => spec_l4Legs.f k xs) (goodLegs xs) := by
  have h := sp_l4Legs_l0 xs hx xs.length 0 (by omega)
  simpa [spec_l4Legs.f, goodLegs] using h

def shB (x y : S70) : Bool := (decide (x.f0 = y.f0) && decide (x.f1 = y.f1)) || (decide (x.f0 = y.f1) && decide (x.f1 = y.f0))
theorem shared_form (a b c d : Int) : (if a = c then (if b = d then some true else (if a = d then some (b == c) else some false)) else (if a = d then some (b == c) else some false)) = some ((decide (a = c) && decide (b = d)) || (decide (a = d) && decide (b = c))) := by
  have e : (b == c) = decide (b = c) := rfl
  rw [e]
  by_cases h1 : a = c <;> by_cases h2 : b = d <;> by_cases h3 : a = d <;> simp [h1, h2, h3]
  all_goals (by_cases h4 : c = d <;> simp [h4])

theorem sp_l20Shared (x y : S70) : spec_l20Shared.f x.f0 x.f1 x.f2 x.f3 x.f4 y.f0 y.f1 y.f2 y.f3 y.f4 = some (shB x y) := by
  unfold spec_l20Shared.f
  exact shared_form x.f0 x.f1 y.f0 y.f1

def prRow (xs ys : List S70) (i : Nat) : Nat → Nat → List S64
  | 0, _ => []
  | d + 1, j => if shB (xs.getD i z70) (ys.getD j z70) = true then (⟨i, j⟩ : S64) :: prRow xs ys i d (j + 1) else prRow xs ys i d (j + 1)
def prs (xs ys : List S70) : Nat → Nat → List S64
  | 0, _ => []
  | d + 1, i => prRow xs ys i ys.length 0 ++ prs xs ys d (i + 1)
theorem sp_l20Pairs_l1 (xs ys : List S70) (hx : xs.length ≤ 4194304) (hy : ys.length ≤ 4194304) (i m : Nat) (R : List S64) (hi : i < xs.length)
    (hrest : ∀ zs : List S64, zs.length + m ≤ 100000000 → Evn (fun k => spec_l20Pairs.l0 k xs ys zs ((i + 1 : Nat) : Int)) (zs ++ R)) : ∀ (d j : Nat) (zs : List S64), j + d = ys.length → zs.length + d + m ≤ 100000000 → Evn (fun k => spec_l20Pairs.l1 k xs ys zs (i : Int) (j : Int)) (zs ++ (prRow xs ys i d j ++ R)) := by
  intro d
  induction d with
  | zero =>
    intro j zs h hz
    refine Evn.step ?_
    have h1 : ¬ (j : Int) < (ys.length : Int) := by omega
    simp only [spec_l20Pairs.l1, if_neg h1, prRow, List.nil_append, wrap_succ (show i < 4611686018427387904 by omega)]
    exact hrest zs (by omega)
  | succ d ih =>
    intro j zs h hz
    have h1 : (j : Int) < (ys.length : Int) := by omega
    have h2 : 0 ≤ (i : Int) := by omega
    have h3 : (i : Int) < (xs.length : Int) := by omega
    have h4 : 0 ≤ (j : Int) := by omega
    have hw := wrap_succ (show j < 4611686018427387904 by omega)
    refine Evn.step ?_
    simp only [spec_l20Pairs.l1, if_pos h1, if_pos h2, if_pos h3, if_pos h4, hw, rd_T70, Int.toNat_natCast, sp_l20Shared, Option.bind_some, prRow]
    clear hw
    refine Evn.ite (fun c => ?_) (fun c => ?_)
    · rw [if_pos c]
      refine Evn.ite (fun _ => ?_) (fun c2 => absurd (by omega) c2)
      have h5 := ih (j + 1) (zs ++ [(⟨i, j⟩ : S64)]) (by omega) (by rw [List.length_append, List.length_singleton]; omega)
      rw [List.append_assoc] at h5
      exact h5
    · rw [if_neg c]
      exact ih (j + 1) zs (by omega) (by omega)
theorem sp_l20Pairs_l0 (xs ys : List S70) (hx : xs.length ≤ 4194304) (hy : ys.length ≤ 4194304) : ∀ (d i : Nat) (zs : List S64), i + d = xs.length → zs.length + d * ys.length ≤ 100000000 → Evn (fun k => spec_l20Pairs.l0 k xs ys zs (i : Int)) (zs ++ prs xs ys d i) := by
  intro d
  induction d with
  | zero =>
    intro i zs h hz
    refine Evn.step ?_
    have h1 : ¬ (i : Int) < (xs.length : Int) := by omega
    simp only [spec_l20Pairs.l0, if_neg h1, prs, List.append_nil]
    exact Evn.done _
  | succ d ih =>
    intro i zs h hz
    have h1 : (i : Int) < (xs.length : Int) := by omega
    rw [Nat.succ_mul] at hz
    refine Evn.step ?_
    simp only [spec_l20Pairs.l0, if_pos h1, prs]
    exact sp_l20Pairs_l1 xs ys hx hy i (d * ys.length) (prs xs ys d (i + 1)) (by omega) (fun zs' hz' => ih (i + 1) zs' (by omega) hz') ys.length 0 zs (by omega) (by omega)
theorem sp_l20Pairs (xs ys : List S70) (hx : xs.length ≤ 4194304) (hy : ys.length ≤ 4194304) (hm : xs.length * ys.length ≤ 100000000) : Evn (fun k => spec_l20Pairs.f k xs ys) (prs xs ys xs.length 0) := by
  have h := sp_l20Pairs_l0 xs ys hx hy xs.length 0 [] (by omega) (by simpa using hm)
  unfold spec_l20Pairs.f
  simpa using h

theorem sp_l1Most (a b : Int) : spec_l1Most.f a b = some (max a b) := by
  unfold spec_l1Most.f
  split <;> congr 1 <;> omega

def absI (z : Int) : Int := mx z (wrap64 (-z))
def turnI (a b : Int) : Int := mn (absI (wrap64 (a - b))) (wrap64 (360 - absI (wrap64 (a - b))))
def revL (y : S70) : S70 := ⟨y.f1, y.f0, y.f2, Int.tmod (wrap64 (y.f3 + 180)) 360, wrap64 (-y.f4)⟩
def agB (x y : S70) (g t : Int) : Bool := decide (turnI x.f3 y.f3 ≤ g) && (decide (absI (wrap64 (x.f4 - y.f4)) ≤ g) && decide (absI (wrap64 (x.f2 - y.f2)) ≤ t))
def agreeB (x y : S70) (g t : Int) : Bool := if y.f0 = x.f0 then agB x y g t else agB x (revL y) g t

theorem sp_TurnBetween (a b : Int) (ha : 0 ≤ a ∧ a ≤ 359) (hb : 0 ≤ b ∧ b ≤ 359) : spec_TurnBetween.f a b = some (turnI a b, true) := by
  simp only [spec_TurnBetween.f, spec_l2Bearing.f, sp_l1In, Option.bind_some, decide_eq_true ha, decide_eq_true hb, if_true]
  unfold turnI absI mn mx
  have e1 : wrap64 (a - b) = a - b := wrap_id (by omega) (by omega)
  rw [e1]
  clear e1
  have e2 : wrap64 (a - b + 360) = a - b + 360 := wrap_id (by omega) (by omega)
  have e3 : wrap64 (-(a - b)) = -(a - b) := wrap_id (by clear e2; omega) (by clear e2; omega)
  rw [e2, e3, Int.tmod_eq_emod_of_nonneg (by clear e2 e3; omega)]
  clear e2 e3
  have hm : 0 ≤ (a - b + 360) % 360 ∧ (a - b + 360) % 360 < 360 := by omega
  have e4 : wrap64 (360 - (a - b + 360) % 360) = 360 - (a - b + 360) % 360 := wrap_id (by omega) (by omega)
  rw [e4]
  clear e4
  have hs : ∀ z : Int, 0 ≤ z → z ≤ 359 → wrap64 (360 - z) = 360 - z := fun z _ _ => wrap_id (by omega) (by omega)
  unfold spec_l1Least.f
  by_cases h : a - b < -(a - b)
  · rw [if_pos h, hs _ (by clear hs; omega) (by clear hs; omega)]
    clear hs
    have e5 : (a - b + 360) % 360 = a - b + 360 := by omega
    rw [e5]
    split <;> split <;> simp only [Option.bind_some, Option.some.injEq, Prod.mk.injEq, and_true] <;> omega
  · rw [if_neg h, hs _ (by clear hs; omega) (by clear hs; omega)]
    clear hs
    have e5 : (a - b + 360) % 360 = a - b := by omega
    rw [e5]
    split <;> split <;> simp only [Option.bind_some, Option.some.injEq, Prod.mk.injEq, and_true] <;> omega
theorem most_abs (a b : Int) (h : -1000 ≤ a ∧ a ≤ 1000) (h' : -1000 ≤ b ∧ b ≤ 1000) : spec_l1Most.f (wrap64 (a - b)) (wrap64 (b - a)) = some (absI (wrap64 (a - b))) := by
  have e1 : wrap64 (a - b) = a - b := wrap_id (by omega) (by omega)
  have e2 : wrap64 (b - a) = b - a := wrap_id (by clear e1; omega) (by clear e1; omega)
  have e3 : wrap64 (-(a - b)) = -(a - b) := wrap_id (by clear e1 e2; omega) (by clear e1 e2; omega)
  unfold spec_l1Most.f absI mx
  rw [e1, e2, e3]
  clear e1 e2 e3
  split <;> split <;> simp only [Option.some.injEq] <;> omega
theorem sp_agree_end (x z : S70) (g t : Int) (h3 : 0 ≤ x.f3 ∧ x.f3 ≤ 359) (h4 : -90 ≤ x.f4 ∧ x.f4 ≤ 90) (h2 : 1 ≤ x.f2 ∧ x.f2 ≤ 500) (k3 : 0 ≤ z.f3 ∧ z.f3 ≤ 359) (k4 : -90 ≤ z.f4 ∧ z.f4 ≤ 90) (k2 : 1 ≤ z.f2 ∧ z.f2 ≤ 500) :
    Evn (fun k => spec_DoAgree.j3 k g t false x.f0 x.f1 x.f2 x.f3 x.f4 z.f0 z.f1 z.f2 z.f3 z.f4) (agB x z g t, true) := by
  refine Evn.step ?_
  simp only [spec_DoAgree.j3, Bool.false_eq_true, if_false, sp_TurnBetween _ _ h3 k3, most_abs x.f4 z.f4 (by omega) (by omega), most_abs x.f2 z.f2 (by omega) (by omega), Option.bind_some]
  unfold agB
  refine Evn.ite (fun c1 => Evn.ite (fun c2 => ?_) (fun c2 => ?_)) (fun c1 => ?_)
  · rw [decide_eq_true c1, decide_eq_true c2, Bool.true_and, Bool.true_and]; exact Evn.done _
  · rw [decide_eq_false c2, Bool.false_and, Bool.and_false]; exact Evn.done _
  · rw [decide_eq_false c1, Bool.false_and]; exact Evn.done _
theorem rev_ok {y : S70} (h3 : 0 ≤ y.f3 ∧ y.f3 ≤ 359) (h4 : -90 ≤ y.f4 ∧ y.f4 ≤ 90) : (0 ≤ (revL y).f3 ∧ (revL y).f3 ≤ 359) ∧ (-90 ≤ (revL y).f4 ∧ (revL y).f4 ≤ 90) := by
  unfold revL
  dsimp only
  have e2 : wrap64 (y.f3 + 180) = y.f3 + 180 := wrap_id (by omega) (by omega)
  have e3 : wrap64 (-y.f4) = -y.f4 := wrap_id (by clear e2; omega) (by clear e2; omega)
  rw [e2, e3, Int.tmod_eq_emod_of_nonneg (by clear e2 e3; omega)]
  clear e2 e3
  omega
theorem sp_DoAgree (x y : S70) (g t : Int) (hx : okLeg x = true) (hy : okLeg y = true) (hg : 0 ≤ g) (ht : 0 ≤ t) :
    Evn (fun k => spec_DoAgree.f k x.f0 x.f1 x.f2 x.f3 x.f4 y.f0 y.f1 y.f2 y.f3 y.f4 g t) (if shB x y = true then (agreeB x y g t, true) else (false, false)) := by
  obtain ⟨_, _, hn, h2, h3, h4⟩ := okLeg_in hx
  obtain ⟨_, _, hm, k2, k3, k4⟩ := okLeg_in hy
  obtain ⟨r3, r4⟩ := rev_ok k3 k4
  have hg' : ¬ g < 0 := by omega
  have ht' : decide (t < 0) = false := decide_eq_false (by omega)
  simp only [spec_DoAgree.f, sp_l4Leg, hx, hy, if_true, Option.bind_some, if_neg hg', ht']
  refine Evn.step ?_
  simp only [spec_DoAgree.j0, Bool.false_eq_true, if_false]
  have tail : ¬ (x.f0 = y.f1 ∧ x.f1 = y.f0) → Evn (fun k => spec_DoAgree.j2 k g t x.f0 x.f1 x.f2 x.f3 x.f4 y.f0 y.f1 y.f2 y.f3 y.f4) (if shB x y = true then (agreeB x y g t, true) else (false, false)) := by
    intro hr
    refine Evn.step ?_
    simp only [spec_DoAgree.j2]
    by_cases c1 : x.f0 = y.f0
    · simp only [if_pos c1]
      by_cases c2 : x.f1 = y.f1
      · have e1 : (x.f1 != y.f1) = false := bne_eq_false_iff_eq.2 c2
        have e2 : shB x y = true := by unfold shB; rw [decide_eq_true c1, decide_eq_true c2]; rfl
        have e3 : agreeB x y g t = agB x y g t := by unfold agreeB; rw [if_pos c1.symm]
        rw [e1, e2, if_pos rfl, e3]
        exact sp_agree_end x y g t h3 h4 h2 k3 k4 k2
      · have e1 : (x.f1 != y.f1) = true := bne_iff_ne.2 c2
        have e2 : shB x y = false := by
          unfold shB
          rw [decide_eq_false c2, Bool.and_false, Bool.false_or]
          by_cases c3 : x.f0 = y.f1
          · rw [decide_eq_false (fun h => hr ⟨c3, h⟩), Bool.and_false]
          · rw [decide_eq_false c3, Bool.false_and]
        rw [e1, e2, if_neg (by decide)]
        refine Evn.step ?_
        simp only [spec_DoAgree.j3, if_true]
        exact Evn.done _
    · simp only [if_neg c1]
      have e2 : shB x y = false := by
        unfold shB
        rw [decide_eq_false c1, Bool.false_and, Bool.false_or]
        by_cases c3 : x.f0 = y.f1
        · rw [decide_eq_false (fun h => hr ⟨c3, h⟩), Bool.and_false]
        · rw [decide_eq_false c3, Bool.false_and]
      rw [e2, if_neg (by decide)]
      refine Evn.step ?_
      simp only [spec_DoAgree.j3, if_true]
      exact Evn.done _
  refine Evn.ite (fun c1 => Evn.step ?_) (fun c1 => Evn.step ?_)
  · simp only [spec_DoAgree.j1]
    refine Evn.ite (fun c2 => ?_) (fun c2 => ?_)
    · have c3 : x.f1 = y.f0 := beq_iff_eq.1 c2
      simp only [spec_l4Reverse.f, Option.bind_some]
      have e2 : shB x y = true := by unfold shB; rw [decide_eq_true c1, decide_eq_true c3, Bool.and_self, Bool.or_true]
      have e3 : agreeB x y g t = agB x (revL y) g t := by unfold agreeB; rw [if_neg (by omega)]
      rw [e2, if_pos rfl, e3]
      refine Evn.step ?_
      simp only [spec_DoAgree.j2, if_pos c1]
      have e1 : (x.f1 != y.f0) = false := bne_eq_false_iff_eq.2 c3
      rw [e1]
      exact sp_agree_end x (revL y) g t h3 h4 h2 r3 r4 k2
    · exact tail (fun h => c2 (beq_iff_eq.2 h.2))
  · simp only [spec_DoAgree.j1, Bool.false_eq_true, if_false]
    exact tail (fun h => c1 h.1)

theorem prRow_len (xs ys : List S70) (i : Nat) : ∀ d j, (prRow xs ys i d j).length ≤ d := by
  intro d
  induction d with
  | zero => intro j; simp [prRow]
  | succ d ih =>
    intro j
    have := ih (j + 1)
    unfold prRow
    split
    · rw [List.length_cons]; omega
    · omega
theorem prs_len (xs ys : List S70) : ∀ d i, (prs xs ys d i).length ≤ d * ys.length := by
  intro d
  induction d with
  | zero => intro i; simp [prs]
  | succ d ih =>
    intro i
    have h1 := ih (i + 1)
    have h2 := prRow_len xs ys i ys.length 0
    rw [prs, List.length_append, Nat.succ_mul]
    omega

def cfRow (xs ys : List S70) (g t : Int) (i : Nat) : Nat → Nat → List S64
  | 0, _ => []
  | d + 1, j => if shB (xs.getD i z70) (ys.getD j z70) = true then (if (!agreeB (xs.getD i z70) (ys.getD j z70) g t) = true then (⟨i, j⟩ : S64) :: cfRow xs ys g t i d (j + 1) else cfRow xs ys g t i d (j + 1)) else cfRow xs ys g t i d (j + 1)
def cfs (xs ys : List S70) (g t : Int) : Nat → Nat → List S64
  | 0, _ => []
  | d + 1, i => cfRow xs ys g t i ys.length 0 ++ cfs xs ys g t d (i + 1)
theorem cfRow_len (xs ys : List S70) (g t : Int) (i : Nat) : ∀ d j, (cfRow xs ys g t i d j).length ≤ d := by
  intro d
  induction d with
  | zero => intro j; simp [cfRow]
  | succ d ih =>
    intro j
    have := ih (j + 1)
    unfold cfRow
    split
    · split
      · rw [List.length_cons]; omega
      · omega
    · omega
theorem cfs_len (xs ys : List S70) (g t : Int) : ∀ d i, (cfs xs ys g t d i).length ≤ d * ys.length := by
  intro d
  induction d with
  | zero => intro i; simp [cfs]
  | succ d ih =>
    intro i
    have h1 := ih (i + 1)
    have h2 := cfRow_len xs ys g t i ys.length 0
    rw [cfs, List.length_append, Nat.succ_mul]
    omega
/-! A pair of the list of pairs: in range, and shared. -/
def pairOk (xs ys : List S70) (p : S64) : Prop := (0 ≤ p.f0 ∧ p.f0 < (xs.length : Int)) ∧ (0 ≤ p.f1 ∧ p.f1 < (ys.length : Int)) ∧ shB (xs.getD p.f0.toNat z70) (ys.getD p.f1.toNat z70) = true
def cfP (xs ys : List S70) (g t : Int) (p : S64) : Bool := !agreeB (xs.getD p.f0.toNat z70) (ys.getD p.f1.toNat z70) g t
theorem prRow_ok (xs ys : List S70) (i : Nat) (hi : i < xs.length) : ∀ d j, j + d = ys.length → ∀ p ∈ prRow xs ys i d j, pairOk xs ys p := by
  intro d
  induction d with
  | zero => intro j _ p hp; simp [prRow] at hp
  | succ d ih =>
    intro j h p hp
    unfold prRow at hp
    split at hp
    · rename_i c
      rcases List.mem_cons.1 hp with rfl | hp
      · exact ⟨⟨by dsimp only; omega, by dsimp only; omega⟩, ⟨by dsimp only; omega, by dsimp only; omega⟩, by simpa using c⟩
      · exact ih (j + 1) (by omega) p hp
    · exact ih (j + 1) (by omega) p hp
theorem prs_ok (xs ys : List S70) : ∀ d i, i + d = xs.length → ∀ p ∈ prs xs ys d i, pairOk xs ys p := by
  intro d
  induction d with
  | zero => intro i _ p hp; simp [prs] at hp
  | succ d ih =>
    intro i h p hp
    rw [prs] at hp
    rcases List.mem_append.1 hp with hp | hp
    · exact prRow_ok xs ys i (by omega) ys.length 0 (by omega) p hp
    · exact ih (i + 1) (by omega) p hp
theorem cfRow_eq (xs ys : List S70) (g t : Int) (i : Nat) : ∀ d j, (prRow xs ys i d j).filter (cfP xs ys g t) = cfRow xs ys g t i d j := by
  intro d
  induction d with
  | zero => intro j; rfl
  | succ d ih =>
    intro j
    unfold prRow cfRow
    by_cases c : shB (xs.getD i z70) (ys.getD j z70) = true
    · rw [if_pos c, if_pos c, List.filter_cons, ih]
      have e : cfP xs ys g t ⟨i, j⟩ = !agreeB (xs.getD i z70) (ys.getD j z70) g t := by simp [cfP]
      rw [e]
    · rw [if_neg c, if_neg c, ih]
theorem cfs_eq (xs ys : List S70) (g t : Int) : ∀ d i, (prs xs ys d i).filter (cfP xs ys g t) = cfs xs ys g t d i := by
  intro d
  induction d with
  | zero => intro i; rfl
  | succ d ih =>
    intro i
    rw [prs, cfs, List.filter_append, cfRow_eq, ih]
def cfTs (xs ys : List S70) (g t : Int) : List S64 × Bool := if goodLegs xs = true ∧ goodLegs ys = true ∧ 0 ≤ g ∧ 0 ≤ t then (cfs xs ys g t xs.length 0, true) else ([], false)

theorem sp_ConflictLegs_l0 (xs ys : List S70) (hx : goodLegs xs = true) (hy : goodLegs ys = true) (g t : Int) (hg : 0 ≤ g) (ht : 0 ≤ t) (ps : List S64) (hp : ∀ p ∈ ps, pairOk xs ys p) (hl : ps.length ≤ 4194304) : ∀ (d i : Nat) (zs : List S64), i + d = ps.length → zs.length + d ≤ 100000000 → Evn (fun k => spec_ConflictLegs.l0 k xs ys g t zs ps (i : Int)) (zs ++ (ps.drop i).filter (cfP xs ys g t), true) := by
  intro d
  induction d with
  | zero =>
    intro i zs h hz
    refine Evn.step ?_
    have h1 : ¬ (i : Int) < (ps.length : Int) := by omega
    simp only [spec_ConflictLegs.l0, if_neg h1]
    rw [List.drop_eq_nil_of_le (by omega), List.filter_nil, List.append_nil]
    exact Evn.done _
  | succ d ih =>
    intro i zs h hz
    have h1 : (i : Int) < (ps.length : Int) := by omega
    have h2 : 0 ≤ (i : Int) := by omega
    have hm : ps.getD i z64 ∈ ps := by
      rw [List.getD_eq_getElem?_getD, List.getElem?_eq_getElem (by omega)]
      exact List.getElem_mem _
    obtain ⟨⟨p1, p2⟩, ⟨p3, p4⟩, p5⟩ := hp _ hm
    have hw := wrap_succ (show i < 4611686018427387904 by omega)
    refine Evn.step ?_
    have er : rd_T64 ps (i : Int) = ps.getD i z64 := by unfold rd_T64; rw [Int.toNat_natCast]
    simp only [spec_ConflictLegs.l0, if_pos h1, if_pos h2, hw, er, if_pos p1, if_pos p2, if_pos p3, if_pos p4, rd_T70]
    clear hw er
    rw [getD_drop ps i z64 (by omega), List.filter_cons]
    have hxx := goodLegs_ok hx (ps.getD i z64).f0.toNat (by omega)
    have hyy := goodLegs_ok hy (ps.getD i z64).f1.toNat (by omega)
    have hD := sp_DoAgree _ _ g t hxx hyy hg ht
    rw [if_pos p5] at hD
    refine Evn.bind hD ?_
    dsimp only
    have ec : cfP xs ys g t (ps.getD i z64) = !agreeB (xs.getD (ps.getD i z64).f0.toNat z70) (ys.getD (ps.getD i z64).f1.toNat z70) g t := rfl
    refine Evn.ite (fun c => ?_) (fun c => ?_)
    · rw [ec, c, Bool.not_true, if_neg (by decide)]
      exact ih (i + 1) zs (by omega) (by omega)
    · rw [ec, Bool.eq_false_iff.mpr c, Bool.not_false, if_pos rfl]
      refine Evn.ite (fun _ => ?_) (fun c2 => absurd (by omega) c2)
      have h5 := ih (i + 1) (zs ++ [(⟨(ps.getD i z64).f0, (ps.getD i z64).f1⟩ : S64)]) (by omega) (by rw [List.length_append, List.length_singleton]; omega)
      rw [List.append_assoc] at h5
      exact h5
theorem sp_ConflictLegs (xs ys : List S70) (g t : Int) (hx : xs.length ≤ 4194304) (hy : ys.length ≤ 4194304) : Evn (fun k => spec_ConflictLegs.f k xs ys g t) (cfTs xs ys g t) := by
  have no : ¬ (goodLegs xs = true ∧ goodLegs ys = true ∧ 0 ≤ g ∧ 0 ≤ t) → Evn (fun k => spec_ConflictLegs.j0 k xs ys g t [] true) (cfTs xs ys g t) := by
    intro h
    unfold cfTs
    rw [if_neg h]
    refine Evn.step ?_
    simp only [spec_ConflictLegs.j0, if_true]
    exact Evn.done _
  unfold spec_ConflictLegs.f
  simp only [Option.bind_some]
  refine Evn.bind (sp_l4Legs xs hx) ?_
  refine Evn.ite (fun c1 => ?_) (fun c1 => no (fun h => c1 h.1))
  refine Evn.bind (sp_l4Legs ys hy) ?_
  refine Evn.ite (fun c2 => ?_) (fun c2 => no (fun h => c2 h.2.1))
  refine Evn.ite (fun c3 => no (fun h => by omega)) (fun c3 => ?_)
  by_cases c4 : t < 0
  · rw [decide_eq_true c4]
    exact no (fun h => by omega)
  · rw [decide_eq_false c4]
    refine Evn.step ?_
    simp only [spec_ConflictLegs.j0, Bool.false_eq_true, if_false]
    have h2 : xs.length * ys.length ≤ 144 := Nat.mul_le_mul (goodLegs_len c1) (goodLegs_len c2)
    refine Evn.bind (sp_l20Pairs xs ys hx hy (by omega)) ?_
    have hl := prs_len xs ys xs.length 0
    have h := sp_ConflictLegs_l0 xs ys c1 c2 g t (by omega) (by omega) (prs xs ys xs.length 0) (prs_ok xs ys xs.length 0 (by omega)) (by omega) (prs xs ys xs.length 0).length 0 [] (by omega) (by simp only [List.length_nil]; omega)
    rw [List.nil_append, List.drop_zero, cfs_eq] at h
    unfold cfTs
    rw [if_pos ⟨c1, c2, by omega, by omega⟩]
    exact h

theorem im_within (x y z : Int) : impl_within.f x y z = some (decide (y ≤ x ∧ x ≤ z)) := by
  unfold impl_within.f
  by_cases h : x ≥ y <;> simp [h] <;> omega

theorem im_isStation (x : Int) : impl_isStation.f x = some (decide (0 ≤ x ∧ x ≤ 7)) := by
  simp only [impl_isStation.f, im_within, Option.bind_some]

theorem im_IsLeg (x : S70) : impl_IsLeg.f x.f0 x.f1 x.f2 x.f3 x.f4 = some (okLeg x) := by
  simp only [impl_IsLeg.f, im_isStation, impl_isBearing.f, im_within, Option.bind_some, ite_and, ite_not, okLeg]

theorem im_areLegs_l0 (xs : List S70) (hx : xs.length ≤ 4194304) : ∀ (d i : Nat), i + d = xs.length → Evn (fun k => impl_areLegs.l0 k xs xs (xs.length : Int) (i : Int)) ((xs.drop i).all okLeg && decide (xs.length ≤ 12)) := by
  intro d
  induction d with
  | zero =>
    intro i h
    refine Evn.step ?_
    have h1 : ¬ (i : Int) < (xs.length : Int) := by omega
    simp only [impl_areLegs.l0, if_neg h1]
    rw [List.drop_eq_nil_of_le (by omega)]
    refine (Evn.done _).eq_ ?_
    simp only [List.all_nil, Bool.true_and, decide_eq_decide]
    omega
  | succ d ih =>
    intro i h
    refine Evn.step ?_
    have h1 : (i : Int) < (xs.length : Int) := by omega
    have h2 : 0 ≤ (i : Int) := by omega
    simp only [impl_areLegs.l0, if_pos h1, if_pos h2, im_IsLeg, Option.bind_some, wrap_succ (show i < 4611686018427387904 by omega), rd_T70, Int.toNat_natCast]
    rw [getD_drop xs i z70 (by omega), List.all_cons]
    exact Evn.ite (fun c => (ih (i + 1) (by omega)).eq_ (by simp only [c, Bool.true_and])) (fun c => (Evn.done _).eq_ (by simp only [Bool.eq_false_iff.mpr c, Bool.false_and]))
theorem im_areLegs (xs : List S70) (hx : xs.length ≤ 4194304) : Evn (fun k => impl_areLegs.f k xs) (goodLegs xs) := by
  have h := im_areLegs_l0 xs hx xs.length 0 (by omega)
  simpa [impl_areLegs.f, goodLegs] using h

theorem im_joins (x y : S70) : impl_joins.f x.f0 x.f1 x.f2 x.f3 x.f4 y.f0 y.f1 y.f2 y.f3 y.f4 = some (shB x y) := by
  unfold impl_joins.f
  exact shared_form x.f0 x.f1 y.f0 y.f1

theorem im_absolute (a : Int) (h : -9223372036854775807 ≤ a) (h' : a ≤ 9223372036854775807) : impl_absolute.f a = some ((a.natAbs : Nat) : Int) := by
  unfold impl_absolute.f
  rw [wrap_id (by omega) (by omega)]
  unfold mx
  congr 1
  omega

theorem im_agree (x y : S70) (g t : Int) : impl_agree.f x.f0 x.f1 x.f2 x.f3 x.f4 y.f0 y.f1 y.f2 y.f3 y.f4 g t = some (agreeB x y g t) := by
  simp only [impl_agree.f, impl_turn.f, impl_absolute.f, impl_Leg_reverse.f, impl_back.f, Option.bind_some]
  unfold agreeB
  split
  · unfold agB turnI absI
    by_cases c1 : mn (mx (wrap64 (x.f3 - y.f3)) (wrap64 (-wrap64 (x.f3 - y.f3)))) (wrap64 (360 - mx (wrap64 (x.f3 - y.f3)) (wrap64 (-wrap64 (x.f3 - y.f3))))) ≤ g
    · rw [if_pos c1, decide_eq_true c1, Bool.true_and]
      split
      · rename_i c2; rw [decide_eq_true c2, Bool.true_and]
      · rename_i c2; rw [decide_eq_false c2, Bool.false_and]
    · rw [if_neg c1, decide_eq_false c1, Bool.false_and]
  · unfold agB turnI absI revL
    dsimp only
    split
    · rename_i c1
      rw [decide_eq_true c1, Bool.true_and]
      split
      · rename_i c2; rw [decide_eq_true c2, Bool.true_and]
      · rename_i c2; rw [decide_eq_false c2, Bool.false_and]
    · rename_i c1
      rw [decide_eq_false c1, Bool.false_and]

theorem im_xDisagree (x y : S70) (g t : Int) : impl_xDisagree.f x.f0 x.f1 x.f2 x.f3 x.f4 y.f0 y.f1 y.f2 y.f3 y.f4 g t = some (!agreeB x y g t) := by
  unfold impl_xDisagree.f
  rw [im_agree]
  rfl

theorem im_sharedLegs_l1 (xs ys : List S70) (g t : Int) (hx : xs.length ≤ 4194304) (hy : ys.length ≤ 4194304) (i m : Nat) (R : List S64) (hi : i < xs.length) (x : S70) (hxx : x = xs.getD i z70)
    (hrest : ∀ zs : List S64, zs.length + m ≤ 100000000 → Evn (fun k => impl_sharedLegs.l0 k ys g t zs xs (xs.length : Int) ((i + 1 : Nat) : Int)) (zs ++ R)) : ∀ (d j : Nat) (zs : List S64), j + d = ys.length → zs.length + d + m ≤ 100000000 → Evn (fun k => impl_sharedLegs.l1 k ys g t zs (i : Int) xs (xs.length : Int) (i : Int) ys (ys.length : Int) (j : Int) x.f0 x.f1 x.f2 x.f3 x.f4) (zs ++ (cfRow xs ys g t i d j ++ R)) := by
  intro d
  induction d with
  | zero =>
    intro j zs h hz
    refine Evn.step ?_
    have h1 : ¬ (j : Int) < (ys.length : Int) := by omega
    simp only [impl_sharedLegs.l1, if_neg h1, cfRow, List.nil_append, wrap_succ (show i < 4611686018427387904 by omega)]
    exact hrest zs (by omega)
  | succ d ih =>
    intro j zs h hz
    have h1 : (j : Int) < (ys.length : Int) := by omega
    have h4 : 0 ≤ (j : Int) := by omega
    have hw := wrap_succ (show j < 4611686018427387904 by omega)
    refine Evn.step ?_
    simp only [impl_sharedLegs.l1, if_pos h1, if_pos h4, hw, rd_T70, Int.toNat_natCast, im_joins, im_xDisagree, Option.bind_some, cfRow, if_true]
    clear hw
    rw [hxx] at ih ⊢
    refine Evn.ite (fun c => ?_) (fun c => ?_)
    · rw [if_pos c]
      refine Evn.ite (fun c3 => ?_) (fun c3 => ?_)
      · rw [if_pos c3]
        refine Evn.ite (fun _ => ?_) (fun c2 => absurd (by omega) c2)
        have h5 := ih (j + 1) (zs ++ [(⟨i, j⟩ : S64)]) (by omega) (by rw [List.length_append, List.length_singleton]; omega)
        rw [List.append_assoc] at h5
        exact h5
      · rw [if_neg c3]
        exact ih (j + 1) zs (by omega) (by omega)
    · rw [if_neg c]
      exact ih (j + 1) zs (by omega) (by omega)
theorem im_sharedLegs_l0 (xs ys : List S70) (g t : Int) (hx : xs.length ≤ 4194304) (hy : ys.length ≤ 4194304) : ∀ (d i : Nat) (zs : List S64), i + d = xs.length → zs.length + d * ys.length ≤ 100000000 → Evn (fun k => impl_sharedLegs.l0 k ys g t zs xs (xs.length : Int) (i : Int)) (zs ++ cfs xs ys g t d i) := by
  intro d
  induction d with
  | zero =>
    intro i zs h hz
    refine Evn.step ?_
    have h1 : ¬ (i : Int) < (xs.length : Int) := by omega
    simp only [impl_sharedLegs.l0, if_neg h1, cfs, List.append_nil]
    exact Evn.done _
  | succ d ih =>
    intro i zs h hz
    have h1 : (i : Int) < (xs.length : Int) := by omega
    have h2 : 0 ≤ (i : Int) := by omega
    rw [Nat.succ_mul] at hz
    refine Evn.step ?_
    simp only [impl_sharedLegs.l0, if_pos h1, if_pos h2, rd_T70, Int.toNat_natCast, cfs]
    exact im_sharedLegs_l1 xs ys g t hx hy i (d * ys.length) (cfs xs ys g t d (i + 1)) (by omega) _ rfl (fun zs' hz' => ih (i + 1) zs' (by omega) hz') ys.length 0 zs (by omega) (by omega)
theorem im_sharedLegs (xs ys : List S70) (g t : Int) (hx : xs.length ≤ 4194304) (hy : ys.length ≤ 4194304) (hm : xs.length * ys.length ≤ 100000000) : Evn (fun k => impl_sharedLegs.f k xs ys g t) (cfs xs ys g t xs.length 0) := by
  have h := im_sharedLegs_l0 xs ys g t hx hy xs.length 0 [] (by omega) (by simpa using hm)
  unfold impl_sharedLegs.f
  simpa using h

theorem im_ConflictLegs (xs ys : List S70) (g t : Int) (hx : xs.length ≤ 4194304) (hy : ys.length ≤ 4194304) : Evn (fun k => impl_ConflictLegs.f k xs ys g t) (cfTs xs ys g t) := by
  unfold impl_ConflictLegs.f cfTs
  refine Evn.bind (im_areLegs xs hx) ?_
  refine Evn.ite (fun c1 => ?_) (fun c1 => by rw [if_neg (fun h => c1 h.1)]; exact Evn.done _)
  refine Evn.bind (im_areLegs ys hy) ?_
  refine Evn.ite (fun c2 => ?_) (fun c2 => by rw [if_neg (fun h => c2 h.2.1)]; exact Evn.done _)
  refine Evn.ite (fun c3 => by rw [if_neg (fun h => by omega)]; exact Evn.done _) (fun c3 => ?_)
  refine Evn.ite (fun c4 => by rw [if_neg (fun h => by omega)]; exact Evn.done _) (fun c4 => ?_)
  rw [if_pos ⟨c1, c2, by omega, by omega⟩]
  have h2 : xs.length * ys.length ≤ 144 := Nat.mul_le_mul (goodLegs_len c1) (goodLegs_len c2)
  refine Evn.bind (im_sharedLegs xs ys g t hx hy (by omega)) ?_
  exact Evn.done _
theorem cfTs_len (xs ys : List S70) (g t : Int) : (cfTs xs ys g t).1.length ≤ 4194304 := by
  unfold cfTs
  split
  · rename_i h
    have h1 := cfs_len xs ys g t xs.length 0
    have h2 : xs.length * ys.length ≤ 144 := Nat.mul_le_mul (goodLegs_len h.1) (goodLegs_len h.2.1)
    dsimp only
    omega
  · simp

theorem FnExactConflictLegs : ∀ (l0 : List (S75)) (l1 : List (S75)) (a2 : Int) (a3 : Int), l0.length ≤ maxLen → (∀ x ∈ l0, (Lit.int .i64 x.f0).wf = true ∧ (Lit.int .i64 x.f1).wf = true ∧ (Lit.int .i64 x.f2).wf = true ∧ (Lit.int .i64 x.f3).wf = true ∧ (Lit.int .i64 x.f4).wf = true) → l1.length ≤ maxLen → (∀ x ∈ l1, (Lit.int .i64 x.f0).wf = true ∧ (Lit.int .i64 x.f1).wf = true ∧ (Lit.int .i64 x.f2).wf = true ∧ (Lit.int .i64 x.f3).wf = true ∧ (Lit.int .i64 x.f4).wf = true) → (Lit.int .i64 a2).wf = true → (Lit.int .i64 a3).wf = true → ∃ k, laws_FnExactConflictLegs.f k l0 l1 a2 a3 = some true := by
  intro l m g t hl _ hm _ _ _
  apply Evn.get
  unfold laws_FnExactConflictLegs.f
  simp only [ev_szLegS, Option.bind_some]
  refine Evn.ite (fun _ => Evn.done _) (fun h => ?_)
  have hx : l.length ≤ 1048576 := by unfold maxLen at hl; unfold wrap64 at h; split at h <;> omega
  have e1 : (if wrap64 (1048576 - (l.length : Int)) < 0 then -1 else wrap64 (1048576 - (l.length : Int))) = 1048576 - (l.length : Int) := by rw [wrap_id (by omega) (by omega), if_neg (by omega)]
  rw [e1]
  refine Evn.ite (fun _ => Evn.done _) (fun h2 => ?_)
  have hy : m.length ≤ 1048576 := by unfold maxLen at hl hm; unfold wrap64 at h2; split at h2 <;> omega
  clear h2 e1
  have hx' : (l.map convLeg).length ≤ 4194304 := by rw [List.length_map]; omega
  have hy' : (m.map convLeg).length ≤ 4194304 := by rw [List.length_map]; omega
  clear h hl hm
  have hs := sp_ConflictLegs (l.map convLeg) (m.map convLeg) g t hx' hy'
  have hi := im_ConflictLegs (l.map convLeg) (m.map convLeg) g t hx' hy'
  have hr := cfTs_len (l.map convLeg) (m.map convLeg) g t
  generalize cfTs (l.map convLeg) (m.map convLeg) g t = r at hs hi hr
  generalize hL : l.map convLeg = L at hs hi hx'
  generalize hM : m.map convLeg = M at hs hi hy'
  have hto : Evn (fun k => laws_toLegS.f k l) L := hL ▸ ev_toLegS l hx
  have hto2 : Evn (fun k => laws_toLegS.f k m) M := hM ▸ ev_toLegS m hy
  repeat (first
    | exact Evn.done _
    | simp only [if_true, bne_self_eq_false, Bool.false_eq_true, if_false]
    | refine Evn.bind hto ?_
    | refine Evn.bind hto2 ?_
    | refine Evn.bind hs ?_
    | refine Evn.bind hi ?_
    | refine Evn.bind (ev_toLegS _ (by assumption)) ?_
    | refine Evn.bind (ev_toIntA2S _ (by assumption)) ?_
    | refine Evn.bind (ev_eqLegS _ (by assumption)) ?_
    | refine Evn.bind (ev_eqIntA2S _ (by assumption)) ?_
    | refine Evn.bind (ev_markLegS _ _ (by omega) (by omega) (by first | assumption | omega)) ?_
    | refine Evn.bind (ev_heldLegS _ _ (by omega) (by omega) (by first | assumption | omega)) ?_
    | refine Evn.bind (ev_markIntA2S _ _ (by omega) (by omega) (by first | assumption | omega)) ?_
    | refine Evn.bind (ev_heldIntA2S _ _ (by omega) (by omega) (by first | assumption | omega)) ?_
    | refine Evn.ite (fun h_ => absurd h_ (by first | omega | decide)) (fun _ => ?_)
    | refine Evn.ite (fun _ => ?_) (fun h_ => absurd (by first | rfl | omega) h_)
    | dsimp only
    | (refine Evn.step ?_; simp only [laws_FnExactConflictLegs.j0])
    | (refine Evn.step ?_; simp only [laws_FnExactConflictLegs.j1])
    | (refine Evn.step ?_; simp only [laws_FnExactConflictLegs.j2]))

end Go.Proofs.Ytfaojmabalplfaa.Pure
