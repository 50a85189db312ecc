/- The plain statement of FnExactUndoEdits: its plain function returns true at every input. No condition beyond the arguments' own bounds. -/
import Derived.Test.YtinelmmnajelaaaQFnExactUndoEditsx12
import Derived.Test.YtinelmmnajelaaaAid
namespace Go.Proofs.Ytinelmmnajelaaa.Pure
open Go.RowKit Go.Proofs.YtinelmmnajelaaaW.PrintWords Go.Proofs.YtinelmmnajelaaaW.PrintLast Go.Proofs.Ytinelmmnajelaaa.Aid Go.Proofs.Ytinelmmnajelaaa.QFnExactUndoEdits
set_option linter.unusedVariables false
set_option linter.unusedSimpArgs false

theorem ev_szLegS (l : List S23) (q : Int) : laws_szLegS.f l q = some (if wrap64 (q - (l.length : Int)) < 0 then -1 else wrap64 (q - (l.length : Int))) := by
  unfold laws_szLegS.f
  split <;> rfl

-- laws_toLeg: as it stands

def convLeg (x : S23) : S26 := ⟨x.f0, x.f1, x.f2, x.f3, x.f4⟩
theorem ev_toLegS_l0 (xs : List S23) (hx : xs.length ≤ 1048576) : ∀ (d i : Nat) (ys : List S26), i + d = xs.length → ys.length = xs.length → Evn (fun k => laws_toLegS.l0 k xs ys (i : Int)) (ys.take i ++ (xs.drop i).map convLeg) := by
  intro d
  induction d with
  | zero =>
    intro i ys h hy
    refine Evn.step ?_
    have h1 : ¬ (i : Int) < (xs.length : Int) := by omega
    simp only [laws_toLegS.l0, if_neg h1]
    have e : ys.take i ++ (xs.drop i).map convLeg = ys := by rw [List.take_of_length_le (by omega), List.drop_eq_nil_of_le (by omega)]; simp
    rw [e]
    exact Evn.done _
  | succ d ih =>
    intro i ys h hy
    refine Evn.step ?_
    have h1 : (i : Int) < (xs.length : Int) := by omega
    have h2 : 0 ≤ (i : Int) := by omega
    have h3 : (i : Int) < (ys.length : Int) := by omega
    simp only [laws_toLegS.l0, laws_toLeg.f, if_pos h1, if_pos h2, if_pos h3, Option.bind_some, Int.toNat_natCast, wrap_succ (show i < 4611686018427387904 by omega)]
    refine (ih (i + 1) _ (by omega) (by simpa using hy)).eq_ ?_
    rw [set_take _ _ _ (by omega), getD_drop xs i z23 (by omega)]
    simp [convLeg, rd_T23]
theorem ev_toLegS (xs : List S23) (hx : xs.length ≤ 1048576) : Evn (fun k => laws_toLegS.f k xs) (xs.map convLeg) := by
  unfold laws_toLegS.f
  refine Evn.ite (fun _ => Evn.ite (fun _ => ?_) (fun h => (h (by omega)).elim)) (fun h => (h (by omega)).elim)
  have h := ev_toLegS_l0 xs hx xs.length 0 (List.replicate (xs.length : Int).toNat z26) (by omega) (by simp)
  simpa using h

-- laws_eqLeg: as it stands

-- laws_eqEdit: as it stands

theorem ev_eqEditS_l0 (xs : List S28) (hx : xs.length ≤ 4194304) : ∀ (d i : Nat), i + d = xs.length → Evn (fun k => laws_eqEditS.l0 k xs xs (i : Int)) true := by
  intro d
  induction d with
  | zero =>
    intro i h
    refine Evn.step ?_
    have h1 : ¬ (i : Int) < (xs.length : Int) := by omega
    simp only [laws_eqEditS.l0, if_neg h1]
    exact Evn.done _
  | succ d ih =>
    intro i h
    refine Evn.step ?_
    have h1 : (i : Int) < (xs.length : Int) := by omega
    have h2 : 0 ≤ (i : Int) := by omega
    simp only [laws_eqEditS.l0, laws_eqEdit.f, laws_eqLeg.f, if_pos h1, if_pos h2, Option.bind_some, if_true, wrap_succ (show i < 4611686018427387904 by omega)]
    exact ih (i + 1) (by omega)
theorem ev_eqEditS (xs : List S28) (hx : xs.length ≤ 4194304) : Evn (fun k => laws_eqEditS.f k xs xs) true := by
  simp only [laws_eqEditS.f, if_true]
  exact ev_eqEditS_l0 xs hx xs.length 0 (by omega)

theorem ev_eqLegS_l0 (xs : List S26) (hx : xs.length ≤ 4194304) : ∀ (d i : Nat), i + d = xs.length → Evn (fun k => laws_eqLegS.l0 k xs xs (i : Int)) true := by
  intro d
  induction d with
  | zero =>
    intro i h
    refine Evn.step ?_
    have h1 : ¬ (i : Int) < (xs.length : Int) := by omega
    simp only [laws_eqLegS.l0, if_neg h1]
    exact Evn.done _
  | succ d ih =>
    intro i h
    refine Evn.step ?_
    have h1 : (i : Int) < (xs.length : Int) := by omega
    have h2 : 0 ≤ (i : Int) := by omega
    simp only [laws_eqLegS.l0, laws_eqLeg.f, if_pos h1, if_pos h2, Option.bind_some, if_true, wrap_succ (show i < 4611686018427387904 by omega)]
    exact ih (i + 1) (by omega)
theorem ev_eqLegS (xs : List S26) (hx : xs.length ≤ 4194304) : Evn (fun k => laws_eqLegS.f k xs xs) true := by
  simp only [laws_eqLegS.f, if_true]
  exact ev_eqLegS_l0 xs hx xs.length 0 (by omega)

/-! The marks that the law lays: b, b + 1, .. -/
def marksLeg (b : Int) : Nat → List S26
  | 0 => []
  | d + 1 => (⟨b, b + 1, b + 2, b + 3, b + 4⟩ : S26) :: marksLeg (b + 5) d
theorem marksLeg_len (d : Nat) : ∀ b, (marksLeg b d).length = d := by
  induction d with
  | zero => intro b; rfl
  | succ d ih => intro b; simp [marksLeg, ih]
theorem ev_markLegS_l0 (n : Nat) (hn : n ≤ 4194304) : ∀ (d i : Nat) (b : Int) (ys : List S26), i + d = n → ys.length = n → 0 ≤ b → b + 5 * d ≤ 1152921504606846976 → Evn (fun k => laws_markLegS.l0 k ys b (i : Int)) (b + 5 * d, ys.take i ++ marksLeg b d) := by
  intro d
  induction d with
  | zero =>
    intro i b ys h hy h0 hb
    refine Evn.step ?_
    have h1 : ¬ (i : Int) < (ys.length : Int) := by omega
    simp only [laws_markLegS.l0, if_neg h1, marksLeg]
    rw [List.take_of_length_le (by omega)]
    simpa using Evn.done _
  | succ d ih =>
    intro i b ys h hy h0 hb
    refine Evn.step ?_
    have h1 : (i : Int) < (ys.length : Int) := by omega
    have h2 : 0 ≤ (i : Int) := by omega
    have hs : ∀ (zs : List S26) (v : S26), zs.length = ys.length → rd_T26 (zs.set i v) (i : Int) = v := by
      intro zs v hz
      unfold rd_T26
      rw [Int.toNat_natCast, List.getD_eq_getElem?_getD, List.getElem?_set_self (by omega)]
      rfl
    have hk := ih (i + 1) (b + 5) (ys.set i ⟨b, b + 1, b + 2, b + 3, b + 4⟩) (by omega) (by simpa using hy) (by omega) (by omega)
    have e1 : wrap64 (b + 1) = b + 1 := by rw [wrap_id (by omega) (by omega)]
    have e2 : wrap64 (b + 1 + 1) = b + 2 := by rw [wrap_id (by omega) (by omega)]; omega
    have e3 : wrap64 (b + 2 + 1) = b + 3 := by rw [wrap_id (by omega) (by omega)]; omega
    have e4 : wrap64 (b + 3 + 1) = b + 4 := by rw [wrap_id (by omega) (by omega)]; omega
    have e5 : wrap64 (b + 4 + 1) = b + 5 := by rw [wrap_id (by omega) (by omega)]; omega
    simp only [laws_markLegS.l0, if_pos h1, if_pos h2, Option.bind_some, Int.toNat_natCast, hs, List.length_set, List.set_set, e1, e2, e3, e4, e5, wrap_succ (show i < 4611686018427387904 from Nat.lt_of_lt_of_le (show i < 4194304 + 1 by omega) (by decide))]
    refine hk.eq_ ?_
    rw [set_take _ _ _ (by omega), marksLeg, List.append_assoc]
    simp only [List.cons_append, List.nil_append, Prod.mk.injEq, and_true]
    omega
theorem ev_markLegS (ys : List S26) (a : Int) (ha : 0 ≤ a) (ha2 : a ≤ 1099511627776) (hn : ys.length ≤ 4194304) : Evn (fun k => laws_markLegS.f k ys a) (a + 5 * ys.length, marksLeg a ys.length) := by
  have h := ev_markLegS_l0 ys.length hn ys.length 0 a ys (by omega) rfl ha (by omega)
  simpa [laws_markLegS.f] using h

/-! The marks that the law lays: b, b + 1, .. -/
def marksEdit (b : Int) : Nat → List S28
  | 0 => []
  | d + 1 => (⟨b, b + 1, ⟨b + 2, b + 3, b + 4, b + 5, b + 6⟩, ⟨b + 7, b + 8, b + 9, b + 10, b + 11⟩⟩ : S28) :: marksEdit (b + 12) d
theorem marksEdit_len (d : Nat) : ∀ b, (marksEdit b d).length = d := by
  induction d with
  | zero => intro b; rfl
  | succ d ih => intro b; simp [marksEdit, ih]
theorem ev_markEditS_l0 (n : Nat) (hn : n ≤ 4194304) : ∀ (d i : Nat) (b : Int) (ys : List S28), i + d = n → ys.length = n → 0 ≤ b → b + 12 * d ≤ 1152921504606846976 → Evn (fun k => laws_markEditS.l0 k ys b (i : Int)) (b + 12 * d, ys.take i ++ marksEdit b d) := by
  intro d
  induction d with
  | zero =>
    intro i b ys h hy h0 hb
    refine Evn.step ?_
    have h1 : ¬ (i : Int) < (ys.length : Int) := by omega
    simp only [laws_markEditS.l0, if_neg h1, marksEdit]
    rw [List.take_of_length_le (by omega)]
    simpa using Evn.done _
  | succ d ih =>
    intro i b ys h hy h0 hb
    refine Evn.step ?_
    have h1 : (i : Int) < (ys.length : Int) := by omega
    have h2 : 0 ≤ (i : Int) := by omega
    have hs : ∀ (zs : List S28) (v : S28), zs.length = ys.length → rd_T28 (zs.set i v) (i : Int) = v := by
      intro zs v hz
      unfold rd_T28
      rw [Int.toNat_natCast, List.getD_eq_getElem?_getD, List.getElem?_set_self (by omega)]
      rfl
    have hk := ih (i + 1) (b + 12) (ys.set i ⟨b, b + 1, ⟨b + 2, b + 3, b + 4, b + 5, b + 6⟩, ⟨b + 7, b + 8, b + 9, b + 10, b + 11⟩⟩) (by omega) (by simpa using hy) (by omega) (by omega)
    have e1 : wrap64 (b + 1) = b + 1 := by rw [wrap_id (by omega) (by omega)]
    have e2 : wrap64 (b + 1 + 1) = b + 2 := by rw [wrap_id (by omega) (by omega)]; omega
    have e3 : wrap64 (b + 2 + 1) = b + 3 := by rw [wrap_id (by omega) (by omega)]; omega
    have e4 : wrap64 (b + 3 + 1) = b + 4 := by rw [wrap_id (by omega) (by omega)]; omega
    have e5 : wrap64 (b + 4 + 1) = b + 5 := by rw [wrap_id (by omega) (by omega)]; omega
    have e6 : wrap64 (b + 5 + 1) = b + 6 := by rw [wrap_id (by omega) (by omega)]; omega
    have e7 : wrap64 (b + 6 + 1) = b + 7 := by rw [wrap_id (by omega) (by omega)]; omega
    have e8 : wrap64 (b + 7 + 1) = b + 8 := by rw [wrap_id (by omega) (by omega)]; omega
    have e9 : wrap64 (b + 8 + 1) = b + 9 := by rw [wrap_id (by omega) (by omega)]; omega
    have e10 : wrap64 (b + 9 + 1) = b + 10 := by rw [wrap_id (by omega) (by omega)]; omega
    have e11 : wrap64 (b + 10 + 1) = b + 11 := by rw [wrap_id (by omega) (by omega)]; omega
    have e12 : wrap64 (b + 11 + 1) = b + 12 := by rw [wrap_id (by omega) (by omega)]; omega
    simp only [laws_markEditS.l0, if_pos h1, if_pos h2, Option.bind_some, Int.toNat_natCast, hs, List.length_set, List.set_set, e1, e2, e3, e4, e5, e6, e7, e8, e9, e10, e11, e12, wrap_succ (show i < 4611686018427387904 from Nat.lt_of_lt_of_le (show i < 4194304 + 1 by omega) (by decide))]
    refine hk.eq_ ?_
    rw [set_take _ _ _ (by omega), marksEdit, List.append_assoc]
    simp only [List.cons_append, List.nil_append, Prod.mk.injEq, and_true]
    omega
theorem ev_markEditS (ys : List S28) (a : Int) (ha : 0 ≤ a) (ha2 : a ≤ 1099511627776) (hn : ys.length ≤ 4194304) : Evn (fun k => laws_markEditS.f k ys a) (a + 12 * ys.length, marksEdit a ys.length) := by
  have h := ev_markEditS_l0 ys.length hn ys.length 0 a ys (by omega) rfl ha (by omega)
  simpa [laws_markEditS.f] using h

theorem ev_heldEditS_l0 (n : Nat) (hn : n ≤ 4194304) : ∀ (d i : Nat) (b : Int) (ys : List S28), i + d = n → ys.length = n → ys.drop i = marksEdit b d → 0 ≤ b → b + 12 * d ≤ 1152921504606846976 → Evn (fun k => laws_heldEditS.l0 k ys b (i : Int)) (b + 12 * d) := by
  intro d
  induction d with
  | zero =>
    intro i b ys h hy hd h0 hb
    refine Evn.step ?_
    have h1 : ¬ (i : Int) < (ys.length : Int) := by omega
    simp only [laws_heldEditS.l0, if_neg h1]
    simpa using Evn.done _
  | succ d ih =>
    intro i b ys h hy hd h0 hb
    refine Evn.step ?_
    have h1 : (i : Int) < (ys.length : Int) := by omega
    have h2 : 0 ≤ (i : Int) := by omega
    rw [getD_drop ys i z28 (by omega), marksEdit] at hd
    injection hd with hd1 hd2
    have hr : rd_T28 ys (i : Int) = ⟨b, b + 1, ⟨b + 2, b + 3, b + 4, b + 5, b + 6⟩, ⟨b + 7, b + 8, b + 9, b + 10, b + 11⟩⟩ := by unfold rd_T28; rw [Int.toNat_natCast]; exact hd1
    have hk := ih (i + 1) (b + 12) ys (by omega) hy hd2 (by omega) (by omega)
    have e1 : wrap64 (b + 1) = b + 1 := by rw [wrap_id (by omega) (by omega)]
    have e2 : wrap64 (b + 1 + 1) = b + 2 := by rw [wrap_id (by omega) (by omega)]; omega
    have e3 : wrap64 (b + 2 + 1) = b + 3 := by rw [wrap_id (by omega) (by omega)]; omega
    have e4 : wrap64 (b + 3 + 1) = b + 4 := by rw [wrap_id (by omega) (by omega)]; omega
    have e5 : wrap64 (b + 4 + 1) = b + 5 := by rw [wrap_id (by omega) (by omega)]; omega
    have e6 : wrap64 (b + 5 + 1) = b + 6 := by rw [wrap_id (by omega) (by omega)]; omega
    have e7 : wrap64 (b + 6 + 1) = b + 7 := by rw [wrap_id (by omega) (by omega)]; omega
    have e8 : wrap64 (b + 7 + 1) = b + 8 := by rw [wrap_id (by omega) (by omega)]; omega
    have e9 : wrap64 (b + 8 + 1) = b + 9 := by rw [wrap_id (by omega) (by omega)]; omega
    have e10 : wrap64 (b + 9 + 1) = b + 10 := by rw [wrap_id (by omega) (by omega)]; omega
    have e11 : wrap64 (b + 10 + 1) = b + 11 := by rw [wrap_id (by omega) (by omega)]; omega
    have e12 : wrap64 (b + 11 + 1) = b + 12 := by rw [wrap_id (by omega) (by omega)]; omega
    simp only [laws_heldEditS.l0, if_pos h1, if_pos h2, hr, e1, e2, e3, e4, e5, e6, e7, e8, e9, e10, e11, e12, if_true, wrap_succ (show i < 4611686018427387904 from Nat.lt_of_lt_of_le (show i < 4194304 + 1 by omega) (by decide))]
    refine hk.eq_ ?_
    clear e1 e2 e3 e4 e5 e6 e7 e8 e9 e10 e11 e12
    omega
theorem ev_heldEditS (n : Nat) (a : Int) (ha : 0 ≤ a) (ha2 : a ≤ 1099511627776) (hn : n ≤ 4194304) : Evn (fun k => laws_heldEditS.f k (marksEdit a n) a) (a + 12 * n) := by
  have h := ev_heldEditS_l0 n hn n 0 a (marksEdit a n) (by omega) (marksEdit_len n a) rfl ha (by omega)
  simpa [laws_heldEditS.f] using h

theorem ev_szEditS (l : List S25) (q : Int) : laws_szEditS.f l q = some (if wrap64 (q - (l.length : Int)) < 0 then -1 else wrap64 (q - (l.length : Int))) := by
  unfold laws_szEditS.f
  split <;> rfl

-- laws_toEdit: as it stands

def convEdit (x : S25) : S28 := ⟨x.f0, x.f1, convLeg x.f2, convLeg x.f3⟩
theorem ev_toEditS_l0 (xs : List S25) (hx : xs.length ≤ 1048576) : ∀ (d i : Nat) (ys : List S28), i + d = xs.length → ys.length = xs.length → Evn (fun k => laws_toEditS.l0 k xs ys (i : Int)) (ys.take i ++ (xs.drop i).map convEdit) := by
  intro d
  induction d with
  | zero =>
    intro i ys h hy
    refine Evn.step ?_
    have h1 : ¬ (i : Int) < (xs.length : Int) := by omega
    simp only [laws_toEditS.l0, if_neg h1]
    have e : ys.take i ++ (xs.drop i).map convEdit = ys := by rw [List.take_of_length_le (by omega), List.drop_eq_nil_of_le (by omega)]; simp
    rw [e]
    exact Evn.done _
  | succ d ih =>
    intro i ys h hy
    refine Evn.step ?_
    have h1 : (i : Int) < (xs.length : Int) := by omega
    have h2 : 0 ≤ (i : Int) := by omega
    have h3 : (i : Int) < (ys.length : Int) := by omega
    simp only [laws_toEditS.l0, laws_toEdit.f, laws_toLeg.f, if_pos h1, if_pos h2, if_pos h3, Option.bind_some, Int.toNat_natCast, wrap_succ (show i < 4611686018427387904 by omega)]
    refine (ih (i + 1) _ (by omega) (by simpa using hy)).eq_ ?_
    rw [set_take _ _ _ (by omega), getD_drop xs i z25 (by omega)]
    simp [convEdit, convLeg, rd_T25]
theorem ev_toEditS (xs : List S25) (hx : xs.length ≤ 1048576) : Evn (fun k => laws_toEditS.f k xs) (xs.map convEdit) := by
  unfold laws_toEditS.f
  refine Evn.ite (fun _ => Evn.ite (fun _ => ?_) (fun h => (h (by omega)).elim)) (fun h => (h (by omega)).elim)
  have h := ev_toEditS_l0 xs hx xs.length 0 (List.replicate (xs.length : Int).toNat z28) (by omega) (by simp)
  simpa using h

theorem sp_l1In (x y z : Int) : spec_l1In.f x y z = some (decide (y ≤ x ∧ x ≤ z)) := by
  unfold spec_l1In.f
  by_cases h : x ≥ y <;> simp [h] <;> omega

theorem sp_l4Station (x : Int) : spec_l4Station.f x = some (decide (0 ≤ x ∧ x ≤ 7)) := by
  simp only [spec_l4Station.f, sp_l1In, Option.bind_some]

/-! A leg's rules. -/
def okLeg (x : S26) : Bool := decide (0 ≤ x.f0 ∧ x.f0 ≤ 7) && (decide (0 ≤ x.f1 ∧ x.f1 ≤ 7) && (!decide (x.f0 = x.f1) && (decide (1 ≤ x.f2 ∧ x.f2 ≤ 500) && (decide (0 ≤ x.f3 ∧ x.f3 ≤ 359) && decide (-90 ≤ x.f4 ∧ x.f4 ≤ 90)))))
def goodLegs (xs : List S26) : Bool := xs.all okLeg && decide (xs.length ≤ 12)
theorem goodLegs_len {xs : List S26} (h : goodLegs xs = true) : xs.length ≤ 12 := by
  simp only [goodLegs, Bool.and_eq_true, decide_eq_true_eq] at h
  exact h.2
theorem goodLegs_ok {xs : List S26} (h : goodLegs xs = true) (j : Nat) (hj : j < xs.length) : okLeg (xs.getD j z26) = true := by
  simp only [goodLegs, Bool.and_eq_true, List.all_eq_true] at h
  refine h.1 _ ?_
  rw [List.getD_eq_getElem?_getD, List.getElem?_eq_getElem hj]
  exact List.getElem_mem hj
theorem okLeg_in {x : S26} (h : okLeg x = true) : (0 ≤ x.f0 ∧ x.f0 ≤ 7) ∧ (0 ≤ x.f1 ∧ x.f1 ≤ 7) ∧ ¬ x.f0 = x.f1 ∧ (1 ≤ x.f2 ∧ x.f2 ≤ 500) ∧ (0 ≤ x.f3 ∧ x.f3 ≤ 359) ∧ (-90 ≤ x.f4 ∧ x.f4 ≤ 90) := by
  simp only [okLeg, Bool.and_eq_true, decide_eq_true_eq, Bool.not_eq_true', decide_eq_false_iff_not] at h
  exact h
theorem ite_not (c : Prop) [Decidable c] (x : Bool) : (if c then some false else some x) = some (!decide c && x) := by
  by_cases h : c <;> simp [h]

theorem sp_l4Leg (x : S26) : spec_l4Leg.f x.f0 x.f1 x.f2 x.f3 x.f4 = some (okLeg x) := by
  simp only [spec_l4Leg.f, sp_l4Station, spec_l2Bearing.f, sp_l1In, Option.bind_some, ite_and, ite_not, okLeg]

theorem sp_l4Legs_l0 (xs : List S26) (hx : xs.length ≤ 4194304) : ∀ (d i : Nat), i + d = xs.length → Evn (fun k => spec_l4Legs.l0 k xs (i : Int)) ((xs.drop i).all okLeg && decide (xs.length ≤ 12)) := by
  intro d
  induction d with
  | zero =>
    intro i h
    refine Evn.step ?_
    have h1 : ¬ (i : Int) < (xs.length : Int) := by omega
    simp only [spec_l4Legs.l0, if_neg h1]
    rw [List.drop_eq_nil_of_le (by omega)]
    refine (Evn.done _).eq_ ?_
    simp only [List.all_nil, Bool.true_and, decide_eq_decide]
    omega
  | succ d ih =>
    intro i h
    refine Evn.step ?_
    have h1 : (i : Int) < (xs.length : Int) := by omega
    have h2 : 0 ≤ (i : Int) := by omega
    simp only [spec_l4Legs.l0, if_pos h1, if_pos h2, sp_l4Leg, Option.bind_some, wrap_succ (show i < 4611686018427387904 by omega), rd_T26, Int.toNat_natCast]
    rw [getD_drop xs i z26 (by omega), List.all_cons]
    exact Evn.ite (fun c => (ih (i + 1) (by omega)).eq_ (by simp only [c, Bool.true_and])) (fun c => (Evn.done _).eq_ (by simp only [Bool.eq_false_iff.mpr c, Bool.false_and]))
theorem sp_l4Legs (xs : List S26) (hx : xs.length ≤ 4194304) : Evn (fun k => spec_l4Legs.f k xs) (goodLegs xs) := by
  have h := sp_l4Legs_l0 xs hx xs.length 0 (by omega)
  simpa [spec_l4Legs.f, goodLegs] using h

theorem ib_some {b : Bool} : (if b = true then (some true) else (some false)) = some b := by cases b <;> rfl
def zeroB (a b c d e : Int) : Bool := a == 0 && (b == 0 && (c == 0 && (d == 0 && (e == 0))))
def editB (k a : Int) (x y : S26) : Bool :=
  if decide (0 ≤ a ∧ a ≤ 11) = true then
    (if k = 1 then (if zeroB x.f0 x.f1 x.f2 x.f3 x.f4 = true then okLeg y else false)
     else if k = 2 then (if okLeg x = true then zeroB y.f0 y.f1 y.f2 y.f3 y.f4 else false)
     else if k = 3 then (if okLeg x = true then (if okLeg y = true then (!(x.f0 == y.f0) || (!(x.f1 == y.f1) || (!(x.f2 == y.f2) || (!(x.f3 == y.f3) || (!(x.f4 == y.f4)))))) else false) else false)
     else false)
  else false
theorem sp_l19Valid (k a : Int) (x y : S26) : spec_l19Valid.f k a x.f0 x.f1 x.f2 x.f3 x.f4 y.f0 y.f1 y.f2 y.f3 y.f4 = some (editB k a x y) := by
  simp only [spec_l19Valid.f, sp_l4Leg, sp_l1In, Option.bind_some]
  unfold editB zeroB
  repeat' split
  all_goals rfl

def neqL (x y : S26) : Bool := !(x.f0 == y.f0) || (!(x.f1 == y.f1) || (!(x.f2 == y.f2) || (!(x.f3 == y.f3) || (!(x.f4 == y.f4)))))

/-! An edit made: the legs after it, and whether it's possible. -/
def appL (l : List S26) (k a : Int) (x y : S26) : List S26 × Bool :=
  if editB k a x y = true then
    (if k = 1 then (if a > (l.length : Int) then ([], false) else if l.length = 12 then ([], false) else (l.take a.toNat ++ (y :: l.drop a.toNat), true))
     else (if a ≥ (l.length : Int) then ([], false) else if neqL (l.getD a.toNat z26) x = true then ([], false) else if k = 2 then (l.take a.toNat ++ l.drop (a.toNat + 1), true) else (l.take a.toNat ++ (y :: l.drop (a.toNat + 1)), true)))
  else ([], false)
theorem editB_in {k a : Int} {x y : S26} (h : editB k a x y = true) : (0 ≤ a ∧ a ≤ 11) ∧ (k = 1 ∨ k = 2 ∨ k = 3) := by
  unfold editB at h
  split at h
  · rename_i c
    refine ⟨of_decide_eq_true c, ?_⟩
    split at h
    · left; assumption
    · split at h
      · right; left; assumption
      · split at h
        · right; right; assumption
        · cases h
  · cases h
theorem appL_len {l : List S26} (hl : l.length ≤ 12) (k a : Int) (x y : S26) : (appL l k a x y).1.length ≤ 12 := by
  unfold appL
  split
  · rename_i hE
    have ha := (editB_in hE).1
    split
    · split
      · simp
      · split
        · simp
        · dsimp only
          rw [List.length_append, List.length_cons, List.length_take, List.length_drop]; omega
    · split
      · simp
      · split
        · simp
        · split
          · dsimp only
            rw [List.length_append, List.length_take, List.length_drop]; omega
          · dsimp only
            rw [List.length_append, List.length_cons, List.length_take, List.length_drop]; omega
  · simp

theorem sp_l19Apply (l : List S26) (hl : l.length ≤ 12) (kd a : Int) (x y : S26) :
    ∃ o : List S26, Evn (fun k => spec_l19Apply.f k l kd a x.f0 x.f1 x.f2 x.f3 x.f4 y.f0 y.f1 y.f2 y.f3 y.f4) (o, (appL l kd a x y).2) ∧ ((appL l kd a x y).2 = true → o = (appL l kd a x y).1) := by
  have no : Evn (fun k => spec_l19Apply.j0 k l [] true kd a x.f0 x.f1 x.f2 x.f3 x.f4 y.f0 y.f1 y.f2 y.f3 y.f4) ([], false) := by
    refine Evn.step ?_
    simp only [spec_l19Apply.j0, if_true]
    exact Evn.done _
  unfold spec_l19Apply.f
  simp only [Option.bind_some, sp_l19Valid]
  by_cases hE : editB kd a x y = true
  · obtain ⟨⟨ha0, ha1⟩, hk⟩ := editB_in hE
    have hw : wrap64 (a + 1) = a + 1 := wrap_id (by omega) (by omega)
    have ht : (a + 1).toNat = a.toNat + 1 := by omega
    have h0 : (0 : Int) ≤ a + 1 := by omega
    simp only [hE, if_true]
    unfold appL
    rw [if_pos hE]
    by_cases c1 : a > (l.length : Int)
    · refine ⟨[], ?_, ?_⟩
      · simp only [if_pos c1]
        have e : (if kd = 1 then (([] : List S26), false) else if a ≥ (l.length : Int) then ([], false) else if neqL (l.getD a.toNat z26) x = true then ([], false) else if kd = 2 then (l.take a.toNat ++ l.drop (a.toNat + 1), true) else (l.take a.toNat ++ (y :: l.drop (a.toNat + 1)), true)).2 = false := by
          split
          · rfl
          · rw [if_pos (by omega)]
        rw [e]
        exact no
      · intro h
        rw [if_pos c1, if_pos (show a ≥ (l.length : Int) by omega)] at h
        split at h <;> cases h
    · simp only [if_neg c1]
      have c2 : a ≤ (l.length : Int) := by omega
      have lT : (l.take a.toNat).length = a.toNat := by rw [List.length_take]; omega
      by_cases k1 : kd = 1
      · simp only [if_pos k1]
        refine ⟨l.take a.toNat ++ (y :: l.drop a.toNat), ?_, ?_⟩
        · refine Evn.step ?_
          simp only [spec_l19Apply.j0, Bool.false_eq_true, if_false, if_pos ha0, if_pos c2, Option.bind_some, List.nil_append, List.length_nil, if_pos k1]
          refine Evn.ite (fun _ => ?_) (fun h => absurd (by rw [lT]; omega) h)
          refine Evn.ite (fun _ => ?_) (fun h => absurd (by rw [lT]; omega) h)
          refine Evn.ite (fun _ => ?_) (fun h => absurd (by rw [List.length_append, lT, List.length_drop, List.length_singleton]; omega) h)
          refine (Evn.done _).eq_ ?_
          rw [List.append_assoc, List.singleton_append, List.length_append, List.length_cons, lT, List.length_drop]
          congr 1
          by_cases c3 : l.length = 12
          · rw [if_pos c3]; exact decide_eq_false (by omega)
          · rw [if_neg c3]; exact decide_eq_true (by omega)
        · intro h
          by_cases c3 : l.length = 12
          · rw [if_pos c3] at h; cases h
          · rw [if_neg c3]
      · simp only [if_neg k1]
        by_cases c3 : a = (l.length : Int)
        · refine ⟨[], ?_, ?_⟩
          · simp only [if_pos c3]
            rw [if_pos (show a ≥ (l.length : Int) by omega)]
            exact no
          · intro h
            rw [if_pos (show a ≥ (l.length : Int) by omega)] at h
            cases h
        · have c4 : a < (l.length : Int) := by omega
          have c5 : a + 1 ≤ (l.length : Int) := by omega
          simp only [if_neg c3, if_pos ha0, if_pos c4, if_neg (show ¬ a ≥ (l.length : Int) by omega), rd_T26]
          have eb : ∀ b : Bool, neqL (l.getD a.toNat z26) x = b → Evn (fun k => spec_l19Apply.j0 k l [] b kd a x.f0 x.f1 x.f2 x.f3 x.f4 y.f0 y.f1 y.f2 y.f3 y.f4) (if b = true then ([], false) else if kd = 2 then (l.take a.toNat ++ l.drop (a.toNat + 1), true) else (l.take a.toNat ++ (y :: l.drop (a.toNat + 1)), true)) := by
            intro b hb
            cases b with
            | true => rw [if_pos rfl]; exact no
            | false =>
              rw [if_neg (by decide)]
              refine Evn.step ?_
              simp only [spec_l19Apply.j0, Bool.false_eq_true, if_false, if_pos ha0, if_pos c2, Option.bind_some, List.nil_append, List.length_nil, if_neg k1, hw, if_pos h0, if_pos c5, ht]
              refine Evn.ite (fun _ => ?_) (fun h => absurd (by rw [lT]; omega) h)
              by_cases k2 : kd = 2
              · simp only [if_pos k2]
                refine Evn.ite (fun _ => ?_) (fun h => absurd (by rw [lT, List.length_drop]; omega) h)
                refine (Evn.done _).eq_ ?_
                rw [List.length_append, lT, List.length_drop]
                congr 1
                exact decide_eq_true (by omega)
              · simp only [if_neg k2]
                refine Evn.ite (fun _ => ?_) (fun h => absurd (by rw [lT]; omega) h)
                refine Evn.ite (fun _ => ?_) (fun h => absurd (by rw [List.length_append, lT, List.length_drop, List.length_singleton]; omega) h)
                refine (Evn.done _).eq_ ?_
                rw [List.append_assoc, List.singleton_append, List.length_append, List.length_cons, lT, List.length_drop]
                congr 1
                exact decide_eq_true (by omega)
          refine ⟨_, eb _ rfl, fun _ => rfl⟩
  · refine ⟨[], ?_, ?_⟩
    · have e : (appL l kd a x y).2 = false := by unfold appL; rw [if_neg hE]
      rw [e]
      simp only [if_neg hE]
      exact no
    · intro h
      unfold appL at h
      rw [if_neg hE] at h
      cases h

/-! Histories: the legs after all edits; all versions. -/
def apE (l : List S26) (e : S28) : List S26 × Bool := appL l e.f0 e.f1 e.f2 e.f3
def runB : List S26 → List S28 → List S26 × Bool
  | l, [] => (l, true)
  | l, e :: es => if (apE l e).2 = true then runB (apE l e).1 es else ([], false)
def versL : List S26 → List S28 → List (List S26)
  | l, [] => [l]
  | l, e :: es => l :: versL (apE l e).1 es
def goodH (l : List S26) (hs : List S28) : Bool := goodLegs l && (decide (hs.length ≤ 10) && (runB l hs).2)
theorem goodH_in {l : List S26} {hs : List S28} (h : goodH l hs = true) : goodLegs l = true ∧ hs.length ≤ 10 ∧ (runB l hs).2 = true := by
  simp only [goodH, Bool.and_eq_true, decide_eq_true_eq] at h
  exact h
theorem apE_len {l : List S26} (hl : l.length ≤ 12) (e : S28) : (apE l e).1.length ≤ 12 := appL_len hl _ _ _ _
theorem runB_len : ∀ (hs : List S28) (l : List S26), l.length ≤ 12 → (runB l hs).1.length ≤ 12
  | [], l, h => h
  | e :: es, l, h => by
    unfold runB
    split
    · exact runB_len es _ (apE_len h e)
    · simp
theorem versL_len : ∀ (hs : List S28) (l : List S26), (versL l hs).length = hs.length + 1
  | [], _ => rfl
  | e :: es, l => by rw [versL, List.length_cons, versL_len es, List.length_cons]
theorem take_drop_cons {α : Type} (xs : List α) (n i : Nat) (z : α) (hi : i < n) (hn : n ≤ xs.length) : (xs.take n).drop i = xs.getD i z :: (xs.take n).drop (i + 1) := by
  rw [getD_drop (xs.take n) i z (by rw [List.length_take]; omega)]
  congr 1
  rw [List.getD_eq_getElem?_getD, List.getD_eq_getElem?_getD, List.getElem?_take, if_pos hi]

theorem sp_l19Run_l0 (hs : List S28) (n : Nat) (hn : n ≤ hs.length) (hh : n ≤ 10) : ∀ (d i : Nat) (c : List S26), i + d = n → c.length ≤ 12 → Evn (fun k => spec_l19Run.l0 k hs (n : Int) c (i : Int)) (runB c ((hs.take n).drop i)) := by
  intro d
  induction d with
  | zero =>
    intro i c h hc
    refine Evn.step ?_
    have h1 : ¬ (i : Int) < (n : Int) := by omega
    simp only [spec_l19Run.l0, if_neg h1]
    rw [List.drop_eq_nil_of_le (by rw [List.length_take]; omega)]
    exact Evn.done _
  | succ d ih =>
    intro i c h hc
    have h1 : (i : Int) < (n : Int) := by omega
    have h2 : 0 ≤ (i : Int) := by omega
    have h3 : (i : Int) < (hs.length : Int) := by omega
    have hw := wrap_succ (show i < 4611686018427387904 by omega)
    refine Evn.step ?_
    simp only [spec_l19Run.l0, if_pos h1, if_pos h2, if_pos h3, hw, rd_T28, Int.toNat_natCast]
    clear hw
    rw [take_drop_cons hs n i z28 (by omega) hn]
    obtain ⟨o, ho, he⟩ := sp_l19Apply c hc (hs.getD i z28).f0 (hs.getD i z28).f1 (hs.getD i z28).f2 (hs.getD i z28).f3
    refine Evn.bind ho ?_
    dsimp only
    unfold runB
    unfold apE
    refine Evn.ite (fun c2 => ?_) (fun c2 => by rw [if_neg c2]; exact Evn.done _)
    rw [if_pos c2, he c2]
    exact ih (i + 1) _ (by omega) (appL_len hc _ _ _ _)
theorem sp_l19Run (l : List S26) (hs : List S28) (n : Nat) (hn : n ≤ hs.length) (hh : n ≤ 10) (hl : l.length ≤ 12) : Evn (fun k => spec_l19Run.f k l hs (n : Int)) (runB l (hs.take n)) := by
  unfold spec_l19Run.f
  simp only [Option.bind_some, List.length_nil, List.nil_append, Nat.zero_add]
  refine Evn.ite (fun _ => ?_) (fun h => absurd (by omega) h)
  have h := sp_l19Run_l0 hs n hn hh n 0 l (by omega) hl
  rw [List.drop_zero] at h
  exact h

theorem sp_l19Good (l : List S26) (hs : List S28) (hl : l.length ≤ 4194304) : Evn (fun k => spec_l19Good.f k l hs) (goodH l hs) := by
  unfold spec_l19Good.f goodH
  refine Evn.bind (sp_l4Legs l hl) ?_
  refine Evn.ite (fun c => ?_) (fun c => by rw [Bool.eq_false_iff.mpr c, Bool.false_and]; exact Evn.done _)
  rw [c, Bool.true_and]
  refine Evn.ite (fun c2 => by rw [decide_eq_false (by omega), Bool.false_and]; exact Evn.done _) (fun c2 => ?_)
  rw [decide_eq_true (by omega), Bool.true_and]
  have h := sp_l19Run l hs hs.length (Nat.le_refl _) (by omega) (goodLegs_len c)
  rw [List.take_length] at h
  refine Evn.bind h ?_
  exact Evn.done _

/-! The inverses of the last edits of a history. -/
def undoTs (l : List S26) (hs : List S28) (n : Int) : List S28 × Bool := if goodH l hs = true ∧ 0 ≤ n ∧ n ≤ (hs.length : Int) then (((hs.drop (hs.length - n.toNat)).reverse).map invE, true) else ([], false)
theorem undoTs_len (l : List S26) (hs : List S28) (n : Int) : (undoTs l hs n).1.length ≤ 4194304 := by
  unfold undoTs
  split
  · rename_i h
    have := (goodH_in h.1).2.1
    rw [List.length_map, List.length_reverse, List.length_drop]
    omega
  · simp

theorem sp_inv (x : S28) : spec_l19Inverse.f x.f0 x.f1 x.f2.f0 x.f2.f1 x.f2.f2 x.f2.f3 x.f2.f4 x.f3.f0 x.f3.f1 x.f3.f2 x.f3.f3 x.f3.f4 = some ((invE x).f0, (invE x).f1, (invE x).f2.f0, (invE x).f2.f1, (invE x).f2.f2, (invE x).f2.f3, (invE x).f2.f4, (invE x).f3.f0, (invE x).f3.f1, (invE x).f3.f2, (invE x).f3.f3, (invE x).f3.f4) := by
  unfold spec_l19Inverse.f invE
  by_cases h1 : x.f0 = 1
  · rw [if_pos h1, if_pos h1]
  · rw [if_neg h1, if_neg h1]
    by_cases h2 : x.f0 = 2
    · rw [if_pos h2, if_pos h2]
    · rw [if_neg h2, if_neg h2]
theorem undo_l0 (hs : List S28) (n m : Nat) (hn : m + n = hs.length) (h10 : hs.length ≤ 10) : ∀ (j : Nat) (out : List S28), j ≤ n → out.length + j ≤ 10 →
    Evn (fun k => spec_UndoEdits.l0 k hs (n : Int) out ((m : Int) + (j : Int) - 1)) (out ++ (((hs.take (m + j)).drop m).reverse).map invE, true)
  | 0, out, _, _ => by
    apply Evn.step
    simp only [spec_UndoEdits.l0]
    have e : wrap64 ((hs.length : Int) - (n : Int)) = (m : Int) := by rw [wrap_id (by omega) (by omega)]; omega
    rw [e]
    have hc : ¬ ((m : Int) + ((0 : Nat) : Int) - 1 ≥ (m : Int)) := by omega
    simp only [if_neg hc]
    refine (Evn.done _).eq_ ?_
    rw [Nat.add_zero, List.drop_eq_nil_of_le (by rw [List.length_take]; omega)]
    simp
  | j + 1, out, h, hl => by
    apply Evn.step
    simp only [spec_UndoEdits.l0]
    have e : wrap64 ((hs.length : Int) - (n : Int)) = (m : Int) := by rw [wrap_id (by omega) (by omega)]; omega
    have e2 : (m : Int) + ((j + 1 : Nat) : Int) - 1 = ((m + j : Nat) : Int) := by omega
    have c1 : ((m + j : Nat) : Int) ≥ (m : Int) := by omega
    have c2 : 0 ≤ ((m + j : Nat) : Int) := by omega
    have c3 : ((m + j : Nat) : Int) < (hs.length : Int) := by omega
    have c4 : out.length < 1466015503701 := by omega
    rw [e, e2]
    simp only [if_pos c1, if_pos c2, if_pos c3, rd_L6, Int.toNat_natCast, sp_inv, Option.bind_some, if_pos c4]
    have e3 : wrap64 (((m + j : Nat) : Int) - 1) = (m : Int) + (j : Int) - 1 := by rw [wrap_id (by omega) (by omega)]; omega
    rw [e3]
    refine (undo_l0 hs n m hn h10 j _ (by omega) (by rw [List.length_append, List.length_singleton]; omega)).eq_ ?_
    have ht : (hs.take (m + (j + 1))).drop m = (hs.take (m + j)).drop m ++ [hs.getD (m + j) z28] := by
      have hlt : m + j < hs.length := by omega
      rw [← Nat.add_assoc, List.take_add_one, List.drop_append, List.getElem?_eq_getElem hlt, List.getD_eq_getElem?_getD, List.getElem?_eq_getElem hlt]
      have hl : (hs.take (m + j)).length = m + j := by rw [List.length_take]; omega
      rw [hl, show m - (m + j) = 0 by omega]
      rfl
    rw [ht, List.reverse_append, List.map_append, ← List.append_assoc]
    rfl
theorem sp_UndoEdits (l : List S26) (hs : List S28) (n : Int) (hl : l.length ≤ 4194304) : Evn (fun k => spec_UndoEdits.f k l hs n) (undoTs l hs n) := by
  unfold spec_UndoEdits.f undoTs
  simp only [Option.bind_some]
  refine Evn.bind (sp_l19Good l hs hl) ?_
  refine Evn.ite (fun c => ?_) (fun c => ?_)
  · simp only [sp_l1In, Option.bind_some]
    apply Evn.step
    simp only [spec_UndoEdits.j0]
    by_cases c2 : 0 ≤ n ∧ n ≤ (hs.length : Int)
    · have g2 := (goodH_in c).2.1
      obtain ⟨q, rfl⟩ : ∃ q : Nat, n = q := ⟨n.toNat, by omega⟩
      have q1 : ¬ ((!decide (0 ≤ (q : Int) ∧ (q : Int) ≤ (hs.length : Int))) = true) := by rw [decide_eq_true c2]; decide
      rw [if_pos ⟨c, c2⟩]
      simp only [if_neg q1]
      have hw : wrap64 ((hs.length : Int) - 1) = ((hs.length - q : Nat) : Int) + (q : Int) - 1 := by rw [wrap_id (by omega) (by omega)]; omega
      rw [hw]
      refine (undo_l0 hs q (hs.length - q) (by omega) g2 q [] (Nat.le_refl _) (by simp; omega)).eq_ ?_
      rw [List.nil_append, Int.toNat_natCast, show hs.length - q + q = hs.length by omega, List.take_length]
    · have q1 : (!decide (0 ≤ n ∧ n ≤ (hs.length : Int))) = true := by rw [decide_eq_false c2]; decide
      rw [if_neg (fun h => c2 h.2)]
      simp only [if_pos q1]
      exact Evn.done _
  · apply Evn.step
    simp only [spec_UndoEdits.j0]
    rw [if_neg (fun h => c h.1)]
    exact Evn.done _

theorem im_within (x y z : Int) : impl_within.f x y z = some (decide (y ≤ x ∧ x ≤ z)) := by
  unfold impl_within.f
  by_cases h : x ≥ y <;> simp [h] <;> omega

theorem im_isStation (x : Int) : impl_isStation.f x = some (decide (0 ≤ x ∧ x ≤ 7)) := by
  simp only [impl_isStation.f, im_within, Option.bind_some]

theorem im_IsLeg (x : S26) : impl_IsLeg.f x.f0 x.f1 x.f2 x.f3 x.f4 = some (okLeg x) := by
  simp only [impl_IsLeg.f, im_isStation, impl_isBearing.f, im_within, Option.bind_some, ite_and, ite_not, okLeg]

theorem im_areLegs_l0 (xs : List S26) (hx : xs.length ≤ 4194304) : ∀ (d i : Nat), i + d = xs.length → Evn (fun k => impl_areLegs.l0 k xs xs (xs.length : Int) (i : Int)) ((xs.drop i).all okLeg && decide (xs.length ≤ 12)) := by
  intro d
  induction d with
  | zero =>
    intro i h
    refine Evn.step ?_
    have h1 : ¬ (i : Int) < (xs.length : Int) := by omega
    simp only [impl_areLegs.l0, if_neg h1]
    rw [List.drop_eq_nil_of_le (by omega)]
    refine (Evn.done _).eq_ ?_
    simp only [List.all_nil, Bool.true_and, decide_eq_decide]
    omega
  | succ d ih =>
    intro i h
    refine Evn.step ?_
    have h1 : (i : Int) < (xs.length : Int) := by omega
    have h2 : 0 ≤ (i : Int) := by omega
    simp only [impl_areLegs.l0, if_pos h1, if_pos h2, im_IsLeg, Option.bind_some, wrap_succ (show i < 4611686018427387904 by omega), rd_T26, Int.toNat_natCast]
    rw [getD_drop xs i z26 (by omega), List.all_cons]
    exact Evn.ite (fun c => (ih (i + 1) (by omega)).eq_ (by simp only [c, Bool.true_and])) (fun c => (Evn.done _).eq_ (by simp only [Bool.eq_false_iff.mpr c, Bool.false_and]))
theorem im_areLegs (xs : List S26) (hx : xs.length ≤ 4194304) : Evn (fun k => impl_areLegs.f k xs) (goodLegs xs) := by
  have h := im_areLegs_l0 xs hx xs.length 0 (by omega)
  simpa [impl_areLegs.f, goodLegs] using h

theorem im_isEdit (k a : Int) (x y : S26) : impl_isEdit.f k a x.f0 x.f1 x.f2 x.f3 x.f4 y.f0 y.f1 y.f2 y.f3 y.f4 = some (editB k a x y) := by
  simp only [impl_isEdit.f, im_IsLeg, im_within, Option.bind_some]
  unfold editB zeroB
  repeat' split
  all_goals rfl

theorem clone_leg (l : List S26) (h : l.length ≤ 4194304) : impl_Leg_91.f l = some l := by
  unfold impl_Leg_91.f
  rw [if_pos (by omega)]
theorem set_form {α : Type} (l : List α) (i : Nat) (v : α) (h : i < l.length) : l.set i v = l.take i ++ (v :: l.drop (i + 1)) := by
  rw [List.set_eq_take_append_cons_drop, if_pos h]
theorem im_apply (l : List S26) (hl : l.length ≤ 12) (kd a : Int) (x y : S26) : Evn (fun k => impl_apply.f k l kd a x.f0 x.f1 x.f2 x.f3 x.f4 y.f0 y.f1 y.f2 y.f3 y.f4) (appL l kd a x y) := by
  have no0 : Evn (fun k => impl_apply.j0 k l true kd a x.f0 x.f1 x.f2 x.f3 x.f4 y.f0 y.f1 y.f2 y.f3 y.f4) ([], false) := by
    refine Evn.step ?_
    simp only [impl_apply.j0, if_true]
    exact Evn.done _
  have no1 : Evn (fun k => impl_apply.j1 k l true kd a x.f0 x.f1 x.f2 x.f3 x.f4 y.f0 y.f1 y.f2 y.f3 y.f4) ([], false) := by
    refine Evn.step ?_
    simp only [impl_apply.j1, if_true]
    exact Evn.done _
  unfold impl_apply.f appL
  simp only [Option.bind_some, im_isEdit]
  by_cases hE : editB kd a x y = true
  · obtain ⟨⟨ha0, ha1⟩, hk⟩ := editB_in hE
    simp only [hE, if_true]
    by_cases k1 : kd = 1
    · simp only [if_pos k1]
      refine Evn.ite (fun c1 => by rw [if_pos c1]; exact no0) (fun c1 => ?_)
      rw [if_neg c1]
      by_cases c2 : l.length = 12
      · have e : ((l.length : Int) == 12) = true := beq_iff_eq.2 (by omega)
        rw [e, if_pos c2]
        exact no0
      · have e : ((l.length : Int) == 12) = false := beq_eq_false_iff_ne.2 (by omega)
        rw [e, if_neg c2]
        refine Evn.step ?_
        have hi : impl_Leg_90.f l a [y] = some (l.take a.toNat ++ (y :: l.drop a.toNat)) := by
          unfold impl_Leg_90.f
          rw [if_pos ⟨ha0, by omega, rfl, by omega⟩]
          rfl
        have hi' : impl_Leg_90.f l a [(⟨y.f0, y.f1, y.f2, y.f3, y.f4⟩ : S26)] = some (l.take a.toNat ++ (y :: l.drop a.toNat)) := hi
        simp only [impl_apply.j0, Bool.false_eq_true, if_false, clone_leg l (by omega), Option.bind_some, hi']
        exact Evn.done _
    · simp only [if_neg k1]
      refine Evn.ite (fun c1 => by rw [if_pos c1]; exact no1) (fun c1 => ?_)
      have c4 : a < (l.length : Int) := by omega
      rw [if_neg c1]
      simp only [if_pos ha0, if_pos c4, rd_T26]
      have eb : ∀ b : Bool, neqL (l.getD a.toNat z26) x = b → Evn (fun k => impl_apply.j1 k l b kd a x.f0 x.f1 x.f2 x.f3 x.f4 y.f0 y.f1 y.f2 y.f3 y.f4) (if b = true then ([], false) else if kd = 2 then (l.take a.toNat ++ l.drop (a.toNat + 1), true) else (l.take a.toNat ++ (y :: l.drop (a.toNat + 1)), true)) := by
        intro b hb
        cases b with
        | true => rw [if_pos rfl]; exact no1
        | false =>
          rw [if_neg (by decide)]
          refine Evn.step ?_
          simp only [impl_apply.j1, Bool.false_eq_true, if_false]
          by_cases k2 : kd = 2
          · have hi : impl_leaving.f l a = some (l.take a.toNat ++ l.drop (a.toNat + 1)) := by
              unfold impl_leaving.f
              rw [if_pos ⟨ha0, by omega, by omega⟩]
            simp only [if_pos k2, hi, Option.bind_some]
            exact Evn.done _
          · simp only [if_neg k2, clone_leg l (by omega), Option.bind_some, if_pos ha0, if_pos c4]
            refine (Evn.done _).eq_ ?_
            rw [set_form _ _ _ (by omega)]
      exact eb _ rfl
  · simp only [if_neg hE]
    exact Evn.done _

theorem rd_last (pre : List (List S26)) (c : List S26) (z : List S26) : (pre ++ [c]).getD pre.length z = c := by
  rw [List.getD_eq_getElem?_getD, List.getElem?_append_right (Nat.le_refl _), Nat.sub_self]
  rfl
theorem im_versions_l0 (hs : List S28) (hh : hs.length ≤ 10) : ∀ (d i : Nat) (pre : List (List S26)) (c : List S26), i + d = hs.length → pre.length = i → c.length ≤ 12 → Evn (fun k => impl_versions.l0 k (pre ++ [c]) hs (hs.length : Int) (i : Int)) (if (runB c (hs.drop i)).2 = true then (pre ++ versL c (hs.drop i), true) else ([], false)) := by
  intro d
  induction d with
  | zero =>
    intro i pre c h hp hc
    refine Evn.step ?_
    have h1 : ¬ (i : Int) < (hs.length : Int) := by omega
    simp only [impl_versions.l0, if_neg h1]
    rw [List.drop_eq_nil_of_le (by omega)]
    exact Evn.done _
  | succ d ih =>
    intro i pre c h hp hc
    have h1 : (i : Int) < (hs.length : Int) := by omega
    have h2 : 0 ≤ (i : Int) := by omega
    have h3 : (i : Int) < ((pre ++ [c]).length : Int) := by rw [List.length_append, List.length_singleton]; omega
    have hw := wrap_succ (show i < 4611686018427387904 by omega)
    have hr : (pre ++ [c]).getD i [] = c := by rw [← hp]; exact rd_last pre c []
    refine Evn.step ?_
    simp only [impl_versions.l0, if_pos h1, if_pos h2, if_pos h3, hw, rd_T28, rd_L6, Int.toNat_natCast, hr]
    clear hw
    rw [getD_drop hs i z28 (by omega)]
    refine Evn.bind (im_apply c hc (hs.getD i z28).f0 (hs.getD i z28).f1 (hs.getD i z28).f2 (hs.getD i z28).f3) ?_
    unfold runB versL
    unfold apE
    refine Evn.ite (fun c2 => ?_) (fun c2 => by rw [if_neg c2, if_neg (by decide)]; exact Evn.done _)
    rw [if_pos c2]
    refine Evn.ite (fun _ => ?_) (fun h4 => absurd (by rw [List.length_append, List.length_singleton]; omega) h4)
    have h5 := ih (i + 1) (pre ++ [c]) (appL c (hs.getD i z28).f0 (hs.getD i z28).f1 (hs.getD i z28).f2 (hs.getD i z28).f3).1 (by omega) (by rw [List.length_append, List.length_singleton]; omega) (appL_len hc _ _ _ _)
    refine h5.eq_ ?_
    rw [List.append_assoc]
    rfl
def verTs (l : List S26) (hs : List S28) : List (List S26) × Bool := if goodH l hs = true then (versL l hs, true) else ([], false)
theorem im_versions (l : List S26) (hs : List S28) (hl : l.length ≤ 4194304) : Evn (fun k => impl_versions.f k l hs) (verTs l hs) := by
  have no : ¬ goodH l hs = true → Evn (fun k => impl_versions.j0 k l hs true) (verTs l hs) := by
    intro h
    unfold verTs
    rw [if_neg h]
    refine Evn.step ?_
    simp only [impl_versions.j0, if_true]
    exact Evn.done _
  unfold impl_versions.f
  refine Evn.bind (im_areLegs l hl) ?_
  refine Evn.ite (fun c => ?_) (fun c => no (fun h => c (goodH_in h).1))
  by_cases c2 : (hs.length : Int) > 10
  · rw [decide_eq_true c2]
    exact no (fun h => by have := (goodH_in h).2.1; omega)
  · rw [decide_eq_false c2]
    refine Evn.step ?_
    simp only [impl_versions.j0, Bool.false_eq_true, if_false, clone_leg l hl, Option.bind_some]
    have h := im_versions_l0 hs (by omega) hs.length 0 [] l (by omega) rfl (goodLegs_len c)
    rw [List.drop_zero, List.nil_append, List.nil_append] at h
    refine h.eq_ ?_
    unfold verTs goodH
    rw [c, Bool.true_and, decide_eq_true (show hs.length ≤ 10 by omega), Bool.true_and]

theorem im_IsHistory (l : List S26) (hs : List S28) (hl : l.length ≤ 4194304) : Evn (fun k => impl_IsHistory.f k l hs) (goodH l hs) := by
  unfold impl_IsHistory.f
  refine Evn.bind (im_versions l hs hl) ?_
  refine (Evn.done _).eq_ ?_
  unfold verTs
  by_cases h : goodH l hs = true
  · rw [if_pos h, h]
  · rw [if_neg h, Bool.eq_false_iff.mpr h]

theorem im_UndoEdits (l : List S26) (hs : List S28) (n : Int) (hl : l.length ≤ 4194304) : Evn (fun k => impl_UndoEdits.f k l hs n) (undoTs l hs n) := by
  unfold impl_UndoEdits.f undoTs
  refine Evn.bind (im_IsHistory l hs hl) ?_
  refine Evn.ite (fun c => ?_) (fun c => by rw [if_neg (fun h => c h.1)]; exact Evn.done _)
  simp only [im_within, Option.bind_some]
  refine Evn.ite (fun c2 => ?_) (fun c2 => by rw [if_neg (fun h => c2 (decide_eq_true h.2))]; exact Evn.done _)
  have c3 := of_decide_eq_true c2
  have g2 := (goodH_in c).2.1
  have q1 : 0 ≤ n ∧ n ≤ (hs.length : Int) ∧ hs.length ≤ 4194304 := ⟨c3.1, c3.2, by omega⟩
  have q2 : goodH l hs = true ∧ 0 ≤ n ∧ n ≤ (hs.length : Int) := ⟨c, c3⟩
  rw [if_pos q2]
  simp only [if_pos q1]
  exact Evn.done _

theorem FnExactUndoEdits : ∀ (l0 : List (S23)) (l1 : List (S25)) (a2 : Int), l0.length ≤ maxLen → (∀ x ∈ l0, (Lit.int .i64 x.f0).wf = true ∧ (Lit.int .i64 x.f1).wf = true ∧ (Lit.int .i64 x.f2).wf = true ∧ (Lit.int .i64 x.f3).wf = true ∧ (Lit.int .i64 x.f4).wf = true) → l1.length ≤ maxLen → (∀ x ∈ l1, (Lit.int .i64 x.f0).wf = true ∧ (Lit.int .i64 x.f1).wf = true ∧ ((Lit.int .i64 x.f2.f0).wf = true ∧ (Lit.int .i64 x.f2.f1).wf = true ∧ (Lit.int .i64 x.f2.f2).wf = true ∧ (Lit.int .i64 x.f2.f3).wf = true ∧ (Lit.int .i64 x.f2.f4).wf = true) ∧ (Lit.int .i64 x.f3.f0).wf = true ∧ (Lit.int .i64 x.f3.f1).wf = true ∧ (Lit.int .i64 x.f3.f2).wf = true ∧ (Lit.int .i64 x.f3.f3).wf = true ∧ (Lit.int .i64 x.f3.f4).wf = true) → (Lit.int .i64 a2).wf = true → ∃ k, laws_FnExactUndoEdits.f k l0 l1 a2 = some true := by
  intro l m n0 hl _ hm _ _
  apply Evn.get
  unfold laws_FnExactUndoEdits.f
  simp only [ev_szLegS, Option.bind_some]
  refine Evn.ite (fun _ => Evn.done _) (fun h => ?_)
  have hx : l.length ≤ 1048576 := by unfold maxLen at hl; unfold wrap64 at h; split at h <;> omega
  have e1 : (if wrap64 (1048576 - (l.length : Int)) < 0 then -1 else wrap64 (1048576 - (l.length : Int))) = 1048576 - (l.length : Int) := by rw [wrap_id (by omega) (by omega), if_neg (by omega)]
  rw [e1]
  simp only [ev_szEditS, Option.bind_some]
  refine Evn.ite (fun _ => Evn.done _) (fun h2 => ?_)
  have hy : m.length ≤ 1048576 := by unfold maxLen at hl hm; unfold wrap64 at h2; split at h2 <;> omega
  clear h2 e1
  have hx' : (l.map convLeg).length ≤ 4194304 := by rw [List.length_map]; omega
  have hy' : (m.map convEdit).length ≤ 4194304 := by rw [List.length_map]; omega
  clear h hl hm
  have hs := sp_UndoEdits (l.map convLeg) (m.map convEdit) n0 hx'
  have hi := im_UndoEdits (l.map convLeg) (m.map convEdit) n0 hx'
  have hr := undoTs_len (l.map convLeg) (m.map convEdit) n0
  generalize undoTs (l.map convLeg) (m.map convEdit) n0 = r at hs hi hr
  generalize hL : l.map convLeg = L at hs hi hx'
  generalize hM : m.map convEdit = M at hs hi hy'
  have hto : Evn (fun k => laws_toLegS.f k l) L := hL ▸ ev_toLegS l hx
  have hto2 : Evn (fun k => laws_toEditS.f k m) M := hM ▸ ev_toEditS m hy
  repeat (first
    | exact Evn.done _
    | simp only [if_true, bne_self_eq_false, Bool.false_eq_true, if_false]
    | refine Evn.bind hto ?_
    | refine Evn.bind hto2 ?_
    | refine Evn.bind hs ?_
    | refine Evn.bind hi ?_
    | refine Evn.bind (ev_toLegS _ (by assumption)) ?_
    | refine Evn.bind (ev_toEditS _ (by assumption)) ?_
    | refine Evn.bind (ev_eqLegS _ (by assumption)) ?_
    | refine Evn.bind (ev_eqEditS _ (by assumption)) ?_
    | refine Evn.bind (ev_markLegS _ _ (by omega) (by omega) (by first | assumption | omega)) ?_
    | refine Evn.bind (ev_heldLegS _ _ (by omega) (by omega) (by first | assumption | omega)) ?_
    | refine Evn.bind (ev_markEditS _ _ (by omega) (by omega) (by first | assumption | omega)) ?_
    | refine Evn.bind (ev_heldEditS _ _ (by omega) (by omega) (by first | assumption | omega)) ?_
    | refine Evn.ite (fun h_ => absurd h_ (by first | omega | decide)) (fun _ => ?_)
    | refine Evn.ite (fun _ => ?_) (fun h_ => absurd (by first | rfl | omega) h_)
    | dsimp only
    | (refine Evn.step ?_; simp only [laws_FnExactUndoEdits.j0])
    | (refine Evn.step ?_; simp only [laws_FnExactUndoEdits.j1])
    | (refine Evn.step ?_; simp only [laws_FnExactUndoEdits.j2]))

end Go.Proofs.Ytinelmmnajelaaa.Pure
