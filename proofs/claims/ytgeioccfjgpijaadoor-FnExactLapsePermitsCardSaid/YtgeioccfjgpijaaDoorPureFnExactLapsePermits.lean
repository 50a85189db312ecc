/- The plain statement of FnExactLapsePermits: its plain function returns true at every input. No condition beyond the arguments' own bounds. -/
import Derived.Test.YtgeioccfjgpijaaDoorQFnExactLapsePermitsx9
import Derived.Test.YtgeioccfjgpijaaDoorVlAid
namespace Go.Proofs.YtgeioccfjgpijaaDoor.Pure
open Go.RowKit Go.Proofs.YtgeioccfjgpijaaDoorW.PrintWords Go.Proofs.YtgeioccfjgpijaaDoorW.PrintLast Go.Proofs.YtgeioccfjgpijaaDoor.Aid Go.Proofs.YtgeioccfjgpijaaDoor.QFnExactLapsePermits
set_option linter.unusedVariables false
set_option linter.unusedSimpArgs false

theorem ev_szPermitS_l0 (xs : List S23) (hx : xs.length ≤ 1152921504606846976) (hw : ∀ x ∈ xs, x.f1.size ≤ maxLen) : ∀ (d i : Nat) (q : Int), i + d = xs.length → 0 ≤ q → q ≤ 1048576 → ∃ r, Evn (fun k => laws_szPermitS.l0 k xs q (i : Int)) r ∧ (¬ r < 0 → ∀ x ∈ xs.drop i, x.f1.size ≤ 1048576) := by
  intro d
  induction d with
  | zero =>
    intro i q h _ _
    refine ⟨q, Evn.step ?_, fun _ x hx => by rw [List.drop_eq_nil_of_le (by omega)] at hx; cases hx⟩
    have h1 : ¬ (i : Int) < (xs.length : Int) := by omega
    simp only [laws_szPermitS.l0, if_neg h1]
    exact Evn.done _
  | succ d ih =>
    intro i q h h0 hq
    have h1 : (i : Int) < (xs.length : Int) := by omega
    have h2 : 0 ≤ (i : Int) := by omega
    have hb : (rd_T23 xs (i : Int)).f1.size ≤ maxLen := by
      unfold rd_T23
      rw [Int.toNat_natCast, List.getD_eq_getElem?_getD, List.getElem?_eq_getElem (by omega)]
      exact hw _ (List.getElem_mem _)
    generalize hs : (rd_T23 xs (i : Int)).f1.size = s at hb
    unfold maxLen at hb
    have hr : wrap64 (q - (s : Int)) = q - s := wrap_id (by omega) (by omega)
    by_cases h3 : q - (s : Int) < 0
    · refine ⟨-1, Evn.step ?_, by omega⟩
      simp only [laws_szPermitS.l0, laws_szPermit.f, if_pos h1, if_pos h2, hs, hr, if_pos h3, Option.bind_some]
      exact Evn.done _
    · obtain ⟨r, hr2, ha⟩ := ih (i + 1) (q - s) (by omega) (by omega) (by omega)
      refine ⟨r, Evn.step ?_, fun hn x hx => ?_⟩
      rotate_left
      · rw [getD_drop xs i z23 (by omega)] at hx
        rcases List.mem_cons.1 hx with rfl | hx
        · have e : (xs.getD i z23).f1.size = s := by rw [← hs]; unfold rd_T23; rw [Int.toNat_natCast]
          omega
        · exact ha hn x hx
      simp only [laws_szPermitS.l0, laws_szPermit.f, if_pos h1, if_pos h2, hs, hr, if_neg h3, Option.bind_some, wrap_succ (show i < 4611686018427387904 by omega)]
      exact hr2
theorem ev_szPermitS (xs : List S23) (hx : xs.length ≤ maxLen) (hw : ∀ x ∈ xs, x.f1.size ≤ maxLen) : ∃ r, Evn (fun k => laws_szPermitS.f k xs 1048576) r ∧ (¬ r < 0 → xs.length ≤ 1048576 ∧ ∀ x ∈ xs, x.f1.size ≤ 1048576) := by
  unfold maxLen at hx
  have hr : wrap64 (1048576 - (xs.length : Int)) = 1048576 - xs.length := wrap_id (by omega) (by omega)
  simp only [laws_szPermitS.f, hr]
  by_cases h : (1048576 : Int) - xs.length < 0
  · refine ⟨-1, ?_, by omega⟩
    simp only [if_pos h]
    exact Evn.done _
  · obtain ⟨r, hr2, ha⟩ := ev_szPermitS_l0 xs (by omega) hw xs.length 0 (1048576 - xs.length) (by omega) (by omega) (by omega)
    refine ⟨r, ?_, fun hn => ⟨by omega, by simpa using ha hn⟩⟩
    simp only [if_neg h]
    exact hr2

-- laws_toPermit: as it stands

def convPermit (x : S23) : S26 := ⟨x.f0, x.f1, x.f2, x.f3, x.f4, x.f5⟩
theorem ev_toPermitS_l0 (xs : List S23) (hx : xs.length ≤ 1048576) : ∀ (d i : Nat) (ys : List S26), i + d = xs.length → ys.length = xs.length → Evn (fun k => laws_toPermitS.l0 k xs ys (i : Int)) (ys.take i ++ (xs.drop i).map convPermit) := by
  intro d
  induction d with
  | zero =>
    intro i ys h hy
    refine Evn.step ?_
    have h1 : ¬ (i : Int) < (xs.length : Int) := by omega
    simp only [laws_toPermitS.l0, if_neg h1]
    have e : ys.take i ++ (xs.drop i).map convPermit = ys := by rw [List.take_of_length_le (by omega), List.drop_eq_nil_of_le (by omega)]; simp
    rw [e]
    exact Evn.done _
  | succ d ih =>
    intro i ys h hy
    refine Evn.step ?_
    have h1 : (i : Int) < (xs.length : Int) := by omega
    have h2 : 0 ≤ (i : Int) := by omega
    have h3 : (i : Int) < (ys.length : Int) := by omega
    simp only [laws_toPermitS.l0, laws_toPermit.f, if_pos h1, if_pos h2, if_pos h3, Option.bind_some, Int.toNat_natCast, wrap_succ (show i < 4611686018427387904 by omega)]
    refine (ih (i + 1) _ (by omega) (by simpa using hy)).eq_ ?_
    rw [set_take _ _ _ (by omega), getD_drop xs i z23 (by omega)]
    simp [convPermit, rd_T23]
theorem ev_toPermitS (xs : List S23) (hx : xs.length ≤ 1048576) : Evn (fun k => laws_toPermitS.f k xs) (xs.map convPermit) := by
  unfold laws_toPermitS.f
  refine Evn.ite (fun _ => Evn.ite (fun _ => ?_) (fun h => (h (by omega)).elim)) (fun h => (h (by omega)).elim)
  have h := ev_toPermitS_l0 xs hx xs.length 0 (List.replicate (xs.length : Int).toNat z26) (by omega) (by simp)
  simpa using h

-- laws_eqPermit: as it stands

theorem ev_eqPermitS_l0 (xs : List S26) (hx : xs.length ≤ 4194304) : ∀ (d i : Nat), i + d = xs.length → Evn (fun k => laws_eqPermitS.l0 k xs xs (i : Int)) true := by
  intro d
  induction d with
  | zero =>
    intro i h
    refine Evn.step ?_
    have h1 : ¬ (i : Int) < (xs.length : Int) := by omega
    simp only [laws_eqPermitS.l0, if_neg h1]
    exact Evn.done _
  | succ d ih =>
    intro i h
    refine Evn.step ?_
    have h1 : (i : Int) < (xs.length : Int) := by omega
    have h2 : 0 ≤ (i : Int) := by omega
    simp only [laws_eqPermitS.l0, laws_eqPermit.f, if_pos h1, if_pos h2, Option.bind_some, if_true, wrap_succ (show i < 4611686018427387904 by omega)]
    exact ih (i + 1) (by omega)
theorem ev_eqPermitS (xs : List S26) (hx : xs.length ≤ 4194304) : Evn (fun k => laws_eqPermitS.f k xs xs) true := by
  simp only [laws_eqPermitS.f, if_true]
  exact ev_eqPermitS_l0 xs hx xs.length 0 (by omega)

/-! The text of a mark: some text, the same each time. -/
theorem markText_l0 : ∀ (d : Nat) (n : Int) (s : ByteArray), n.toNat ≤ d → n ≤ 1152921504606846976 → s.size + n.toNat ≤ 4611686018427387904 → ∃ t, Evn (fun k => laws_markText.l0 k n s) t := by
  have one : ∀ (c : Int) (s : ByteArray), (strOfNums [c] ++ s).size = 1 + s.size := fun c s => by rw [ByteArray.size_append]; rfl
  intro d
  induction d with
  | zero =>
    intro n s h hn hs
    refine ⟨(⟨#[109]⟩ : ByteArray) ++ s, Evn.step ?_⟩
    simp only [laws_markText.l0, if_neg (show ¬ n > 0 by omega), if_pos (show 1 + s.size ≤ 9223372036854775807 by omega)]
    exact Evn.done _
  | succ d ih =>
    intro n s h hn hs
    by_cases c : n > 0
    · have hd : Int.tdiv n 10 = n / 10 := Int.tdiv_eq_ediv_of_nonneg (by omega)
      have hw : wrap64 (Int.tdiv n 10) = n / 10 := by rw [hd]; exact wrap_id (by omega) (by omega)
      obtain ⟨t, ht⟩ := ih (n / 10) (strOfNums [(wrap64 (48 + (Int.tmod n 10))) % 256] ++ s) (by omega) (by omega) (by rw [one]; omega)
      refine ⟨t, Evn.step ?_⟩
      have h1 : (strOfNums [(wrap64 (48 + (Int.tmod n 10))) % 256]).size = 1 := rfl
      simp only [laws_markText.l0, if_pos c, Option.bind_some, hw, h1, if_pos (show 1 + s.size ≤ 9223372036854775807 by omega)]
      exact ht
    · refine ⟨(⟨#[109]⟩ : ByteArray) ++ s, Evn.step ?_⟩
      simp only [laws_markText.l0, if_neg c, if_pos (show 1 + s.size ≤ 9223372036854775807 by omega)]
      exact Evn.done _
theorem markText_tot (n : Int) : ∃ t, n ≤ 1152921504606846976 → Evn (fun k => laws_markText.f k n) t := by
  by_cases hn : n ≤ 1152921504606846976
  · by_cases c : n ≤ 0
    · refine ⟨(⟨#[109, 48]⟩ : ByteArray), fun _ => ?_⟩
      simp only [laws_markText.f, if_pos c]
      exact Evn.done _
    · obtain ⟨t, ht⟩ := markText_l0 n.toNat n ⟨#[]⟩ (Nat.le_refl _) hn (by show 0 + n.toNat ≤ _; omega)
      refine ⟨t, fun _ => ?_⟩
      simp only [laws_markText.f, if_neg c]
      exact ht
  · exact ⟨⟨#[]⟩, fun h => absurd h hn⟩
noncomputable def mtx (n : Int) : ByteArray := Classical.choose (markText_tot n)
theorem ev_mtx (n : Int) (h : n ≤ 1152921504606846976) : Evn (fun k => laws_markText.f k n) (mtx n) := Classical.choose_spec (markText_tot n) h

/-! The marks that the law lays: b, b + 1, .. -/
noncomputable def marksPermit (b : Int) : Nat → List S26
  | 0 => []
  | d + 1 => (⟨b, mtx (b + 1), b + 2, b + 3, b + 4, b + 5⟩ : S26) :: marksPermit (b + 6) d
theorem marksPermit_len (d : Nat) : ∀ b, (marksPermit b d).length = d := by
  induction d with
  | zero => intro b; rfl
  | succ d ih => intro b; simp [marksPermit, ih]
theorem ev_markPermitS_l0 (n : Nat) (hn : n ≤ 4194304) : ∀ (d i : Nat) (b : Int) (ys : List S26), i + d = n → ys.length = n → 0 ≤ b → b + 6 * d ≤ 1099511627776 → Evn (fun k => laws_markPermitS.l0 k ys b (i : Int)) (b + 6 * d, ys.take i ++ marksPermit b d) := by
  intro d
  induction d with
  | zero =>
    intro i b ys h hy h0 hb
    refine Evn.step ?_
    have h1 : ¬ (i : Int) < (ys.length : Int) := by omega
    simp only [laws_markPermitS.l0, if_neg h1, marksPermit]
    rw [List.take_of_length_le (by omega)]
    simpa using Evn.done _
  | succ d ih =>
    intro i b ys h hy h0 hb
    refine Evn.step ?_
    have h1 : (i : Int) < (ys.length : Int) := by omega
    have h2 : 0 ≤ (i : Int) := by omega
    have hs : ∀ (zs : List S26) (v : S26), zs.length = ys.length → rd_T26 (zs.set i v) (i : Int) = v := by
      intro zs v hz
      unfold rd_T26
      rw [Int.toNat_natCast, List.getD_eq_getElem?_getD, List.getElem?_set_self (by omega)]
      rfl
    have hk := ih (i + 1) (b + 6) (ys.set i ⟨b, mtx (b + 1), b + 2, b + 3, b + 4, b + 5⟩) (by omega) (by simpa using hy) (by omega) (by omega)
    have hm := ev_mtx (b + 1) (by omega)
    have e1 : wrap64 (b + 1) = b + 1 := by rw [wrap_id (by omega) (by omega)]
    have e2 : wrap64 (b + 1 + 1) = b + 2 := by rw [wrap_id (by omega) (by omega)]; omega
    have e3 : wrap64 (b + 2 + 1) = b + 3 := by rw [wrap_id (by omega) (by omega)]; omega
    have e4 : wrap64 (b + 3 + 1) = b + 4 := by rw [wrap_id (by omega) (by omega)]; omega
    have e5 : wrap64 (b + 4 + 1) = b + 5 := by rw [wrap_id (by omega) (by omega)]; omega
    have e6 : wrap64 (b + 5 + 1) = b + 6 := by rw [wrap_id (by omega) (by omega)]; omega
    simp only [laws_markPermitS.l0, if_pos h1, if_pos h2, Option.bind_some, Int.toNat_natCast, hs, List.length_set, List.set_set, e1, e2, e3, e4, e5, e6, wrap_succ (show i < 4611686018427387904 from Nat.lt_of_lt_of_le (show i < 4194304 + 1 by omega) (by decide))]
    refine Evn.bind hm ?_
    refine hk.eq_ ?_
    rw [set_take _ _ _ (by omega), marksPermit, List.append_assoc]
    simp only [List.cons_append, List.nil_append, Prod.mk.injEq, and_true]
    omega
theorem ev_markPermitS (ys : List S26) (a : Int) (ha : 0 ≤ a) (ha2 : a ≤ 1048576) (hn : ys.length ≤ 4194304) : Evn (fun k => laws_markPermitS.f k ys a) (a + 6 * ys.length, marksPermit a ys.length) := by
  have h := ev_markPermitS_l0 ys.length hn ys.length 0 a ys (by omega) rfl ha (by omega)
  simpa [laws_markPermitS.f] using h

theorem ev_heldPermitS_l0 (n : Nat) (hn : n ≤ 4194304) : ∀ (d i : Nat) (b : Int) (ys : List S26), i + d = n → ys.length = n → ys.drop i = marksPermit b d → 0 ≤ b → b + 6 * d ≤ 1099511627776 → Evn (fun k => laws_heldPermitS.l0 k ys b (i : Int)) (b + 6 * d) := by
  intro d
  induction d with
  | zero =>
    intro i b ys h hy hd h0 hb
    refine Evn.step ?_
    have h1 : ¬ (i : Int) < (ys.length : Int) := by omega
    simp only [laws_heldPermitS.l0, if_neg h1]
    simpa using Evn.done _
  | succ d ih =>
    intro i b ys h hy hd h0 hb
    refine Evn.step ?_
    have h1 : (i : Int) < (ys.length : Int) := by omega
    have h2 : 0 ≤ (i : Int) := by omega
    rw [getD_drop ys i z26 (by omega), marksPermit] at hd
    injection hd with hd1 hd2
    have hr : rd_T26 ys (i : Int) = ⟨b, mtx (b + 1), b + 2, b + 3, b + 4, b + 5⟩ := by unfold rd_T26; rw [Int.toNat_natCast]; exact hd1
    have hk := ih (i + 1) (b + 6) ys (by omega) hy hd2 (by omega) (by omega)
    have hm := ev_mtx (b + 1) (by omega)
    have e1 : wrap64 (b + 1) = b + 1 := by rw [wrap_id (by omega) (by omega)]
    have e2 : wrap64 (b + 1 + 1) = b + 2 := by rw [wrap_id (by omega) (by omega)]; omega
    have e3 : wrap64 (b + 2 + 1) = b + 3 := by rw [wrap_id (by omega) (by omega)]; omega
    have e4 : wrap64 (b + 3 + 1) = b + 4 := by rw [wrap_id (by omega) (by omega)]; omega
    have e5 : wrap64 (b + 4 + 1) = b + 5 := by rw [wrap_id (by omega) (by omega)]; omega
    have e6 : wrap64 (b + 5 + 1) = b + 6 := by rw [wrap_id (by omega) (by omega)]; omega
    simp only [laws_heldPermitS.l0, if_pos h1, if_pos h2, hr, e1, e2, e3, e4, e5, e6, if_true, wrap_succ (show i < 4611686018427387904 from Nat.lt_of_lt_of_le (show i < 4194304 + 1 by omega) (by decide))]
    refine Evn.bind hm ?_
    simp only [if_true]
    refine hk.eq_ ?_
    clear e1 e2 e3 e4 e5 e6
    omega
theorem ev_heldPermitS (n : Nat) (a : Int) (ha : 0 ≤ a) (ha2 : a ≤ 1048576) (hn : n ≤ 4194304) : Evn (fun k => laws_heldPermitS.f k (marksPermit a n) a) (a + 6 * n) := by
  have h := ev_heldPermitS_l0 n hn n 0 a (marksPermit a n) (by omega) (marksPermit_len n a) rfl ha (by omega)
  simpa [laws_heldPermitS.f] using h

theorem sp_l1In (x y z : Int) : spec_l1In.f x y z = some (decide (y ≤ x ∧ x ≤ z)) := by
  unfold spec_l1In.f
  by_cases h : x ≥ y <;> simp [h] <;> omega

/-! A permit's rules. -/
def wordB (s : ByteArray) : Bool := decide (1 ≤ s.size) && (decide (s.size ≤ 10) && s.data.toList.all (fun b => decide (97 ≤ b.toNat ∧ b.toNat ≤ 122)))
def goodP (a : Int) (b : ByteArray) (c d e f : Int) : Bool := decide (1 ≤ a ∧ a ≤ 99) && (wordB b && (decide (0 ≤ c ∧ c ≤ 999) && (decide (c ≤ d ∧ d ≤ 999) && (decide (1 ≤ e ∧ e ≤ 12) && decide (0 ≤ f ∧ f ≤ 4)))))
theorem ite_if (b c : Bool) : (if b = true then some c else some false) = some (b && c) := by cases b <;> rfl

theorem bt_at (s : ByteArray) (i : Nat) (h : i < s.data.toList.length) : bt s (i : Int) = ((s.data.toList[i]).toNat : Int) := by
  have h2 : i < s.size := by simpa using h
  unfold bt
  rw [Int.toNat_natCast, dif_pos h2]
  rfl
theorem sp_l2Word_l0 (s : ByteArray) (hs : s.size ≤ 1152921504606846976) : ∀ (d i : Nat), i + d = s.size → Evn (fun k => spec_l2Word.l0 k s (i : Int)) ((s.data.toList.drop i).all (fun b => decide (97 ≤ b.toNat ∧ b.toNat ≤ 122)) && decide (1 ≤ (s.size : Int) ∧ (s.size : Int) ≤ 10)) := by
  have hl : s.data.toList.length = s.size := by simp
  intro d
  induction d with
  | zero =>
    intro i h
    refine Evn.step ?_
    have h1 : ¬ (i : Int) < (s.size : Int) := by omega
    simp only [spec_l2Word.l0, if_neg h1, sp_l1In, Option.bind_some]
    rw [List.drop_eq_nil_of_le (by omega)]
    exact Evn.done _
  | succ d ih =>
    intro i h
    refine Evn.step ?_
    have h1 : (i : Int) < (s.size : Int) := by omega
    have h2 : 0 ≤ (i : Int) := by omega
    have hb := bt_at s i (by omega)
    simp only [spec_l2Word.l0, if_pos h1, if_pos h2, hb, wrap_succ (show i < 4611686018427387904 by omega)]
    rw [List.drop_eq_getElem_cons (by omega), List.all_cons]
    generalize s.data.toList[i] = x
    refine Evn.ite (fun h3 => ?_) (fun h3 => Evn.ite (fun h4 => ?_) (fun h4 => ?_))
    · rw [show decide (97 ≤ x.toNat ∧ x.toNat ≤ 122) = false from decide_eq_false (by omega)]
      exact Evn.done _
    · rw [show decide (97 ≤ x.toNat ∧ x.toNat ≤ 122) = false from decide_eq_false (by omega)]
      exact Evn.done _
    · rw [show decide (97 ≤ x.toNat ∧ x.toNat ≤ 122) = true from decide_eq_true (by omega), Bool.true_and]
      exact ih (i + 1) (by omega)
theorem sp_l2Word (s : ByteArray) (hs : s.size ≤ 1152921504606846976) : Evn (fun k => spec_l2Word.f k s) (wordB s) := by
  refine (sp_l2Word_l0 s hs s.size 0 (by omega)).eq_ ?_
  unfold wordB
  rw [List.drop_zero]
  generalize s.data.toList.all _ = t
  by_cases h1 : 1 ≤ s.size <;> by_cases h2 : s.size ≤ 10 <;> cases t <;> simp [h1, h2] <;> omega

theorem sp_l22Day (a : Int) : spec_l22Day.f a = some (decide (0 ≤ a ∧ a ≤ 999)) := by simp only [spec_l22Day.f, sp_l1In, Option.bind_some]
theorem sp_l22One (a : Int) (b : ByteArray) (c d e f : Int) (hb : b.size ≤ 1152921504606846976) : Evn (fun k => spec_l22One.f k a b c d e f) (goodP a b c d e f) := by
  unfold spec_l22One.f goodP
  simp only [sp_l22Day, sp_l1In, Option.bind_some, ite_if]
  by_cases h : 1 ≤ a ∧ a ≤ 99
  · simp only [decide_eq_true h, if_true, Bool.true_and]
    refine Evn.bind (sp_l2Word b hb) ?_
    exact Evn.done _
  · simp only [decide_eq_false h, Bool.false_and, Bool.false_eq_true, if_false]
    exact Evn.done _

/-! A list of permits' rules. -/
def okP (x : S26) : Bool := goodP x.f0 x.f1 x.f2 x.f3 x.f4 x.f5
def holdsP (s : Int) : Bool := s == 1 || s == 3
def confP (a b : S26) : Bool := (holdsP a.f5 && holdsP b.f5) && (decide (a.f1.toList = b.f1.toList) && (decide (a.f2 ≤ b.f3) && decide (b.f2 ≤ a.f3)))
theorem confP_comm (a b : S26) : confP a b = confP b a := by
  unfold confP
  rw [Bool.and_comm (holdsP a.f5), show decide (a.f1.toList = b.f1.toList) = decide (b.f1.toList = a.f1.toList) from decide_eq_decide.2 eq_comm, Bool.and_comm (decide (a.f2 ≤ b.f3))]
def goodPl (xs : List S26) : Nat → Nat → Bool
  | 0, _ => decide ((xs.length : Int) ≤ 10)
  | d + 1, i => okP (xs.getD i z26) && ((decide (i = 0) || decide ((xs.getD (i - 1) z26).f0 < (xs.getD i z26).f0)) && (!((xs.take i).any fun y => confP y (xs.getD i z26)) && goodPl xs d (i + 1)))
def goodPs (xs : List S26) : Bool := goodPl xs xs.length 0
theorem getD_all {α : Type} (p : α → Prop) (xs : List α) (i : Nat) (z : α) (h : i < xs.length) (hp : ∀ x ∈ xs, p x) : p (xs.getD i z) := by
  rw [List.getD_eq_getElem?_getD, List.getElem?_eq_getElem h]
  exact hp _ (List.getElem_mem h)

theorem sp_l22Holds (a : Int) (b : ByteArray) (c d e f : Int) : spec_l22Holds.f a b c d e f = some (holdsP f) := by
  unfold spec_l22Holds.f holdsP
  by_cases h : f = 1 <;> simp [h]
theorem sp_l22Conflict (a b : S26) : spec_l22Conflict.f a.f0 a.f1 a.f2 a.f3 a.f4 a.f5 b.f0 b.f1 b.f2 b.f3 b.f4 b.f5 = some (confP a b) := by
  unfold spec_l22Conflict.f confP
  simp only [sp_l22Holds, Option.bind_some]
  by_cases h1 : a.f1.toList = b.f1.toList <;> by_cases h2 : a.f2 ≤ b.f3 <;> by_cases h3 : b.f2 ≤ a.f3 <;> cases holdsP a.f5 <;> cases holdsP b.f5 <;> simp [h1, h2, h3]
theorem sp_l22Good_l1 (xs : List S26) (hx : xs.length ≤ 4194304) (i : Nat) (hi : i < xs.length) (R : Bool) (hR : Evn (fun k => spec_l22Good.l0 k xs ((i + 1 : Nat) : Int)) R) : ∀ (d m : Nat), m + d = i → Evn (fun k => spec_l22Good.l1 k xs (i : Int) (m : Int)) (!(((xs.take i).drop m).any fun y => confP y (xs.getD i z26)) && R) := by
  intro d
  induction d with
  | zero =>
    intro m h
    refine Evn.step ?_
    have h1 : ¬ (m : Int) < (i : Int) := by omega
    simp only [spec_l22Good.l1, if_neg h1, wrap_succ (show i < 4611686018427387904 by omega)]
    rw [List.drop_eq_nil_of_le (by rw [List.length_take]; omega)]
    exact hR
  | succ d ih =>
    intro m h
    refine Evn.step ?_
    have h1 : (m : Int) < (i : Int) := by omega
    have h2 : 0 ≤ (m : Int) := by omega
    have h3 : (m : Int) < (xs.length : Int) := by omega
    have h4 : 0 ≤ (i : Int) := by omega
    have h5 : (i : Int) < (xs.length : Int) := by omega
    simp only [spec_l22Good.l1, if_pos h1, if_pos h2, if_pos h3, if_pos h4, if_pos h5, sp_l22Conflict, Option.bind_some, wrap_succ (show m < 4611686018427387904 by omega), rd_T26, Int.toNat_natCast]
    rw [getD_drop (xs.take i) m z26 (by rw [List.length_take]; omega), List.any_cons]
    have e : (xs.take i).getD m z26 = xs.getD m z26 := by
      rw [List.getD_eq_getElem?_getD, List.getD_eq_getElem?_getD, List.getElem?_take_of_lt (by omega)]
    rw [e]
    exact Evn.ite (fun c => (Evn.done _).eq_ (by rw [c]; simp)) (fun c => (ih (m + 1) (by omega)).eq_ (by rw [Bool.eq_false_iff.mpr c]; simp))
theorem sp_l22Good_l0 (xs : List S26) (hx : xs.length ≤ 4194304) (hw : ∀ x ∈ xs, x.f1.size ≤ 1152921504606846976) : ∀ (d i : Nat), i + d = xs.length → Evn (fun k => spec_l22Good.l0 k xs (i : Int)) (goodPl xs d i) := by
  intro d
  induction d with
  | zero =>
    intro i h
    refine Evn.step ?_
    have h1 : ¬ (i : Int) < (xs.length : Int) := by omega
    simp only [spec_l22Good.l0, if_neg h1, goodPl]
    exact Evn.done _
  | succ d ih =>
    intro i h
    refine Evn.step ?_
    have h1 : (i : Int) < (xs.length : Int) := by omega
    have h2 : 0 ≤ (i : Int) := by omega
    have hin := sp_l22Good_l1 xs hx i (by omega) _ (ih (i + 1) (by omega)) i 0 (by omega)
    rw [List.drop_zero] at hin
    have hb := getD_all (fun x => x.f1.size ≤ 1152921504606846976) xs i z26 (by omega) hw
    simp only [spec_l22Good.l0, if_pos h1, if_pos h2, rd_T26, Int.toNat_natCast, goodPl]
    refine Evn.bind (sp_l22One _ _ _ _ _ _ hb) ?_
    change Evn _ (okP (xs.getD i z26) && _)
    refine Evn.ite (fun c1 => ?_) (fun c1 => ?_)
    · rw [show okP (xs.getD i z26) = true from c1, Bool.true_and]
      rcases Nat.eq_zero_or_pos i with h0 | h0
      · subst h0
        have h3 : ¬ ((0 : Nat) : Int) > 0 := by omega
        simp only [if_neg h3, decide_true, Bool.true_or, Bool.true_and]
        refine Evn.step ?_
        simp only [spec_l22Good.j1, Bool.false_eq_true, if_false]
        exact hin
      · obtain ⟨j, rfl⟩ : ∃ j, i = j + 1 := ⟨i - 1, by omega⟩
        have h3 : ((j + 1 : Nat) : Int) > 0 := by omega
        have h4 : 0 ≤ (j : Int) := by omega
        have h5 : (j : Int) < (xs.length : Int) := by omega
        simp only [if_pos h3, wrap_pred (show j < 4611686018427387904 by omega), if_pos h4, if_pos h5, Int.toNat_natCast, Nat.add_sub_cancel]
        refine Evn.step ?_
        simp only [spec_l22Good.j1]
        refine Evn.ite (fun c3 => (Evn.done _).eq_ ?_) (fun c3 => hin.eq_ ?_)
        · have e1 : decide ((xs.getD j z26).f0 < (xs.getD (j + 1) z26).f0) = false := decide_eq_false (by have := of_decide_eq_true c3; omega)
          simp only [e1, show decide (j + 1 = 0) = false from by simp, Bool.or_false, Bool.false_and]
        · have e1 : decide ((xs.getD j z26).f0 < (xs.getD (j + 1) z26).f0) = true := decide_eq_true (by have : ¬ _ := fun h => c3 (decide_eq_true h); omega)
          simp only [e1, Bool.or_true, Bool.true_and]
    · rw [show okP (xs.getD i z26) = false from Bool.eq_false_iff.2 c1, Bool.false_and]
      refine Evn.step ?_
      simp only [spec_l22Good.j1, if_true]
      exact Evn.done _
theorem sp_l22Good (xs : List S26) (hx : xs.length ≤ 4194304) (hw : ∀ x ∈ xs, x.f1.size ≤ 1152921504606846976) : Evn (fun k => spec_l22Good.f k xs) (goodPs xs) := sp_l22Good_l0 xs hx hw xs.length 0 (by omega)

/-! A list with a permit in another state. -/
def setSt (x : S26) (s : Int) : S26 := ⟨x.f0, x.f1, x.f2, x.f3, x.f4, s⟩
def setP (xs : List S26) (i s : Int) : List S26 := xs.set i.toNat (setSt (rd_T26 xs i) s)
def withM (xs : List S26) (i s : Int) : List S26 × Bool := if goodPs (setP xs i s) = true then (setP xs i s, true) else ([], false)
theorem takeAny (xs : List S26) (p : S26 → Bool) (i : Nat) (hi : i ≤ xs.length) : (!((xs.take i).any p)) = true ↔ ∀ m, m < i → p (xs.getD m z26) = false := by
  rw [Bool.not_eq_true', ← Bool.not_eq_true, List.any_eq_true]
  constructor
  · intro h m hm
    cases hp : p (xs.getD m z26) with
    | false => rfl
    | true =>
      refine absurd ⟨xs.getD m z26, ?_, hp⟩ h
      rw [List.getD_eq_getElem?_getD, List.getElem?_eq_getElem (by omega), Option.getD_some]
      exact List.mem_take_iff_getElem.2 ⟨m, by omega, rfl⟩
  · rintro h ⟨x, hx, hp⟩
    obtain ⟨m, hm, rfl⟩ := List.mem_take_iff_getElem.1 hx
    have := h m (by omega)
    rw [List.getD_eq_getElem?_getD, List.getElem?_eq_getElem (by omega), Option.getD_some] at this
    rw [this] at hp
    cases hp
def atP (xs : List S26) (j : Nat) : Prop := okP (xs.getD j z26) = true ∧ (j = 0 ∨ (xs.getD (j - 1) z26).f0 < (xs.getD j z26).f0) ∧ ∀ m, m < j → confP (xs.getD m z26) (xs.getD j z26) = false
theorem goodPl_iff (xs : List S26) : ∀ (d i : Nat), i + d = xs.length → (goodPl xs d i = true ↔ xs.length ≤ 10 ∧ ∀ j, i ≤ j → j < xs.length → atP xs j) := by
  intro d
  induction d with
  | zero =>
    intro i h
    rw [goodPl, decide_eq_true_iff]
    exact ⟨fun h => ⟨by omega, fun j h1 h2 => by omega⟩, fun h => by omega⟩
  | succ d ih =>
    intro i h
    have e := ih (i + 1) (by omega)
    have t := takeAny xs (fun y => confP y (xs.getD i z26)) i (by omega)
    rw [goodPl, Bool.and_eq_true, Bool.and_eq_true, Bool.and_eq_true, e, t, Bool.or_eq_true, decide_eq_true_iff, decide_eq_true_iff]
    constructor
    · rintro ⟨g1, g2, g3, g4, g5⟩
      refine ⟨g4, fun j h1 h2 => ?_⟩
      rcases Nat.eq_or_lt_of_le h1 with e | e
      · subst e; exact ⟨g1, g2, g3⟩
      · exact g5 j (by omega) h2
    · rintro ⟨g4, g5⟩
      obtain ⟨g1, g2, g3⟩ := g5 i (Nat.le_refl _) (by omega)
      exact ⟨g1, g2, g3, g4, fun j h1 h2 => g5 j (by omega) h2⟩
theorem goodPs_iff (xs : List S26) : goodPs xs = true ↔ xs.length ≤ 10 ∧ ∀ j, j < xs.length → atP xs j := by
  have := goodPl_iff xs xs.length 0 (by omega)
  unfold goodPs
  rw [this]
  exact ⟨fun h => ⟨h.1, fun j hj => h.2 j (by omega) hj⟩, fun h => ⟨h.1, fun j _ hj => h.2 j hj⟩⟩
theorem goodPs_len {xs : List S26} (h : goodPs xs = true) : xs.length ≤ 10 := ((goodPs_iff xs).1 h).1
theorem withM_len (xs : List S26) (i s : Int) : (withM xs i s).1.length ≤ 10 := by
  unfold withM
  split
  · rename_i h; exact goodPs_len h
  · simp
theorem idxQ_range (p : S26 → Bool) : ∀ (l : List S26) (i : Int), 0 ≤ i → idxP26 p l i = -1 ∨ (i ≤ idxP26 p l i ∧ idxP26 p l i < i + l.length) := by
  intro l
  induction l with
  | nil => intro i _; exact Or.inl rfl
  | cons x l ih =>
    intro i h
    rw [idxP26, List.length_cons]
    by_cases c : p x = true
    · rw [if_pos c]; right; omega
    · rw [if_neg c]
      rcases ih (i + 1) (by omega) with e | e
      · exact Or.inl e
      · right; omega
theorem setP_word (xs : List S26) (hw : ∀ x ∈ xs, x.f1.size ≤ 1152921504606846976) (i s : Int) (h : i.toNat < xs.length) : ∀ x ∈ setP xs i s, x.f1.size ≤ 1152921504606846976 := by
  intro x hx
  rcases List.mem_or_eq_of_mem_set hx with hx | rfl
  · exact hw x hx
  · show (rd_T26 xs i).f1.size ≤ _
    unfold rd_T26
    rw [List.getD_eq_getElem?_getD, List.getElem?_eq_getElem h]
    exact hw _ (List.getElem_mem h)
theorem setP_len (xs : List S26) (i s : Int) : (setP xs i s).length = xs.length := by unfold setP; rw [List.length_set]

theorem sp_l22With (xs : List S26) (hx : xs.length ≤ 4194304) (i s : Int) (h0 : 0 ≤ i) (h1 : i < (xs.length : Int)) : spec_l22With.f xs i s = some (setP xs i s) := by
  unfold spec_l22With.f
  simp only [Option.bind_some, List.nil_append, List.length_nil, if_pos (show 0 + xs.length < 2513169434916 by omega), if_pos h0, if_pos h1]
  rfl

def lapL (day : Int) : Nat → Nat → List S26 → Int → List S26 × Int
  | 0, _, xs, n => (xs, n)
  | d + 1, i, xs, n => if holdsP (rd_T26 xs (i : Int)).f5 = true then (if (rd_T26 xs (i : Int)).f3 < day then lapL day d (i + 1) (setP xs (i : Int) 4) (n + 1) else lapL day d (i + 1) xs n) else lapL day d (i + 1) xs n
theorem lapL_len (day : Int) : ∀ (d i : Nat) (xs : List S26) (n : Int), (lapL day d i xs n).1.length = xs.length := by
  intro d
  induction d with
  | zero => intro i xs n; rfl
  | succ d ih =>
    intro i xs n
    rw [lapL]
    split
    · split
      · rw [ih, setP_len]
      · exact ih ..
    · exact ih ..
def lapM (xs : List S26) (day : Int) : List S26 × Int × Bool := if goodPs xs = true then (if 0 ≤ day ∧ day ≤ 999 then ((lapL day xs.length 0 xs 0).1, (lapL day xs.length 0 xs 0).2, true) else ([], 0, false)) else ([], 0, false)
theorem lapM_len (xs : List S26) (day : Int) : (lapM xs day).1.length ≤ 10 := by
  unfold lapM
  split
  · rename_i h
    split
    · show (lapL day xs.length 0 xs 0).1.length ≤ 10
      rw [lapL_len]
      exact goodPs_len h
    · simp
  · simp
theorem sp_Lapse_l0 (day : Int) (N : Nat) (hN : N ≤ 4194304) : ∀ (d i : Nat) (xs : List S26) (n : Int), xs.length = N → i + d = N → 0 ≤ n → n + d ≤ 8388608 → Evn (fun k => spec_LapsePermits.l0 k day xs n (i : Int)) ((lapL day d i xs n).1, (lapL day d i xs n).2, true) := by
  intro d
  induction d with
  | zero =>
    intro i xs n hx h h0 hn
    refine Evn.step ?_
    have h1 : ¬ (i : Int) < (xs.length : Int) := by omega
    simp only [spec_LapsePermits.l0, if_neg h1]
    exact Evn.done _
  | succ d ih =>
    intro i xs n hx h h0 hn
    refine Evn.step ?_
    have h1 : (i : Int) < (xs.length : Int) := by omega
    have h2 : 0 ≤ (i : Int) := by omega
    have hw : wrap64 (n + 1) = n + 1 := wrap_id (by omega) (by omega)
    have k1 := ih (i + 1) xs n hx (by omega) h0 (by omega)
    have k2 := ih (i + 1) (setP xs (i : Int) 4) (n + 1) (by rw [setP_len]; exact hx) (by omega) (by omega) (by omega)
    simp only [spec_LapsePermits.l0, if_pos h1, if_pos h2, sp_l22Holds, sp_l22With xs (by omega) _ 4 h2 h1, Option.bind_some, hw, wrap_succ (show i < 4611686018427387904 by omega)]
    rw [lapL]
    refine Evn.ite (fun c => ?_) (fun c => k1.eq_ (by rw [if_neg c]))
    rw [if_pos c]
    exact Evn.ite (fun c2 => k2.eq_ (by rw [if_pos c2])) (fun c2 => k1.eq_ (by rw [if_neg c2]))
theorem sp_LapsePermits (xs : List S26) (hx : xs.length ≤ 4194304) (hw : ∀ x ∈ xs, x.f1.size ≤ 1152921504606846976) (day : Int) : Evn (fun k => spec_LapsePermits.f k xs day) (lapM xs day) := by
  unfold spec_LapsePermits.f lapM
  have no : Evn (fun k => spec_LapsePermits.j0 k xs day true) ([], 0, false) := by
    refine Evn.step ?_
    simp only [spec_LapsePermits.j0, if_true]
    exact Evn.done _
  refine Evn.bind (sp_l22Good xs hx hw) ?_
  refine Evn.ite (fun c => ?_) (fun c => no.eq_ (by rw [if_neg c]))
  rw [if_pos c]
  simp only [sp_l22Day, Option.bind_some]
  by_cases c2 : 0 ≤ day ∧ day ≤ 999
  · rw [decide_eq_true c2, if_pos c2]
    refine Evn.step ?_
    simp only [spec_LapsePermits.j0, Bool.not_true, Bool.false_eq_true, if_false, Option.bind_some, List.nil_append, List.length_nil, if_pos (show 0 + xs.length < 2513169434916 by omega)]
    exact sp_Lapse_l0 day xs.length hx xs.length 0 xs 0 rfl (by omega) (by omega) (by omega)
  · rw [decide_eq_false c2, if_neg c2]
    exact no

theorem im_within (x y z : Int) : impl_within.f x y z = some (decide (y ≤ x ∧ x ≤ z)) := by
  unfold impl_within.f
  by_cases h : x ≥ y <;> simp [h] <;> omega

theorem im_isWord (b : ByteArray) : impl_isWord.f b = some (wordB b) := rfl
theorem im_isId (a : Int) : impl_isId.f a = some (decide (1 ≤ a ∧ a ≤ 99)) := by simp only [impl_isId.f, im_within, Option.bind_some]
theorem im_isDay (a : Int) : impl_isDay.f a = some (decide (0 ≤ a ∧ a ≤ 999)) := by simp only [impl_isDay.f, im_within, Option.bind_some]
theorem im_IsPermit (a : Int) (b : ByteArray) (c d e f : Int) : impl_IsPermit.f a b c d e f = some (goodP a b c d e f) := by
  unfold impl_IsPermit.f goodP
  simp only [im_isId, im_isDay, im_isWord, im_within, Option.bind_some, ite_if]

theorem im_counts (a : Int) (b : ByteArray) (c d e f : Int) : impl_Permit_counts.f a b c d e f = some (holdsP f) := by
  unfold impl_Permit_counts.f holdsP
  by_cases h : f = 1 <;> simp [h]
theorem im_conflict (a b : S26) : impl_conflict.f a.f0 a.f1 a.f2 a.f3 a.f4 a.f5 b.f0 b.f1 b.f2 b.f3 b.f4 b.f5 = some (confP a b) := by
  unfold impl_conflict.f confP
  simp only [im_counts, Option.bind_some]
  by_cases h1 : a.f1.toList = b.f1.toList <;> by_cases h2 : a.f2 ≤ b.f3 <;> by_cases h3 : b.f2 ≤ a.f3 <;> cases holdsP a.f5 <;> cases holdsP b.f5 <;> simp [h1, h2, h3]
theorem im_xConflicts (ys : List S26) (a : S26) : impl_xConflicts.f ys a.f0 a.f1 a.f2 a.f3 a.f4 a.f5 = some (ys.any fun y => confP y a) := by
  unfold impl_xConflicts.f
  congr 2
  funext x
  rw [im_conflict, confP_comm a x]
  cases confP x a <;> rfl
theorem im_ArePermits_l0 (xs : List S26) (hx : xs.length ≤ 4194304) : ∀ (d i : Nat), i + d = xs.length → Evn (fun k => impl_ArePermits.l0 k xs xs (xs.length : Int) (i : Int)) (goodPl xs d i) := by
  intro d
  induction d with
  | zero =>
    intro i h
    refine Evn.step ?_
    have h1 : ¬ (i : Int) < (xs.length : Int) := by omega
    simp only [impl_ArePermits.l0, if_neg h1, goodPl]
    exact Evn.done _
  | succ d ih =>
    intro i h
    refine Evn.step ?_
    have h1 : (i : Int) < (xs.length : Int) := by omega
    have h2 : 0 ≤ (i : Int) := by omega
    have h6 : (i : Int) ≤ (xs.length : Int) := by omega
    have hih := ih (i + 1) (by omega)
    simp only [impl_ArePermits.l0, if_pos h1, if_pos h2, if_pos h6, im_IsPermit, im_xConflicts, Option.bind_some, wrap_succ (show i < 4611686018427387904 by omega), rd_T26, Int.toNat_natCast, goodPl]
    change Evn _ (okP (xs.getD i z26) && _)
    have fin : Evn (fun k => if ((xs.take i).any fun y => confP y (xs.getD i z26)) = true then some false else impl_ArePermits.l0 k xs xs (xs.length : Int) ((i + 1 : Nat) : Int)) (!((xs.take i).any fun y => confP y (xs.getD i z26)) && goodPl xs d (i + 1)) :=
      Evn.ite (fun c => (Evn.done _).eq_ (by rw [c]; rfl)) (fun c => hih.eq_ (by rw [Bool.eq_false_iff.mpr c]; rfl))
    refine Evn.ite (fun c1 => ?_) (fun c1 => ?_)
    · rw [show okP (xs.getD i z26) = true from c1, Bool.true_and]
      rcases Nat.eq_zero_or_pos i with h0 | h0
      · subst h0
        have h3 : ¬ ((0 : Nat) : Int) > 0 := by omega
        simp only [if_neg h3, decide_true, Bool.true_or, Bool.true_and]
        exact fin
      · obtain ⟨j, rfl⟩ : ∃ j, i = j + 1 := ⟨i - 1, by omega⟩
        have h3 : ((j + 1 : Nat) : Int) > 0 := by omega
        have h4 : 0 ≤ (j : Int) := by omega
        have h5 : (j : Int) < (xs.length : Int) := by omega
        simp only [if_pos h3, wrap_pred (show j < 4611686018427387904 by omega), if_pos h4, if_pos h5, Int.toNat_natCast, Nat.add_sub_cancel]
        refine Evn.ite (fun c3 => (Evn.done _).eq_ ?_) (fun c3 => fin.eq_ ?_)
        · have e1 : decide ((xs.getD j z26).f0 < (xs.getD (j + 1) z26).f0) = false := decide_eq_false (by omega)
          simp only [e1, show decide (j + 1 = 0) = false from by simp, Bool.or_false, Bool.false_and]
        · have e1 : decide ((xs.getD j z26).f0 < (xs.getD (j + 1) z26).f0) = true := decide_eq_true (by omega)
          simp only [e1, Bool.or_true, Bool.true_and]
    · rw [show okP (xs.getD i z26) = false from Bool.eq_false_iff.2 c1, Bool.false_and]
      exact Evn.done _
theorem im_ArePermits (xs : List S26) (hx : xs.length ≤ 4194304) : Evn (fun k => impl_ArePermits.f k xs) (goodPs xs) := im_ArePermits_l0 xs hx xs.length 0 (by omega)

theorem im_Clone (xs : List S26) (hx : xs.length ≤ 4194304) : impl_Permit_68.f xs = some xs := by
  unfold impl_Permit_68.f
  rw [if_pos (by omega)]
theorem im_Lapse_l0 (day : Int) (N : Nat) (hN : N ≤ 4194304) : ∀ (d i : Nat) (xs : List S26) (n : Int), xs.length = N → i + d = N → 0 ≤ n → n + d ≤ 8388608 → Evn (fun k => impl_LapsePermits.l0 k day xs n (N : Int) (i : Int)) ((lapL day d i xs n).1, (lapL day d i xs n).2, true) := by
  intro d
  induction d with
  | zero =>
    intro i xs n hx h h0 hn
    refine Evn.step ?_
    have h1 : ¬ (i : Int) < (N : Int) := by omega
    simp only [impl_LapsePermits.l0, if_neg h1]
    exact Evn.done _
  | succ d ih =>
    intro i xs n hx h h0 hn
    refine Evn.step ?_
    have h1 : (i : Int) < (N : Int) := by omega
    have h3 : (i : Int) < (xs.length : Int) := by omega
    have h2 : 0 ≤ (i : Int) := by omega
    have hw : wrap64 (n + 1) = n + 1 := wrap_id (by omega) (by omega)
    have k1 := ih (i + 1) xs n hx (by omega) h0 (by omega)
    have k2 := ih (i + 1) (setP xs (i : Int) 4) (n + 1) (by rw [setP_len]; exact hx) (by omega) (by omega) (by omega)
    simp only [impl_LapsePermits.l0, if_pos h1, if_pos h2, if_pos h3, im_counts, Option.bind_some, hw, wrap_succ (show i < 4611686018427387904 by omega)]
    rw [lapL]
    refine Evn.ite (fun c => ?_) (fun c => k1.eq_ (by rw [if_neg c]))
    rw [if_pos c]
    exact Evn.ite (fun c2 => k2.eq_ (by rw [if_pos c2])) (fun c2 => k1.eq_ (by rw [if_neg c2]))
theorem im_LapsePermits (xs : List S26) (hx : xs.length ≤ 4194304) (day : Int) : Evn (fun k => impl_LapsePermits.f k xs day) (lapM xs day) := by
  unfold impl_LapsePermits.f lapM
  have no : Evn (fun k => impl_LapsePermits.j0 k xs day true) ([], 0, false) := by
    refine Evn.step ?_
    simp only [impl_LapsePermits.j0, if_true]
    exact Evn.done _
  refine Evn.bind (im_ArePermits xs hx) ?_
  refine Evn.ite (fun c => ?_) (fun c => no.eq_ (by rw [if_neg c]))
  rw [if_pos c]
  simp only [im_isDay, Option.bind_some]
  by_cases c2 : 0 ≤ day ∧ day ≤ 999
  · rw [decide_eq_true c2, if_pos c2]
    refine Evn.step ?_
    simp only [impl_LapsePermits.j0, Bool.not_true, Bool.false_eq_true, if_false, im_Clone xs hx, Option.bind_some]
    exact im_Lapse_l0 day xs.length hx xs.length 0 xs 0 rfl (by omega) (by omega) (by omega)
  · rw [decide_eq_false c2, if_neg c2]
    exact no

theorem FnExactLapsePermits : ∀ (l0 : List (S23)) (a1 : Int), l0.length ≤ maxLen → (∀ x ∈ l0, (Lit.int .i64 x.f0).wf = true ∧ x.f1.size ≤ maxLen ∧ (Lit.int .i64 x.f2).wf = true ∧ (Lit.int .i64 x.f3).wf = true ∧ (Lit.int .i64 x.f4).wf = true ∧ (Lit.int .i64 x.f5).wf = true) → (Lit.int .i64 a1).wf = true → ∃ k, laws_FnExactLapsePermits.f k l0 a1 = some true := by
  intro l n hl hw _
  apply Evn.get
  obtain ⟨r, hr, hn⟩ := ev_szPermitS l hl (fun x hx => (hw x hx).2.1)
  simp only [laws_FnExactLapsePermits.f]
  refine Evn.bind hr ?_
  refine Evn.ite (fun _ => Evn.done _) (fun h => ?_)
  obtain ⟨hx, hsz⟩ := hn h
  have hx' : (l.map convPermit).length ≤ 4194304 := by rw [List.length_map]; omega
  have hw' : ∀ x ∈ l.map convPermit, x.f1.size ≤ 1152921504606846976 := by
    intro x hx
    obtain ⟨y, hy, rfl⟩ := List.mem_map.1 hx
    have := hsz y hy
    show y.f1.size ≤ _
    omega
  have hs := sp_LapsePermits _ hx' hw' n
  have hi := im_LapsePermits _ hx' n
  have hrl : (lapM (l.map convPermit) n).1.length ≤ 4194304 := Nat.le_trans (lapM_len _ _) (by decide)
  clear hr hn h hl hw hw' hsz
  generalize lapM (l.map convPermit) n = r at hs hi hrl
  generalize hL : l.map convPermit = L at hs hi hx'
  have hto : Evn (fun k => laws_toPermitS.f k l) L := hL ▸ ev_toPermitS l hx
  repeat (first
    | exact Evn.done _
    | simp only [if_true, bne_self_eq_false, Bool.false_eq_true, if_false]
    | refine Evn.bind hto ?_
    | refine Evn.bind hs ?_
    | refine Evn.bind hi ?_
    | refine Evn.bind (ev_toPermitS _ (by assumption)) ?_
    | refine Evn.bind (ev_eqPermitS _ (by assumption)) ?_
    | refine Evn.bind (ev_markPermitS _ _ (by omega) (by omega) (by first | assumption | omega)) ?_
    | refine Evn.bind (ev_heldPermitS _ _ (by omega) (by omega) (by first | assumption | omega)) ?_
    | refine Evn.ite (fun h_ => absurd h_ (by first | omega | decide)) (fun _ => ?_)
    | refine Evn.ite (fun _ => ?_) (fun h_ => absurd (by first | rfl | omega) h_)
    | dsimp only
    | (refine Evn.step ?_; simp only [laws_FnExactLapsePermits.j0])
    | (refine Evn.step ?_; simp only [laws_FnExactLapsePermits.j1])
    | (refine Evn.step ?_; simp only [laws_FnExactLapsePermits.j2]))

end Go.Proofs.YtgeioccfjgpijaaDoor.Pure
