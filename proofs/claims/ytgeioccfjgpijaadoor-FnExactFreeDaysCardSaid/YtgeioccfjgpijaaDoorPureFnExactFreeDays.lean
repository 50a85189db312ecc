/- The plain statement of FnExactFreeDays: its plain function returns true at every input. No condition beyond the arguments' own bounds. -/
import Derived.Test.YtgeioccfjgpijaaDoorQFnExactFreeDaysx9
import Derived.Test.YtgeioccfjgpijaaDoorVFAid
namespace Go.Proofs.YtgeioccfjgpijaaDoor.Pure
open Go.RowKit Go.Proofs.YtgeioccfjgpijaaDoorW.PrintWords Go.Proofs.YtgeioccfjgpijaaDoorW.PrintLast Go.Proofs.YtgeioccfjgpijaaDoor.Aid Go.Proofs.YtgeioccfjgpijaaDoor.QFnExactFreeDays
set_option linter.unusedVariables false
set_option linter.unusedSimpArgs false

theorem ev_szPermitS_l0 (xs : List S23) (hx : xs.length ≤ 1152921504606846976) (hw : ∀ x ∈ xs, x.f1.size ≤ maxLen) : ∀ (d i : Nat) (q : Int), i + d = xs.length → 0 ≤ q → q ≤ 1048576 → ∃ r, Evn (fun k => laws_szPermitS.l0 k xs q (i : Int)) r ∧ (¬ r < 0 → ∀ x ∈ xs.drop i, x.f1.size ≤ 1048576) := by
  intro d
  induction d with
  | zero =>
    intro i q h _ _
    refine ⟨q, Evn.step ?_, fun _ x hx => by rw [List.drop_eq_nil_of_le (by omega)] at hx; cases hx⟩
    have h1 : ¬ (i : Int) < (xs.length : Int) := by omega
    simp only [laws_szPermitS.l0, if_neg h1]
    exact Evn.done _
  | succ d ih =>
    intro i q h h0 hq
    have h1 : (i : Int) < (xs.length : Int) := by omega
    have h2 : 0 ≤ (i : Int) := by omega
    have hb : (rd_T23 xs (i : Int)).f1.size ≤ maxLen := by
      unfold rd_T23
      rw [Int.toNat_natCast, List.getD_eq_getElem?_getD, List.getElem?_eq_getElem (by omega)]
      exact hw _ (List.getElem_mem _)
    generalize hs : (rd_T23 xs (i : Int)).f1.size = s at hb
    unfold maxLen at hb
    have hr : wrap64 (q - (s : Int)) = q - s := wrap_id (by omega) (by omega)
    by_cases h3 : q - (s : Int) < 0
    · refine ⟨-1, Evn.step ?_, by omega⟩
      simp only [laws_szPermitS.l0, laws_szPermit.f, if_pos h1, if_pos h2, hs, hr, if_pos h3, Option.bind_some]
      exact Evn.done _
    · obtain ⟨r, hr2, ha⟩ := ih (i + 1) (q - s) (by omega) (by omega) (by omega)
      refine ⟨r, Evn.step ?_, fun hn x hx => ?_⟩
      rotate_left
      · rw [getD_drop xs i z23 (by omega)] at hx
        rcases List.mem_cons.1 hx with rfl | hx
        · have e : (xs.getD i z23).f1.size = s := by rw [← hs]; unfold rd_T23; rw [Int.toNat_natCast]
          omega
        · exact ha hn x hx
      simp only [laws_szPermitS.l0, laws_szPermit.f, if_pos h1, if_pos h2, hs, hr, if_neg h3, Option.bind_some, wrap_succ (show i < 4611686018427387904 by omega)]
      exact hr2
theorem ev_szPermitS (xs : List S23) (hx : xs.length ≤ maxLen) (hw : ∀ x ∈ xs, x.f1.size ≤ maxLen) : ∃ r, Evn (fun k => laws_szPermitS.f k xs 1048576) r ∧ (¬ r < 0 → xs.length ≤ 1048576 ∧ ∀ x ∈ xs, x.f1.size ≤ 1048576) := by
  unfold maxLen at hx
  have hr : wrap64 (1048576 - (xs.length : Int)) = 1048576 - xs.length := wrap_id (by omega) (by omega)
  simp only [laws_szPermitS.f, hr]
  by_cases h : (1048576 : Int) - xs.length < 0
  · refine ⟨-1, ?_, by omega⟩
    simp only [if_pos h]
    exact Evn.done _
  · obtain ⟨r, hr2, ha⟩ := ev_szPermitS_l0 xs (by omega) hw xs.length 0 (1048576 - xs.length) (by omega) (by omega) (by omega)
    refine ⟨r, ?_, fun hn => ⟨by omega, by simpa using ha hn⟩⟩
    simp only [if_neg h]
    exact hr2

-- laws_toPermit: as it stands

def convPermit (x : S23) : S26 := ⟨x.f0, x.f1, x.f2, x.f3, x.f4, x.f5⟩
theorem ev_toPermitS_l0 (xs : List S23) (hx : xs.length ≤ 1048576) : ∀ (d i : Nat) (ys : List S26), i + d = xs.length → ys.length = xs.length → Evn (fun k => laws_toPermitS.l0 k xs ys (i : Int)) (ys.take i ++ (xs.drop i).map convPermit) := by
  intro d
  induction d with
  | zero =>
    intro i ys h hy
    refine Evn.step ?_
    have h1 : ¬ (i : Int) < (xs.length : Int) := by omega
    simp only [laws_toPermitS.l0, if_neg h1]
    have e : ys.take i ++ (xs.drop i).map convPermit = ys := by rw [List.take_of_length_le (by omega), List.drop_eq_nil_of_le (by omega)]; simp
    rw [e]
    exact Evn.done _
  | succ d ih =>
    intro i ys h hy
    refine Evn.step ?_
    have h1 : (i : Int) < (xs.length : Int) := by omega
    have h2 : 0 ≤ (i : Int) := by omega
    have h3 : (i : Int) < (ys.length : Int) := by omega
    simp only [laws_toPermitS.l0, laws_toPermit.f, if_pos h1, if_pos h2, if_pos h3, Option.bind_some, Int.toNat_natCast, wrap_succ (show i < 4611686018427387904 by omega)]
    refine (ih (i + 1) _ (by omega) (by simpa using hy)).eq_ ?_
    rw [set_take _ _ _ (by omega), getD_drop xs i z23 (by omega)]
    simp [convPermit, rd_T23]
theorem ev_toPermitS (xs : List S23) (hx : xs.length ≤ 1048576) : Evn (fun k => laws_toPermitS.f k xs) (xs.map convPermit) := by
  unfold laws_toPermitS.f
  refine Evn.ite (fun _ => Evn.ite (fun _ => ?_) (fun h => (h (by omega)).elim)) (fun h => (h (by omega)).elim)
  have h := ev_toPermitS_l0 xs hx xs.length 0 (List.replicate (xs.length : Int).toNat z26) (by omega) (by simp)
  simpa using h

-- laws_eqPermit: as it stands

theorem ev_eqPermitS_l0 (xs : List S26) (hx : xs.length ≤ 4194304) : ∀ (d i : Nat), i + d = xs.length → Evn (fun k => laws_eqPermitS.l0 k xs xs (i : Int)) true := by
  intro d
  induction d with
  | zero =>
    intro i h
    refine Evn.step ?_
    have h1 : ¬ (i : Int) < (xs.length : Int) := by omega
    simp only [laws_eqPermitS.l0, if_neg h1]
    exact Evn.done _
  | succ d ih =>
    intro i h
    refine Evn.step ?_
    have h1 : (i : Int) < (xs.length : Int) := by omega
    have h2 : 0 ≤ (i : Int) := by omega
    simp only [laws_eqPermitS.l0, laws_eqPermit.f, if_pos h1, if_pos h2, Option.bind_some, if_true, wrap_succ (show i < 4611686018427387904 by omega)]
    exact ih (i + 1) (by omega)
theorem ev_eqPermitS (xs : List S26) (hx : xs.length ≤ 4194304) : Evn (fun k => laws_eqPermitS.f k xs xs) true := by
  simp only [laws_eqPermitS.f, if_true]
  exact ev_eqPermitS_l0 xs hx xs.length 0 (by omega)

/-! The text of a mark: some text, the same each time. -/
theorem markText_l0 : ∀ (d : Nat) (n : Int) (s : ByteArray), n.toNat ≤ d → n ≤ 1152921504606846976 → s.size + n.toNat ≤ 4611686018427387904 → ∃ t, Evn (fun k => laws_markText.l0 k n s) t := by
  have one : ∀ (c : Int) (s : ByteArray), (strOfNums [c] ++ s).size = 1 + s.size := fun c s => by rw [ByteArray.size_append]; rfl
  intro d
  induction d with
  | zero =>
    intro n s h hn hs
    refine ⟨(⟨#[109]⟩ : ByteArray) ++ s, Evn.step ?_⟩
    simp only [laws_markText.l0, if_neg (show ¬ n > 0 by omega), if_pos (show 1 + s.size ≤ 9223372036854775807 by omega)]
    exact Evn.done _
  | succ d ih =>
    intro n s h hn hs
    by_cases c : n > 0
    · have hd : Int.tdiv n 10 = n / 10 := Int.tdiv_eq_ediv_of_nonneg (by omega)
      have hw : wrap64 (Int.tdiv n 10) = n / 10 := by rw [hd]; exact wrap_id (by omega) (by omega)
      obtain ⟨t, ht⟩ := ih (n / 10) (strOfNums [(wrap64 (48 + (Int.tmod n 10))) % 256] ++ s) (by omega) (by omega) (by rw [one]; omega)
      refine ⟨t, Evn.step ?_⟩
      have h1 : (strOfNums [(wrap64 (48 + (Int.tmod n 10))) % 256]).size = 1 := rfl
      simp only [laws_markText.l0, if_pos c, Option.bind_some, hw, h1, if_pos (show 1 + s.size ≤ 9223372036854775807 by omega)]
      exact ht
    · refine ⟨(⟨#[109]⟩ : ByteArray) ++ s, Evn.step ?_⟩
      simp only [laws_markText.l0, if_neg c, if_pos (show 1 + s.size ≤ 9223372036854775807 by omega)]
      exact Evn.done _
theorem markText_tot (n : Int) : ∃ t, n ≤ 1152921504606846976 → Evn (fun k => laws_markText.f k n) t := by
  by_cases hn : n ≤ 1152921504606846976
  · by_cases c : n ≤ 0
    · refine ⟨(⟨#[109, 48]⟩ : ByteArray), fun _ => ?_⟩
      simp only [laws_markText.f, if_pos c]
      exact Evn.done _
    · obtain ⟨t, ht⟩ := markText_l0 n.toNat n ⟨#[]⟩ (Nat.le_refl _) hn (by show 0 + n.toNat ≤ _; omega)
      refine ⟨t, fun _ => ?_⟩
      simp only [laws_markText.f, if_neg c]
      exact ht
  · exact ⟨⟨#[]⟩, fun h => absurd h hn⟩
noncomputable def mtx (n : Int) : ByteArray := Classical.choose (markText_tot n)
theorem ev_mtx (n : Int) (h : n ≤ 1152921504606846976) : Evn (fun k => laws_markText.f k n) (mtx n) := Classical.choose_spec (markText_tot n) h

/-! The marks that the law lays: b, b + 1, .. -/
noncomputable def marksPermit (b : Int) : Nat → List S26
  | 0 => []
  | d + 1 => (⟨b, mtx (b + 1), b + 2, b + 3, b + 4, b + 5⟩ : S26) :: marksPermit (b + 6) d
theorem marksPermit_len (d : Nat) : ∀ b, (marksPermit b d).length = d := by
  induction d with
  | zero => intro b; rfl
  | succ d ih => intro b; simp [marksPermit, ih]
theorem ev_markPermitS_l0 (n : Nat) (hn : n ≤ 4194304) : ∀ (d i : Nat) (b : Int) (ys : List S26), i + d = n → ys.length = n → 0 ≤ b → b + 6 * d ≤ 1099511627776 → Evn (fun k => laws_markPermitS.l0 k ys b (i : Int)) (b + 6 * d, ys.take i ++ marksPermit b d) := by
  intro d
  induction d with
  | zero =>
    intro i b ys h hy h0 hb
    refine Evn.step ?_
    have h1 : ¬ (i : Int) < (ys.length : Int) := by omega
    simp only [laws_markPermitS.l0, if_neg h1, marksPermit]
    rw [List.take_of_length_le (by omega)]
    simpa using Evn.done _
  | succ d ih =>
    intro i b ys h hy h0 hb
    refine Evn.step ?_
    have h1 : (i : Int) < (ys.length : Int) := by omega
    have h2 : 0 ≤ (i : Int) := by omega
    have hs : ∀ (zs : List S26) (v : S26), zs.length = ys.length → rd_T26 (zs.set i v) (i : Int) = v := by
      intro zs v hz
      unfold rd_T26
      rw [Int.toNat_natCast, List.getD_eq_getElem?_getD, List.getElem?_set_self (by omega)]
      rfl
    have hk := ih (i + 1) (b + 6) (ys.set i ⟨b, mtx (b + 1), b + 2, b + 3, b + 4, b + 5⟩) (by omega) (by simpa using hy) (by omega) (by omega)
    have hm := ev_mtx (b + 1) (by omega)
    have e1 : wrap64 (b + 1) = b + 1 := by rw [wrap_id (by omega) (by omega)]
    have e2 : wrap64 (b + 1 + 1) = b + 2 := by rw [wrap_id (by omega) (by omega)]; omega
    have e3 : wrap64 (b + 2 + 1) = b + 3 := by rw [wrap_id (by omega) (by omega)]; omega
    have e4 : wrap64 (b + 3 + 1) = b + 4 := by rw [wrap_id (by omega) (by omega)]; omega
    have e5 : wrap64 (b + 4 + 1) = b + 5 := by rw [wrap_id (by omega) (by omega)]; omega
    have e6 : wrap64 (b + 5 + 1) = b + 6 := by rw [wrap_id (by omega) (by omega)]; omega
    simp only [laws_markPermitS.l0, if_pos h1, if_pos h2, Option.bind_some, Int.toNat_natCast, hs, List.length_set, List.set_set, e1, e2, e3, e4, e5, e6, wrap_succ (show i < 4611686018427387904 from Nat.lt_of_lt_of_le (show i < 4194304 + 1 by omega) (by decide))]
    refine Evn.bind hm ?_
    refine hk.eq_ ?_
    rw [set_take _ _ _ (by omega), marksPermit, List.append_assoc]
    simp only [List.cons_append, List.nil_append, Prod.mk.injEq, and_true]
    omega
theorem ev_markPermitS (ys : List S26) (a : Int) (ha : 0 ≤ a) (ha2 : a ≤ 1048576) (hn : ys.length ≤ 4194304) : Evn (fun k => laws_markPermitS.f k ys a) (a + 6 * ys.length, marksPermit a ys.length) := by
  have h := ev_markPermitS_l0 ys.length hn ys.length 0 a ys (by omega) rfl ha (by omega)
  simpa [laws_markPermitS.f] using h

theorem sp_l1In (x y z : Int) : spec_l1In.f x y z = some (decide (y ≤ x ∧ x ≤ z)) := by
  unfold spec_l1In.f
  by_cases h : x ≥ y <;> simp [h] <;> omega

/-! A permit's rules. -/
def wordB (s : ByteArray) : Bool := decide (1 ≤ s.size) && (decide (s.size ≤ 10) && s.data.toList.all (fun b => decide (97 ≤ b.toNat ∧ b.toNat ≤ 122)))
def goodP (a : Int) (b : ByteArray) (c d e f : Int) : Bool := decide (1 ≤ a ∧ a ≤ 99) && (wordB b && (decide (0 ≤ c ∧ c ≤ 999) && (decide (c ≤ d ∧ d ≤ 999) && (decide (1 ≤ e ∧ e ≤ 12) && decide (0 ≤ f ∧ f ≤ 4)))))
theorem ite_if (b c : Bool) : (if b = true then some c else some false) = some (b && c) := by cases b <;> rfl

theorem bt_at (s : ByteArray) (i : Nat) (h : i < s.data.toList.length) : bt s (i : Int) = ((s.data.toList[i]).toNat : Int) := by
  have h2 : i < s.size := by simpa using h
  unfold bt
  rw [Int.toNat_natCast, dif_pos h2]
  rfl
theorem sp_l2Word_l0 (s : ByteArray) (hs : s.size ≤ 1152921504606846976) : ∀ (d i : Nat), i + d = s.size → Evn (fun k => spec_l2Word.l0 k s (i : Int)) ((s.data.toList.drop i).all (fun b => decide (97 ≤ b.toNat ∧ b.toNat ≤ 122)) && decide (1 ≤ (s.size : Int) ∧ (s.size : Int) ≤ 10)) := by
  have hl : s.data.toList.length = s.size := by simp
  intro d
  induction d with
  | zero =>
    intro i h
    refine Evn.step ?_
    have h1 : ¬ (i : Int) < (s.size : Int) := by omega
    simp only [spec_l2Word.l0, if_neg h1, sp_l1In, Option.bind_some]
    rw [List.drop_eq_nil_of_le (by omega)]
    exact Evn.done _
  | succ d ih =>
    intro i h
    refine Evn.step ?_
    have h1 : (i : Int) < (s.size : Int) := by omega
    have h2 : 0 ≤ (i : Int) := by omega
    have hb := bt_at s i (by omega)
    simp only [spec_l2Word.l0, if_pos h1, if_pos h2, hb, wrap_succ (show i < 4611686018427387904 by omega)]
    rw [List.drop_eq_getElem_cons (by omega), List.all_cons]
    generalize s.data.toList[i] = x
    refine Evn.ite (fun h3 => ?_) (fun h3 => Evn.ite (fun h4 => ?_) (fun h4 => ?_))
    · rw [show decide (97 ≤ x.toNat ∧ x.toNat ≤ 122) = false from decide_eq_false (by omega)]
      exact Evn.done _
    · rw [show decide (97 ≤ x.toNat ∧ x.toNat ≤ 122) = false from decide_eq_false (by omega)]
      exact Evn.done _
    · rw [show decide (97 ≤ x.toNat ∧ x.toNat ≤ 122) = true from decide_eq_true (by omega), Bool.true_and]
      exact ih (i + 1) (by omega)
theorem sp_l2Word (s : ByteArray) (hs : s.size ≤ 1152921504606846976) : Evn (fun k => spec_l2Word.f k s) (wordB s) := by
  refine (sp_l2Word_l0 s hs s.size 0 (by omega)).eq_ ?_
  unfold wordB
  rw [List.drop_zero]
  generalize s.data.toList.all _ = t
  by_cases h1 : 1 ≤ s.size <;> by_cases h2 : s.size ≤ 10 <;> cases t <;> simp [h1, h2] <;> omega

theorem sp_l22Day (a : Int) : spec_l22Day.f a = some (decide (0 ≤ a ∧ a ≤ 999)) := by simp only [spec_l22Day.f, sp_l1In, Option.bind_some]
theorem sp_l22One (a : Int) (b : ByteArray) (c d e f : Int) (hb : b.size ≤ 1152921504606846976) : Evn (fun k => spec_l22One.f k a b c d e f) (goodP a b c d e f) := by
  unfold spec_l22One.f goodP
  simp only [sp_l22Day, sp_l1In, Option.bind_some, ite_if]
  by_cases h : 1 ≤ a ∧ a ≤ 99
  · simp only [decide_eq_true h, if_true, Bool.true_and]
    refine Evn.bind (sp_l2Word b hb) ?_
    exact Evn.done _
  · simp only [decide_eq_false h, Bool.false_and, Bool.false_eq_true, if_false]
    exact Evn.done _

/-! A list of permits' rules. -/
def okP (x : S26) : Bool := goodP x.f0 x.f1 x.f2 x.f3 x.f4 x.f5
def holdsP (s : Int) : Bool := s == 1 || s == 3
def confP (a b : S26) : Bool := (holdsP a.f5 && holdsP b.f5) && (decide (a.f1.toList = b.f1.toList) && (decide (a.f2 ≤ b.f3) && decide (b.f2 ≤ a.f3)))
theorem confP_comm (a b : S26) : confP a b = confP b a := by
  unfold confP
  rw [Bool.and_comm (holdsP a.f5), show decide (a.f1.toList = b.f1.toList) = decide (b.f1.toList = a.f1.toList) from decide_eq_decide.2 eq_comm, Bool.and_comm (decide (a.f2 ≤ b.f3))]
def goodPl (xs : List S26) : Nat → Nat → Bool
  | 0, _ => decide ((xs.length : Int) ≤ 10)
  | d + 1, i => okP (xs.getD i z26) && ((decide (i = 0) || decide ((xs.getD (i - 1) z26).f0 < (xs.getD i z26).f0)) && (!((xs.take i).any fun y => confP y (xs.getD i z26)) && goodPl xs d (i + 1)))
def goodPs (xs : List S26) : Bool := goodPl xs xs.length 0
theorem getD_all {α : Type} (p : α → Prop) (xs : List α) (i : Nat) (z : α) (h : i < xs.length) (hp : ∀ x ∈ xs, p x) : p (xs.getD i z) := by
  rw [List.getD_eq_getElem?_getD, List.getElem?_eq_getElem h]
  exact hp _ (List.getElem_mem h)

theorem sp_l22Holds (a : Int) (b : ByteArray) (c d e f : Int) : spec_l22Holds.f a b c d e f = some (holdsP f) := by
  unfold spec_l22Holds.f holdsP
  by_cases h : f = 1 <;> simp [h]
theorem sp_l22Conflict (a b : S26) : spec_l22Conflict.f a.f0 a.f1 a.f2 a.f3 a.f4 a.f5 b.f0 b.f1 b.f2 b.f3 b.f4 b.f5 = some (confP a b) := by
  unfold spec_l22Conflict.f confP
  simp only [sp_l22Holds, Option.bind_some]
  by_cases h1 : a.f1.toList = b.f1.toList <;> by_cases h2 : a.f2 ≤ b.f3 <;> by_cases h3 : b.f2 ≤ a.f3 <;> cases holdsP a.f5 <;> cases holdsP b.f5 <;> simp [h1, h2, h3]
theorem sp_l22Good_l1 (xs : List S26) (hx : xs.length ≤ 4194304) (i : Nat) (hi : i < xs.length) (R : Bool) (hR : Evn (fun k => spec_l22Good.l0 k xs ((i + 1 : Nat) : Int)) R) : ∀ (d m : Nat), m + d = i → Evn (fun k => spec_l22Good.l1 k xs (i : Int) (m : Int)) (!(((xs.take i).drop m).any fun y => confP y (xs.getD i z26)) && R) := by
  intro d
  induction d with
  | zero =>
    intro m h
    refine Evn.step ?_
    have h1 : ¬ (m : Int) < (i : Int) := by omega
    simp only [spec_l22Good.l1, if_neg h1, wrap_succ (show i < 4611686018427387904 by omega)]
    rw [List.drop_eq_nil_of_le (by rw [List.length_take]; omega)]
    exact hR
  | succ d ih =>
    intro m h
    refine Evn.step ?_
    have h1 : (m : Int) < (i : Int) := by omega
    have h2 : 0 ≤ (m : Int) := by omega
    have h3 : (m : Int) < (xs.length : Int) := by omega
    have h4 : 0 ≤ (i : Int) := by omega
    have h5 : (i : Int) < (xs.length : Int) := by omega
    simp only [spec_l22Good.l1, if_pos h1, if_pos h2, if_pos h3, if_pos h4, if_pos h5, sp_l22Conflict, Option.bind_some, wrap_succ (show m < 4611686018427387904 by omega), rd_T26, Int.toNat_natCast]
    rw [getD_drop (xs.take i) m z26 (by rw [List.length_take]; omega), List.any_cons]
    have e : (xs.take i).getD m z26 = xs.getD m z26 := by
      rw [List.getD_eq_getElem?_getD, List.getD_eq_getElem?_getD, List.getElem?_take_of_lt (by omega)]
    rw [e]
    exact Evn.ite (fun c => (Evn.done _).eq_ (by rw [c]; simp)) (fun c => (ih (m + 1) (by omega)).eq_ (by rw [Bool.eq_false_iff.mpr c]; simp))
theorem sp_l22Good_l0 (xs : List S26) (hx : xs.length ≤ 4194304) (hw : ∀ x ∈ xs, x.f1.size ≤ 1152921504606846976) : ∀ (d i : Nat), i + d = xs.length → Evn (fun k => spec_l22Good.l0 k xs (i : Int)) (goodPl xs d i) := by
  intro d
  induction d with
  | zero =>
    intro i h
    refine Evn.step ?_
    have h1 : ¬ (i : Int) < (xs.length : Int) := by omega
    simp only [spec_l22Good.l0, if_neg h1, goodPl]
    exact Evn.done _
  | succ d ih =>
    intro i h
    refine Evn.step ?_
    have h1 : (i : Int) < (xs.length : Int) := by omega
    have h2 : 0 ≤ (i : Int) := by omega
    have hin := sp_l22Good_l1 xs hx i (by omega) _ (ih (i + 1) (by omega)) i 0 (by omega)
    rw [List.drop_zero] at hin
    have hb := getD_all (fun x => x.f1.size ≤ 1152921504606846976) xs i z26 (by omega) hw
    simp only [spec_l22Good.l0, if_pos h1, if_pos h2, rd_T26, Int.toNat_natCast, goodPl]
    refine Evn.bind (sp_l22One _ _ _ _ _ _ hb) ?_
    change Evn _ (okP (xs.getD i z26) && _)
    refine Evn.ite (fun c1 => ?_) (fun c1 => ?_)
    · rw [show okP (xs.getD i z26) = true from c1, Bool.true_and]
      rcases Nat.eq_zero_or_pos i with h0 | h0
      · subst h0
        have h3 : ¬ ((0 : Nat) : Int) > 0 := by omega
        simp only [if_neg h3, decide_true, Bool.true_or, Bool.true_and]
        refine Evn.step ?_
        simp only [spec_l22Good.j1, Bool.false_eq_true, if_false]
        exact hin
      · obtain ⟨j, rfl⟩ : ∃ j, i = j + 1 := ⟨i - 1, by omega⟩
        have h3 : ((j + 1 : Nat) : Int) > 0 := by omega
        have h4 : 0 ≤ (j : Int) := by omega
        have h5 : (j : Int) < (xs.length : Int) := by omega
        simp only [if_pos h3, wrap_pred (show j < 4611686018427387904 by omega), if_pos h4, if_pos h5, Int.toNat_natCast, Nat.add_sub_cancel]
        refine Evn.step ?_
        simp only [spec_l22Good.j1]
        refine Evn.ite (fun c3 => (Evn.done _).eq_ ?_) (fun c3 => hin.eq_ ?_)
        · have e1 : decide ((xs.getD j z26).f0 < (xs.getD (j + 1) z26).f0) = false := decide_eq_false (by have := of_decide_eq_true c3; omega)
          simp only [e1, show decide (j + 1 = 0) = false from by simp, Bool.or_false, Bool.false_and]
        · have e1 : decide ((xs.getD j z26).f0 < (xs.getD (j + 1) z26).f0) = true := decide_eq_true (by have : ¬ _ := fun h => c3 (decide_eq_true h); omega)
          simp only [e1, Bool.or_true, Bool.true_and]
    · rw [show okP (xs.getD i z26) = false from Bool.eq_false_iff.2 c1, Bool.false_and]
      refine Evn.step ?_
      simp only [spec_l22Good.j1, if_true]
      exact Evn.done _
theorem sp_l22Good (xs : List S26) (hx : xs.length ≤ 4194304) (hw : ∀ x ∈ xs, x.f1.size ≤ 1152921504606846976) : Evn (fun k => spec_l22Good.f k xs) (goodPs xs) := sp_l22Good_l0 xs hx hw xs.length 0 (by omega)

theorem idxQ_range (p : S26 → Bool) : ∀ (l : List S26) (i : Int), 0 ≤ i → idxP26 p l i = -1 ∨ (i ≤ idxP26 p l i ∧ idxP26 p l i < i + l.length) := by
  intro l
  induction l with
  | nil => intro i _; exact Or.inl rfl
  | cons x l ih =>
    intro i h
    rw [idxP26, List.length_cons]
    by_cases c : p x = true
    · rw [if_pos c]; right; omega
    · rw [if_neg c]
      rcases ih (i + 1) (by omega) with e | e
      · exact Or.inl e
      · right; omega

/-! The first permit for a cave on a day. -/
theorem idxQ_none (p : S26 → Bool) : ∀ (l : List S26) (i : Int), (∀ x ∈ l, p x = false) → idxP26 p l i = -1 := by
  intro l
  induction l with
  | nil => intro i _; rfl
  | cons x l ih =>
    intro i h
    rw [idxP26, if_neg (by rw [h x (List.mem_cons_self ..)]; decide)]
    exact ih (i + 1) fun y hy => h y (List.mem_cons_of_mem _ hy)
theorem goodPl_all (xs : List S26) : ∀ (d i : Nat), i + d = xs.length → goodPl xs d i = true → ∀ j, i ≤ j → j < xs.length → okP (xs.getD j z26) = true := by
  intro d
  induction d with
  | zero => intro i h _ j h1 h2; omega
  | succ d ih =>
    intro i h hg j h1 h2
    rw [goodPl, Bool.and_eq_true, Bool.and_eq_true, Bool.and_eq_true] at hg
    obtain ⟨g1, g2, g3, g4⟩ := hg
    rcases Nat.eq_or_lt_of_le h1 with e | e
    · subst e; exact g1
    · exact ih (i + 1) (by omega) g4 j (by omega) h2
theorem goodPs_all (xs : List S26) (h : goodPs xs = true) : ∀ x ∈ xs, okP x = true := by
  intro x hx
  obtain ⟨n, hn, he⟩ := List.mem_iff_getElem.1 hx
  have := goodPl_all xs xs.length 0 (by omega) h n (by omega) hn
  rwa [List.getD_eq_getElem?_getD, List.getElem?_eq_getElem hn, Option.getD_some, he] at this
theorem wordB_of_okP {x : S26} (h : okP x = true) : wordB x.f1 = true := by
  unfold okP goodP at h
  rw [Bool.and_eq_true, Bool.and_eq_true] at h
  exact h.2.1
theorem wordB_same {a b : ByteArray} (h : a.toList = b.toList) : wordB a = wordB b := by
  rw [Lib.toList_data, Lib.toList_data] at h
  have hs : a.size = b.size := by
    have := congrArg List.length h
    simpa using this
  unfold wordB
  rw [h, hs]
theorem noWord_none (xs : List S26) (q : ByteArray) (n : Int) (h : goodPs xs = true) (hw : ¬ wordB q = true) : idxP26 (onDay q n) xs 0 = -1 := by
  refine idxQ_none _ _ _ fun x hx => ?_
  have h1 := wordB_of_okP (goodPs_all xs h x hx)
  cases hc : onDay q n x with
  | false => rfl
  | true =>
    unfold onDay at hc
    rw [Bool.and_eq_true, Bool.and_eq_true] at hc
    have := wordB_same (of_decide_eq_true hc.2.1)
    rw [this] at h1
    exact absurd h1 hw

theorem sp_l22On_l0 (xs : List S26) (hx : xs.length ≤ 4194304) (q : ByteArray) (n : Int) : ∀ (d i : Nat), i + d = xs.length → Evn (fun k => spec_l22On.l0 k xs q n (i : Int)) (idxP26 (onDay q n) (xs.drop i) i) := by
  intro d
  induction d with
  | zero =>
    intro i h
    refine Evn.step ?_
    have h1 : ¬ (i : Int) < (xs.length : Int) := by omega
    simp only [spec_l22On.l0, if_neg h1]
    rw [List.drop_eq_nil_of_le (by omega)]
    exact Evn.done _
  | succ d ih =>
    intro i h
    refine Evn.step ?_
    have h1 : (i : Int) < (xs.length : Int) := by omega
    have h2 : 0 ≤ (i : Int) := by omega
    have hih := ih (i + 1) (by omega)
    simp only [spec_l22On.l0, if_pos h1, if_pos h2, sp_l22Holds, sp_l1In, Option.bind_some, wrap_succ (show i < 4611686018427387904 by omega), rd_T26, Int.toNat_natCast]
    rw [getD_drop xs i z26 (by omega), idxP26]
    generalize xs.getD i z26 = x
    have e : onDay q n x = (holdsP x.f5 && (decide (x.f1.toList = q.toList) && decide (x.f2 ≤ n ∧ n ≤ x.f3))) := rfl
    rw [e]
    have hih' : Evn (fun k => spec_l22On.l0 k xs q n ((i + 1 : Nat) : Int)) (idxP26 (onDay q n) (xs.drop (i + 1)) ((i : Int) + 1)) := hih
    refine Evn.ite (fun c1 => ?_) (fun c1 => hih'.eq_ (by rw [Bool.eq_false_iff.mpr c1]; rfl))
    rw [c1, Bool.true_and]
    refine Evn.ite (fun c2 => ?_) (fun c2 => hih'.eq_ (by rw [decide_eq_false c2]; rfl))
    rw [decide_eq_true c2, Bool.true_and]
    exact Evn.ite (fun c3 => (Evn.done _).eq_ (by rw [c3]; rfl)) (fun c3 => hih'.eq_ (by rw [Bool.eq_false_iff.mpr c3]; rfl))
theorem sp_l22On (xs : List S26) (hx : xs.length ≤ 4194304) (q : ByteArray) (n : Int) : Evn (fun k => spec_l22On.f k xs q n) (idxP26 (onDay q n) xs 0) := sp_l22On_l0 xs hx q n xs.length 0 (by omega)

/-! Spans of free days, the last one first. -/
def freeD (xs : List S26) (q : ByteArray) (x : Int) : Bool := decide (idxP26 (onDay q x) xs 0 < 0)
def toL (p : Int × Int) : List Int := [p.1, p.2]
def stepR (x : Int) : List (Int × Int) → List (Int × Int)
  | p :: t => if p.2 = x - 1 then (p.1, x) :: t else (x, x) :: p :: t
  | [] => [(x, x)]
def spR (fr : Int → Bool) : Nat → Int → List (Int × Int) → List (Int × Int)
  | 0, _, rs => rs
  | d + 1, x, rs => spR fr d (x + 1) (if fr x = true then stepR x rs else rs)
def outR (rs : List (Int × Int)) : List (List Int) := (rs.map toL).reverse
theorem outR_cons (p : Int × Int) (t : List (Int × Int)) : outR (p :: t) = outR t ++ [toL p] := by unfold outR; rw [List.map_cons, List.reverse_cons]
theorem outR_len (rs : List (Int × Int)) : (outR rs).length = rs.length := by unfold outR; rw [List.length_reverse, List.length_map]
theorem outR_last (p : Int × Int) (t : List (Int × Int)) : rd_L5 (outR (p :: t)) (t.length : Int) = toL p := by
  rw [outR_cons]
  unfold rd_L5
  rw [Int.toNat_natCast, List.getD_eq_getElem?_getD, List.getElem?_append_right (by rw [outR_len]; omega), outR_len, Nat.sub_self]
  rfl
theorem outR_set (p : Int × Int) (t : List (Int × Int)) (l : List Int) : (outR (p :: t)).set t.length l = outR t ++ [l] := by
  rw [outR_cons, List.set_append_right _ _ (by rw [outR_len]; omega), outR_len, Nat.sub_self]
  rfl
def bdP (p : Int × Int) : Prop := 0 ≤ p.1 ∧ p.1 ≤ p.2 ∧ p.2 ≤ 999
theorem stepR_bd (x : Int) (h0 : 0 ≤ x) (h1 : x ≤ 999) (rs : List (Int × Int)) (h : ∀ p ∈ rs, bdP p) : ∀ p ∈ stepR x rs, bdP p := by
  cases rs with
  | nil => intro p hp; rw [List.mem_singleton.1 hp]; exact ⟨h0, Int.le_refl _, h1⟩
  | cons p0 t =>
    intro p hp
    rw [stepR] at hp
    split at hp
    · rename_i c
      rcases List.mem_cons.1 hp with rfl | hp
      · have := h p0 (List.mem_cons_self ..); exact ⟨this.1, by have := this.2.1; show p0.1 ≤ x; omega, h1⟩
      · exact h p (List.mem_cons_of_mem _ hp)
    · rcases List.mem_cons.1 hp with rfl | hp
      · exact ⟨h0, Int.le_refl _, h1⟩
      · exact h p hp
theorem spR_bd (fr : Int → Bool) : ∀ (d : Nat) (x : Int) (rs : List (Int × Int)), 0 ≤ x → x + d ≤ 1000 → (∀ p ∈ rs, bdP p) → ∀ p ∈ spR fr d x rs, bdP p := by
  intro d
  induction d with
  | zero => intro x rs _ _ h; exact h
  | succ d ih =>
    intro x rs h0 h1 h
    refine ih (x + 1) _ (by omega) (by omega) ?_
    split
    · exact stepR_bd x h0 (by omega) rs h
    · exact h
theorem stepR_len (x : Int) (rs : List (Int × Int)) : (stepR x rs).length ≤ rs.length + 1 := by
  cases rs with
  | nil => simp [stepR]
  | cons p t =>
    rw [stepR]
    split <;> simp
theorem spR_len (fr : Int → Bool) : ∀ (d : Nat) (x : Int) (rs : List (Int × Int)), (spR fr d x rs).length ≤ rs.length + d := by
  intro d
  induction d with
  | zero => intro x rs; exact Nat.le_refl _
  | succ d ih =>
    intro x rs
    rw [spR]
    have h1 := ih (x + 1) (if fr x = true then stepR x rs else rs)
    have h2 : (if fr x = true then stepR x rs else rs).length ≤ rs.length + 1 := by
      split
      · exact stepR_len x rs
      · omega
    omega

def freeM (xs : List S26) (q : ByteArray) (a tt : Int) : List (List Int) × Bool := if goodPs xs = true ∧ wordB q = true ∧ (0 ≤ a ∧ a ≤ 999) ∧ (a ≤ tt ∧ tt ≤ 999) then (outR (spR (freeD xs q) (tt + 1 - a).toNat a []), true) else ([], false)

theorem sp_FreeDays_l0 (xs : List S26) (hx : xs.length ≤ 4194304) (q : ByteArray) (tt : Int) (hto : tt ≤ 999) : ∀ (d : Nat) (x : Int) (rs : List (Int × Int)), x + d = tt + 1 → 0 ≤ x → rs.length + d ≤ 1048576 → Evn (fun k => spec_FreeDays.l0 k xs q tt (outR rs) x) (outR (spR (freeD xs q) d x rs), true) := by
  intro d
  induction d with
  | zero =>
    intro x rs h h0 hl
    refine Evn.step ?_
    have h1 : ¬ x ≤ tt := by omega
    simp only [spec_FreeDays.l0, if_neg h1]
    exact Evn.done _
  | succ d ih =>
    intro x rs h h0 hl
    refine Evn.step ?_
    have h1 : x ≤ tt := by omega
    have hw1 : wrap64 (x + 1) = x + 1 := wrap_id (by omega) (by omega)
    have hw2 : wrap64 (x - 1) = x - 1 := wrap_id (by omega) (by omega)
    simp only [spec_FreeDays.l0, if_pos h1, hw1, hw2]
    rw [spR]
    refine Evn.bind (sp_l22On xs hx q x) ?_
    have e : freeD xs q x = decide (idxP26 (onDay q x) xs 0 < 0) := rfl
    rw [e]
    refine Evn.ite (fun c => ?_) (fun c => ?_)
    · rw [if_neg (fun h => absurd (of_decide_eq_true h) (by omega))]
      exact ih (x + 1) rs (by omega) (by omega) (by omega)
    rw [if_pos (decide_eq_true (by omega))]
    have push : Evn (fun k => if (outR rs).length < 5864062014805 then spec_FreeDays.l0 k xs q tt (outR rs ++ [[x, x]]) (x + 1) else none) (outR (spR (freeD xs q) d (x + 1) ((x, x) :: rs)), true) := by
      refine Evn.ite (fun _ => ?_) (fun hn => absurd (by rw [outR_len]; omega) hn)
      have := ih (x + 1) ((x, x) :: rs) (by omega) (by omega) (by rw [List.length_cons]; omega)
      rw [outR_cons] at this
      exact this
    cases rs with
    | nil =>
      have hz : ¬ (((outR []).length : Int)) > 0 := by show ¬ (0 : Int) > 0; decide
      simp only [if_neg hz]
      exact push
    | cons p t =>
      have hlen : ((outR (p :: t)).length : Int) = (t.length : Int) + 1 := by rw [outR_len, List.length_cons]; rfl
      have ht : t.length + 1 + (d + 1) ≤ 1048576 := by rw [List.length_cons] at hl; omega
      have hw : wrap64 (((outR (p :: t)).length : Int) - 1) = (t.length : Int) := by rw [hlen, wrap_id (by omega) (by omega)]; omega
      have hr1 : rd (toL p) 1 = p.2 := rfl
      have hr0 : rd (toL p) 0 = p.1 := rfl
      have hl1 : 1 < ((toL p).length : Int) := by show (1 : Int) < 2; omega
      have hl0 : 0 < ((toL p).length : Int) := by show (0 : Int) < 2; omega
      simp only [if_pos (show ((outR (p :: t)).length : Int) > 0 by omega), hw, if_pos (show (0 : Int) ≤ (t.length : Int) by omega), if_pos (show (t.length : Int) < ((outR (p :: t)).length : Int) by omega), outR_last, if_pos hl1, if_pos hl0, hr1, hr0, Int.toNat_natCast, outR_set]
      rw [stepR]
      refine Evn.ite (fun c2 => ?_) (fun c2 => by rw [if_neg c2]; exact push)
      rw [if_pos c2]
      have := ih (x + 1) ((p.1, x) :: t) (by omega) (by omega) (by rw [List.length_cons]; omega)
      rw [outR_cons] at this
      exact this
theorem sp_FreeDays (xs : List S26) (hx : xs.length ≤ 4194304) (hw : ∀ x ∈ xs, x.f1.size ≤ 1152921504606846976) (q : ByteArray) (hq : q.size ≤ 1152921504606846976) (a tt : Int) : Evn (fun k => spec_FreeDays.f k xs q a tt) (freeM xs q a tt) := by
  unfold spec_FreeDays.f freeM
  have no : Evn (fun k => spec_FreeDays.j0 k xs q a tt [] true) ([], false) := by
    refine Evn.step ?_
    simp only [spec_FreeDays.j0, if_true]
    exact Evn.done _
  simp only [Option.bind_some]
  refine Evn.bind (sp_l22Good xs hx hw) ?_
  refine Evn.ite (fun c1 => ?_) (fun c1 => no.eq_ (by rw [if_neg (fun h => c1 h.1)]))
  refine Evn.bind (sp_l2Word q hq) ?_
  refine Evn.ite (fun c2 => ?_) (fun c2 => no.eq_ (by rw [if_neg (fun h => c2 h.2.1)]))
  simp only [sp_l22Day, sp_l1In, Option.bind_some]
  refine Evn.ite (fun c3 => ?_) (fun c3 => no.eq_ (by rw [if_neg (fun h => c3 (decide_eq_true h.2.2.1))]))
  have g3 := of_decide_eq_true c3
  by_cases c4 : a ≤ tt ∧ tt ≤ 999
  · rw [decide_eq_true c4, if_pos ⟨c1, c2, g3, c4⟩]
    refine Evn.step ?_
    simp only [spec_FreeDays.j0, Bool.not_true, Bool.false_eq_true, if_false]
    exact sp_FreeDays_l0 xs hx q tt c4.2 (tt + 1 - a).toNat a [] (by omega) g3.1 (by simp only [List.length_nil]; omega)
  · rw [decide_eq_false c4, if_neg (fun h => c4 h.2.2.2)]
    exact no

theorem im_within (x y z : Int) : impl_within.f x y z = some (decide (y ≤ x ∧ x ≤ z)) := by
  unfold impl_within.f
  by_cases h : x ≥ y <;> simp [h] <;> omega

theorem im_isWord (b : ByteArray) : impl_isWord.f b = some (wordB b) := rfl
theorem im_isId (a : Int) : impl_isId.f a = some (decide (1 ≤ a ∧ a ≤ 99)) := by simp only [impl_isId.f, im_within, Option.bind_some]
theorem im_isDay (a : Int) : impl_isDay.f a = some (decide (0 ≤ a ∧ a ≤ 999)) := by simp only [impl_isDay.f, im_within, Option.bind_some]
theorem im_IsPermit (a : Int) (b : ByteArray) (c d e f : Int) : impl_IsPermit.f a b c d e f = some (goodP a b c d e f) := by
  unfold impl_IsPermit.f goodP
  simp only [im_isId, im_isDay, im_isWord, im_within, Option.bind_some, ite_if]

theorem im_counts (a : Int) (b : ByteArray) (c d e f : Int) : impl_Permit_counts.f a b c d e f = some (holdsP f) := by
  unfold impl_Permit_counts.f holdsP
  by_cases h : f = 1 <;> simp [h]
theorem im_conflict (a b : S26) : impl_conflict.f a.f0 a.f1 a.f2 a.f3 a.f4 a.f5 b.f0 b.f1 b.f2 b.f3 b.f4 b.f5 = some (confP a b) := by
  unfold impl_conflict.f confP
  simp only [im_counts, Option.bind_some]
  by_cases h1 : a.f1.toList = b.f1.toList <;> by_cases h2 : a.f2 ≤ b.f3 <;> by_cases h3 : b.f2 ≤ a.f3 <;> cases holdsP a.f5 <;> cases holdsP b.f5 <;> simp [h1, h2, h3]
theorem im_xConflicts (ys : List S26) (a : S26) : impl_xConflicts.f ys a.f0 a.f1 a.f2 a.f3 a.f4 a.f5 = some (ys.any fun y => confP y a) := by
  unfold impl_xConflicts.f
  congr 2
  funext x
  rw [im_conflict, confP_comm a x]
  cases confP x a <;> rfl
theorem im_ArePermits_l0 (xs : List S26) (hx : xs.length ≤ 4194304) : ∀ (d i : Nat), i + d = xs.length → Evn (fun k => impl_ArePermits.l0 k xs xs (xs.length : Int) (i : Int)) (goodPl xs d i) := by
  intro d
  induction d with
  | zero =>
    intro i h
    refine Evn.step ?_
    have h1 : ¬ (i : Int) < (xs.length : Int) := by omega
    simp only [impl_ArePermits.l0, if_neg h1, goodPl]
    exact Evn.done _
  | succ d ih =>
    intro i h
    refine Evn.step ?_
    have h1 : (i : Int) < (xs.length : Int) := by omega
    have h2 : 0 ≤ (i : Int) := by omega
    have h6 : (i : Int) ≤ (xs.length : Int) := by omega
    have hih := ih (i + 1) (by omega)
    simp only [impl_ArePermits.l0, if_pos h1, if_pos h2, if_pos h6, im_IsPermit, im_xConflicts, Option.bind_some, wrap_succ (show i < 4611686018427387904 by omega), rd_T26, Int.toNat_natCast, goodPl]
    change Evn _ (okP (xs.getD i z26) && _)
    have fin : Evn (fun k => if ((xs.take i).any fun y => confP y (xs.getD i z26)) = true then some false else impl_ArePermits.l0 k xs xs (xs.length : Int) ((i + 1 : Nat) : Int)) (!((xs.take i).any fun y => confP y (xs.getD i z26)) && goodPl xs d (i + 1)) :=
      Evn.ite (fun c => (Evn.done _).eq_ (by rw [c]; rfl)) (fun c => hih.eq_ (by rw [Bool.eq_false_iff.mpr c]; rfl))
    refine Evn.ite (fun c1 => ?_) (fun c1 => ?_)
    · rw [show okP (xs.getD i z26) = true from c1, Bool.true_and]
      rcases Nat.eq_zero_or_pos i with h0 | h0
      · subst h0
        have h3 : ¬ ((0 : Nat) : Int) > 0 := by omega
        simp only [if_neg h3, decide_true, Bool.true_or, Bool.true_and]
        exact fin
      · obtain ⟨j, rfl⟩ : ∃ j, i = j + 1 := ⟨i - 1, by omega⟩
        have h3 : ((j + 1 : Nat) : Int) > 0 := by omega
        have h4 : 0 ≤ (j : Int) := by omega
        have h5 : (j : Int) < (xs.length : Int) := by omega
        simp only [if_pos h3, wrap_pred (show j < 4611686018427387904 by omega), if_pos h4, if_pos h5, Int.toNat_natCast, Nat.add_sub_cancel]
        refine Evn.ite (fun c3 => (Evn.done _).eq_ ?_) (fun c3 => fin.eq_ ?_)
        · have e1 : decide ((xs.getD j z26).f0 < (xs.getD (j + 1) z26).f0) = false := decide_eq_false (by omega)
          simp only [e1, show decide (j + 1 = 0) = false from by simp, Bool.or_false, Bool.false_and]
        · have e1 : decide ((xs.getD j z26).f0 < (xs.getD (j + 1) z26).f0) = true := decide_eq_true (by omega)
          simp only [e1, Bool.or_true, Bool.true_and]
    · rw [show okP (xs.getD i z26) = false from Bool.eq_false_iff.2 c1, Bool.false_and]
      exact Evn.done _
theorem im_ArePermits (xs : List S26) (hx : xs.length ≤ 4194304) : Evn (fun k => impl_ArePermits.f k xs) (goodPs xs) := im_ArePermits_l0 xs hx xs.length 0 (by omega)

theorem im_spans_l0 (xs : List S26) (q : ByteArray) (tt : Int) (hto : tt ≤ 999) : ∀ (d : Nat) (x : Int) (rs : List (Int × Int)), x + d = tt + 1 → 0 ≤ x → rs.length + d ≤ 1048576 → Evn (fun k => impl_spans.l0 k tt xs q (outR rs) x) (outR (spR (freeD xs q) d x rs)) := by
  intro d
  induction d with
  | zero =>
    intro x rs h h0 hl
    refine Evn.step ?_
    have h1 : ¬ x ≤ tt := by omega
    simp only [impl_spans.l0, if_neg h1]
    exact Evn.done _
  | succ d ih =>
    intro x rs h h0 hl
    refine Evn.step ?_
    have h1 : x ≤ tt := by omega
    have hw1 : wrap64 (x + 1) = x + 1 := wrap_id (by omega) (by omega)
    have hw2 : wrap64 (x - 1) = x - 1 := wrap_id (by omega) (by omega)
    have e : impl_xFree.f xs q x = some (freeD xs q x) := rfl
    simp only [impl_spans.l0, if_pos h1, e, Option.bind_some, hw1, hw2]
    rw [spR]
    refine Evn.ite (fun c => ?_) (fun c => by rw [if_neg c]; exact ih (x + 1) rs (by omega) (by omega) (by omega))
    rw [if_pos c]
    have push : Evn (fun k => if (outR rs).length < 5864062014805 then impl_spans.l0 k tt xs q (outR rs ++ [[x, x]]) (x + 1) else none) (outR (spR (freeD xs q) d (x + 1) ((x, x) :: rs))) := by
      refine Evn.ite (fun _ => ?_) (fun hn => absurd (by rw [outR_len]; omega) hn)
      have := ih (x + 1) ((x, x) :: rs) (by omega) (by omega) (by rw [List.length_cons]; omega)
      rw [outR_cons] at this
      exact this
    cases rs with
    | nil =>
      have hw : wrap64 (((outR []).length : Int) - 1) = -1 := (wrap_id (x := (0 : Int) - 1) (by omega) (by omega)).trans (by omega)
      simp only [hw, if_neg (show ¬ (-1 : Int) ≥ 0 by omega)]
      exact push
    | cons p t =>
      have hlen : ((outR (p :: t)).length : Int) = (t.length : Int) + 1 := by rw [outR_len, List.length_cons]; rfl
      have ht : t.length + 1 + (d + 1) ≤ 1048576 := by rw [List.length_cons] at hl; omega
      have hw : wrap64 (((outR (p :: t)).length : Int) - 1) = (t.length : Int) := by rw [hlen, wrap_id (by omega) (by omega)]; omega
      have hr1 : rd (toL p) 1 = p.2 := rfl
      have hl1 : 1 < ((toL p).length : Int) := by show (1 : Int) < 2; omega
      have hs : (toL p).set (1 : Int).toNat x = toL (p.1, x) := rfl
      simp only [hw, if_pos (show (t.length : Int) ≥ 0 by omega), if_pos (show (0 : Int) ≤ (t.length : Int) by omega), if_pos (show (t.length : Int) < ((outR (p :: t)).length : Int) by omega), outR_last, if_pos hl1, hr1, hs, Int.toNat_natCast, outR_set]
      rw [stepR]
      refine Evn.ite (fun c2 => ?_) (fun c2 => by rw [if_neg c2]; exact push)
      rw [if_pos c2]
      have := ih (x + 1) ((p.1, x) :: t) (by omega) (by omega) (by rw [List.length_cons]; omega)
      rw [outR_cons] at this
      exact this
theorem im_spans (xs : List S26) (q : ByteArray) (a tt : Int) (h0 : 0 ≤ a) (h1 : a ≤ tt) (hto : tt ≤ 999) : Evn (fun k => impl_spans.f k a tt xs q) (outR (spR (freeD xs q) (tt + 1 - a).toNat a [])) := im_spans_l0 xs q tt hto (tt + 1 - a).toNat a [] (by omega) h0 (by simp; omega)
theorem im_FreeDays (xs : List S26) (hx : xs.length ≤ 4194304) (q : ByteArray) (a tt : Int) : Evn (fun k => impl_FreeDays.f k xs q a tt) (freeM xs q a tt) := by
  unfold impl_FreeDays.f freeM
  refine Evn.bind (im_ArePermits xs hx) ?_
  refine Evn.ite (fun c1 => ?_) (fun c1 => (Evn.done _).eq_ (by rw [if_neg (fun h => c1 h.1)]))
  simp only [im_isWord, im_isDay, im_within, Option.bind_some]
  refine Evn.ite (fun c2 => ?_) (fun c2 => (Evn.done _).eq_ (by rw [if_neg (fun h => c2 h.2.1)]))
  refine Evn.ite (fun c3 => ?_) (fun c3 => (Evn.done _).eq_ (by rw [if_neg (fun h => c3 (decide_eq_true h.2.2.1))]))
  refine Evn.ite (fun c4 => ?_) (fun c4 => (Evn.done _).eq_ (by rw [if_neg (fun h => c4 (decide_eq_true h.2.2.2))]))
  have g3 := of_decide_eq_true c3
  have g4 := of_decide_eq_true c4
  rw [if_pos ⟨c1, c2, g3, g4⟩]
  exact Evn.bind (im_spans xs q a tt g3.1 g4.1 g4.2) (Evn.done _)

theorem ev_eqIntS_l0 (xs : List Int) (hx : xs.length ≤ 4194304) : ∀ (d i : Nat), i + d = xs.length → Evn (fun k => laws_eqIntS.l0 k xs xs (i : Int)) true := by
  intro d
  induction d with
  | zero =>
    intro i h
    refine Evn.step ?_
    have h1 : ¬ (i : Int) < (xs.length : Int) := by omega
    simp only [laws_eqIntS.l0, if_neg h1]
    exact Evn.done _
  | succ d ih =>
    intro i h
    refine Evn.step ?_
    have h1 : (i : Int) < (xs.length : Int) := by omega
    have h2 : 0 ≤ (i : Int) := by omega
    simp only [laws_eqIntS.l0, if_pos h1, if_pos h2, if_true, wrap_succ (show i < 4611686018427387904 by omega)]
    exact ih (i + 1) (by omega)
theorem ev_eqIntS (xs : List Int) (hx : xs.length ≤ 4194304) : Evn (fun k => laws_eqIntS.f k xs xs) true := by
  simp only [laws_eqIntS.f, if_true]
  exact ev_eqIntS_l0 xs hx xs.length 0 (by omega)

/-! Rows of two numbers each. -/
def rows2 (xs : List (List Int)) : Prop := xs.length ≤ 1048576 ∧ ∀ r ∈ xs, r.length = 2
theorem rows2_at {xs : List (List Int)} (h : rows2 xs) (i : Nat) (hi : i < xs.length) : (xs.getD i []).length = 2 := by
  rw [List.getD_eq_getElem?_getD, List.getElem?_eq_getElem hi, Option.getD_some]
  exact h.2 _ (List.getElem_mem _)
theorem rdi_at (xs : List (List Int)) (i : Nat) : rd_L5 xs (i : Int) = xs.getD i [] := by unfold rd_L5; rw [Int.toNat_natCast]
theorem ev_eqIntSS_l0 (xs : List (List Int)) (hx : rows2 xs) : ∀ (d i : Nat), i + d = xs.length → Evn (fun k => laws_eqIntSS.l0 k xs xs (i : Int)) true := by
  have hn := hx.1
  intro d
  induction d with
  | zero =>
    intro i h
    refine Evn.step ?_
    have h1 : ¬ (i : Int) < (xs.length : Int) := by omega
    simp only [laws_eqIntSS.l0, if_neg h1]
    exact Evn.done _
  | succ d ih =>
    intro i h
    refine Evn.step ?_
    have h1 : (i : Int) < (xs.length : Int) := by omega
    have h2 : 0 ≤ (i : Int) := by omega
    have h3 := rows2_at hx i (by omega)
    simp only [laws_eqIntSS.l0, if_pos h1, if_pos h2, rdi_at, wrap_succ (show i < 4611686018427387904 by omega)]
    refine Evn.bind (ev_eqIntS (xs.getD i []) (by omega)) ?_
    simp only [if_true]
    exact ih (i + 1) (by omega)
theorem ev_eqIntSS (xs : List (List Int)) (hx : rows2 xs) : Evn (fun k => laws_eqIntSS.f k xs xs) true := by
  simp only [laws_eqIntSS.f, if_true]
  exact ev_eqIntSS_l0 xs hx xs.length 0 (by omega)

/-! The marks: a, a + 1, .. -/
def marksI (a : Int) : Nat → List Int
  | 0 => []
  | n + 1 => marksI a n ++ [a + n]
theorem marksI_len (a : Int) (n : Nat) : (marksI a n).length = n := by
  induction n with
  | zero => rfl
  | succ n ih => simp [marksI, ih]
theorem marksI_get (a : Int) (n : Nat) : ∀ i, i < n → (marksI a n).getD i 0 = a + i := by
  induction n with
  | zero => intro i h; omega
  | succ n ih =>
    intro i h
    rw [marksI, List.getD_eq_getElem?_getD]
    rcases Nat.lt_or_ge i n with hi | hi
    · rw [List.getElem?_append_left (by rw [marksI_len]; exact hi), ← List.getD_eq_getElem?_getD]
      exact ih i hi
    · obtain rfl : i = n := by omega
      rw [List.getElem?_append_right (by rw [marksI_len]; omega), marksI_len]
      simp
theorem ev_markIntS_l0 (a : Int) (ha : 0 ≤ a) (ha2 : a ≤ 1099511627776) (n : Nat) (hn : n ≤ 4194304) : ∀ (d i : Nat) (ys : List Int), i + d = n → ys.length = n → ys.take i = marksI a i → Evn (fun k => laws_markIntS.l0 k ys (a + i) (i : Int)) (a + n, marksI a n) := by
  intro d
  induction d with
  | zero =>
    intro i ys h hy ht
    refine Evn.step ?_
    have h1 : ¬ (i : Int) < (ys.length : Int) := by omega
    simp only [laws_markIntS.l0, if_neg h1]
    obtain rfl : i = n := by omega
    rw [List.take_of_length_le (by omega)] at ht
    rw [ht]
    exact Evn.done _
  | succ d ih =>
    intro i ys h hy ht
    refine Evn.step ?_
    have h1 : (i : Int) < (ys.length : Int) := by omega
    have h2 : 0 ≤ (i : Int) := by omega
    have e : wrap64 (a + i + 1) = a + ((i + 1 : Nat) : Int) := by rw [wrap_id (by omega) (by omega)]; omega
    simp only [laws_markIntS.l0, if_pos h1, if_pos h2, Int.toNat_natCast, e, wrap_succ (show i < 4611686018427387904 by omega)]
    exact ih (i + 1) _ (by omega) (by simpa using hy) (by rw [set_take _ _ _ (by omega), ht, marksI])
theorem ev_markIntS (ys : List Int) (a : Int) (ha : 0 ≤ a) (ha2 : a ≤ 1099511627776) (hn : ys.length ≤ 4194304) : Evn (fun k => laws_markIntS.f k ys a) (a + ys.length, marksI a ys.length) := by
  have h := ev_markIntS_l0 a ha ha2 ys.length hn ys.length 0 ys (by omega) rfl rfl
  simpa [laws_markIntS.f] using h

/-! The marks of rows of two. -/
def mksR (a : Int) : Nat → List (List Int)
  | 0 => []
  | n + 1 => mksR a n ++ [marksI (a + 2 * (n : Int)) 2]
theorem mksR_len (a : Int) (n : Nat) : (mksR a n).length = n := by
  induction n with
  | zero => rfl
  | succ n ih => simp [mksR, ih]
theorem mksR_get (a : Int) (n : Nat) : ∀ i, i < n → (mksR a n).getD i [] = marksI (a + 2 * (i : Int)) 2 := by
  induction n with
  | zero => intro i h; omega
  | succ n ih =>
    intro i h
    rw [mksR, List.getD_eq_getElem?_getD]
    rcases Nat.lt_or_ge i n with hi | hi
    · rw [List.getElem?_append_left (by rw [mksR_len]; exact hi), ← List.getD_eq_getElem?_getD]
      exact ih i hi
    · obtain rfl : i = n := by omega
      rw [List.getElem?_append_right (by rw [mksR_len]; omega), mksR_len]
      simp
theorem ev_markIntSS_l0 (a : Int) (ha : 0 ≤ a) (ha2 : a ≤ 1000) (n : Nat) (hn : n ≤ 1048576) : ∀ (d i : Nat) (ys : List (List Int)), i + d = n → ys.length = n → ys.take i = mksR a i → rows2 ys → Evn (fun k => laws_markIntSS.l0 k ys (a + 2 * (i : Int)) (i : Int)) (a + 2 * (n : Int), mksR a n) := by
  intro d
  induction d with
  | zero =>
    intro i ys h hy ht _
    refine Evn.step ?_
    have h1 : ¬ (i : Int) < (ys.length : Int) := by omega
    simp only [laws_markIntSS.l0, if_neg h1]
    obtain rfl : i = n := by omega
    rw [List.take_of_length_le (by omega)] at ht
    rw [ht]
    exact Evn.done _
  | succ d ih =>
    intro i ys h hy ht hr
    refine Evn.step ?_
    have h1 : (i : Int) < (ys.length : Int) := by omega
    have h2 : 0 ≤ (i : Int) := by omega
    have h3 := rows2_at hr i (by omega)
    have hm := ev_markIntS (ys.getD i []) (a + 2 * (i : Int)) (by omega) (by omega) (by omega)
    rw [h3] at hm
    simp only [laws_markIntSS.l0, if_pos h1, if_pos h2, Int.toNat_natCast, wrap_succ (show i < 4611686018427387904 by omega)]
    refine Evn.bind hm ?_
    have e : a + 2 * (i : Int) + ((2 : Nat) : Int) = a + 2 * ((i + 1 : Nat) : Int) := by omega
    dsimp only
    rw [e]
    refine ih (i + 1) _ (by omega) (by rw [List.length_set]; exact hy) (by rw [set_take _ _ _ (by omega), ht, mksR]) ⟨by rw [List.length_set]; omega, fun r hx => ?_⟩
    rcases List.mem_or_eq_of_mem_set hx with hx | rfl
    · exact hr.2 r hx
    · exact marksI_len _ _
theorem ev_markIntSS (ys : List (List Int)) (a : Int) (ha : 0 ≤ a) (ha2 : a ≤ 1000) (hr : rows2 ys) : Evn (fun k => laws_markIntSS.f k ys a) (a + 2 * (ys.length : Int), mksR a ys.length) := by
  have h := ev_markIntSS_l0 a ha ha2 ys.length hr.1 ys.length 0 ys (by omega) rfl rfl hr
  simpa [laws_markIntSS.f] using h

theorem ev_heldIntS_l0 (a : Int) (ha : 0 ≤ a) (ha2 : a ≤ 1099511627776) (n : Nat) (hn : n ≤ 4194304) : ∀ (d i : Nat), i + d = n → Evn (fun k => laws_heldIntS.l0 k (marksI a n) (a + i) (i : Int)) (a + n) := by
  intro d
  induction d with
  | zero =>
    intro i h
    refine Evn.step ?_
    have h1 : ¬ (i : Int) < ((marksI a n).length : Int) := by rw [marksI_len]; omega
    simp only [laws_heldIntS.l0, if_neg h1]
    obtain rfl : i = n := by omega
    exact Evn.done _
  | succ d ih =>
    intro i h
    refine Evn.step ?_
    have h1 : (i : Int) < ((marksI a n).length : Int) := by rw [marksI_len]; omega
    have h2 : 0 ≤ (i : Int) := by omega
    have h3 : rd (marksI a n) (i : Int) = a + i := by unfold rd; rw [Int.toNat_natCast]; exact marksI_get a n i (by omega)
    have e : wrap64 (a + i + 1) = a + ((i + 1 : Nat) : Int) := by rw [wrap_id (by omega) (by omega)]; omega
    simp only [laws_heldIntS.l0, if_pos h1, if_pos h2, if_pos h3, e, wrap_succ (show i < 4611686018427387904 by omega)]
    exact ih (i + 1) (by omega)
theorem ev_heldIntS (n : Nat) (a : Int) (ha : 0 ≤ a) (ha2 : a ≤ 1099511627776) (hn : n ≤ 4194304) : Evn (fun k => laws_heldIntS.f k (marksI a n) a) (a + n) := by
  have h := ev_heldIntS_l0 a ha ha2 n hn n 0 (by omega)
  simpa [laws_heldIntS.f] using h

theorem ev_heldIntSS_l0 (a : Int) (ha : 0 ≤ a) (ha2 : a ≤ 1000) (n : Nat) (hn : n ≤ 1048576) : ∀ (d i : Nat), i + d = n → Evn (fun k => laws_heldIntSS.l0 k (mksR a n) (a + 2 * (i : Int)) (i : Int)) (a + 2 * (n : Int)) := by
  intro d
  induction d with
  | zero =>
    intro i h
    refine Evn.step ?_
    have h1 : ¬ (i : Int) < ((mksR a n).length : Int) := by rw [mksR_len]; omega
    simp only [laws_heldIntSS.l0, if_neg h1]
    obtain rfl : i = n := by omega
    exact Evn.done _
  | succ d ih =>
    intro i h
    refine Evn.step ?_
    have h1 : (i : Int) < ((mksR a n).length : Int) := by rw [mksR_len]; omega
    have h2 : 0 ≤ (i : Int) := by omega
    simp only [laws_heldIntSS.l0, if_pos h1, if_pos h2, rdi_at, mksR_get a n i (by omega), wrap_succ (show i < 4611686018427387904 by omega)]
    refine Evn.bind (ev_heldIntS 2 (a + 2 * (i : Int)) (by omega) (by omega) (by omega)) ?_
    have e : a + 2 * (i : Int) + ((2 : Nat) : Int) = a + 2 * ((i + 1 : Nat) : Int) := by omega
    rw [e]
    simp only [if_neg (show ¬ a + 2 * ((i + 1 : Nat) : Int) < 0 by omega)]
    exact ih (i + 1) (by omega)
theorem ev_heldIntSS (n : Nat) (a : Int) (ha : 0 ≤ a) (ha2 : a ≤ 1000) (hn : n ≤ 1048576) : Evn (fun k => laws_heldIntSS.f k (mksR a n) a) (a + 2 * (n : Int)) := by
  have h := ev_heldIntSS_l0 a ha ha2 n hn n 0 (by omega)
  simpa [laws_heldIntSS.f] using h

theorem FnExactFreeDays : ∀ (l0 : List (S23)) (a1 : ByteArray) (a2 : Int) (a3 : Int), l0.length ≤ maxLen → (∀ x ∈ l0, (Lit.int .i64 x.f0).wf = true ∧ x.f1.size ≤ maxLen ∧ (Lit.int .i64 x.f2).wf = true ∧ (Lit.int .i64 x.f3).wf = true ∧ (Lit.int .i64 x.f4).wf = true ∧ (Lit.int .i64 x.f5).wf = true) → a1.size ≤ 140737488351232 → (Lit.int .i64 a2).wf = true → (Lit.int .i64 a3).wf = true → ∃ k, laws_FnExactFreeDays.f k l0 a1 a2 a3 = some true := by
  intro l q n m hl hw hq _ _
  apply Evn.get
  obtain ⟨r, hr, hn⟩ := ev_szPermitS l hl (fun x hx => (hw x hx).2.1)
  simp only [laws_FnExactFreeDays.f]
  refine Evn.ite (fun _ => Evn.done _) (fun _ => ?_)
  refine Evn.bind hr ?_
  refine Evn.ite (fun _ => Evn.done _) (fun h => ?_)
  obtain ⟨hx, hsz⟩ := hn h
  have hx' : (l.map convPermit).length ≤ 4194304 := by rw [List.length_map]; omega
  have hw' : ∀ x ∈ l.map convPermit, x.f1.size ≤ 1152921504606846976 := by
    intro x hx
    obtain ⟨y, hy, rfl⟩ := List.mem_map.1 hx
    have := hsz y hy
    show y.f1.size ≤ _
    omega
  have hs := sp_FreeDays _ hx' hw' q (by omega) n m
  have hi := im_FreeDays _ hx' q n m
  have hrl : rows2 (freeM (l.map convPermit) q n m).1 := by
    unfold freeM
    split
    · rename_i c
      have g2 := spR_len (freeD (l.map convPermit) q) (m + 1 - n).toNat n []
      rw [List.length_nil] at g2
      refine ⟨by show (outR _).length ≤ _; rw [outR_len]; omega, fun y hy => ?_⟩
      have hy : y ∈ outR (spR (freeD (l.map convPermit) q) (m + 1 - n).toNat n []) := hy
      unfold outR at hy
      obtain ⟨p, _, rfl⟩ := List.mem_map.1 (List.mem_reverse.1 hy)
      rfl
    · exact ⟨Nat.zero_le _, fun y hy => absurd hy (by simp)⟩
  have hrn := hrl.1
  clear hr hn h hl hw hw' hsz
  generalize freeM (l.map convPermit) q n m = r at hs hi hrl hrn
  generalize hL : l.map convPermit = L at hs hi hx'
  have hto : Evn (fun k => laws_toPermitS.f k l) L := hL ▸ ev_toPermitS l hx
  repeat (first
    | exact Evn.done _
    | simp only [if_true, bne_self_eq_false, Bool.false_eq_true, if_false]
    | refine Evn.bind hto ?_
    | refine Evn.bind hs ?_
    | refine Evn.bind hi ?_
    | refine Evn.bind (ev_toPermitS _ (by assumption)) ?_
    | refine Evn.bind (ev_toIntSS _ (by assumption)) ?_
    | refine Evn.bind (ev_eqPermitS _ (by assumption)) ?_
    | refine Evn.bind (ev_eqIntSS _ (by assumption)) ?_
    | refine Evn.bind (ev_markPermitS _ _ (by omega) (by omega) (by first | assumption | omega)) ?_
    | refine Evn.bind (ev_heldPermitS _ _ (by omega) (by omega) (by first | assumption | omega)) ?_
    | refine Evn.bind (ev_markIntSS _ _ (by omega) (by omega) (by first | assumption | omega)) ?_
    | refine Evn.bind (ev_heldIntSS _ _ (by omega) (by omega) (by first | assumption | omega)) ?_
    | refine Evn.ite (fun h_ => absurd h_ (by first | omega | decide)) (fun _ => ?_)
    | refine Evn.ite (fun _ => ?_) (fun h_ => absurd (by first | rfl | omega) h_)
    | dsimp only
    | (refine Evn.step ?_; simp only [laws_FnExactFreeDays.j0])
    | (refine Evn.step ?_; simp only [laws_FnExactFreeDays.j1])
    | (refine Evn.step ?_; simp only [laws_FnExactFreeDays.j2]))

end Go.Proofs.YtgeioccfjgpijaaDoor.Pure
