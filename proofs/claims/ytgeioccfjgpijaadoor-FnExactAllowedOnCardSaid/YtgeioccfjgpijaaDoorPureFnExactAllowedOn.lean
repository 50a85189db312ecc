/- The plain statement of FnExactAllowedOn: its plain function returns true at every input. No condition beyond the arguments' own bounds. -/
import Derived.Test.YtgeioccfjgpijaaDoorQFnExactAllowedOnx6
import Derived.Test.YtgeioccfjgpijaaDoorVaAid
namespace Go.Proofs.YtgeioccfjgpijaaDoor.Pure
open Go.RowKit Go.Proofs.YtgeioccfjgpijaaDoorW.PrintWords Go.Proofs.YtgeioccfjgpijaaDoorW.PrintLast Go.Proofs.YtgeioccfjgpijaaDoor.Aid Go.Proofs.YtgeioccfjgpijaaDoor.QFnExactAllowedOn
set_option linter.unusedVariables false
set_option linter.unusedSimpArgs false

theorem ev_szPermitS_l0 (xs : List S23) (hx : xs.length ≤ 1152921504606846976) (hw : ∀ x ∈ xs, x.f1.size ≤ maxLen) : ∀ (d i : Nat) (q : Int), i + d = xs.length → 0 ≤ q → q ≤ 1048576 → ∃ r, Evn (fun k => laws_szPermitS.l0 k xs q (i : Int)) r ∧ (¬ r < 0 → ∀ x ∈ xs.drop i, x.f1.size ≤ 1048576) := by
  intro d
  induction d with
  | zero =>
    intro i q h _ _
    refine ⟨q, Evn.step ?_, fun _ x hx => by rw [List.drop_eq_nil_of_le (by omega)] at hx; cases hx⟩
    have h1 : ¬ (i : Int) < (xs.length : Int) := by omega
    simp only [laws_szPermitS.l0, if_neg h1]
    exact Evn.done _
  | succ d ih =>
    intro i q h h0 hq
    have h1 : (i : Int) < (xs.length : Int) := by omega
    have h2 : 0 ≤ (i : Int) := by omega
    have hb : (rd_T23 xs (i : Int)).f1.size ≤ maxLen := by
      unfold rd_T23
      rw [Int.toNat_natCast, List.getD_eq_getElem?_getD, List.getElem?_eq_getElem (by omega)]
      exact hw _ (List.getElem_mem _)
    generalize hs : (rd_T23 xs (i : Int)).f1.size = s at hb
    unfold maxLen at hb
    have hr : wrap64 (q - (s : Int)) = q - s := wrap_id (by omega) (by omega)
    by_cases h3 : q - (s : Int) < 0
    · refine ⟨-1, Evn.step ?_, by omega⟩
      simp only [laws_szPermitS.l0, laws_szPermit.f, if_pos h1, if_pos h2, hs, hr, if_pos h3, Option.bind_some]
      exact Evn.done _
    · obtain ⟨r, hr2, ha⟩ := ih (i + 1) (q - s) (by omega) (by omega) (by omega)
      refine ⟨r, Evn.step ?_, fun hn x hx => ?_⟩
      rotate_left
      · rw [getD_drop xs i z23 (by omega)] at hx
        rcases List.mem_cons.1 hx with rfl | hx
        · have e : (xs.getD i z23).f1.size = s := by rw [← hs]; unfold rd_T23; rw [Int.toNat_natCast]
          omega
        · exact ha hn x hx
      simp only [laws_szPermitS.l0, laws_szPermit.f, if_pos h1, if_pos h2, hs, hr, if_neg h3, Option.bind_some, wrap_succ (show i < 4611686018427387904 by omega)]
      exact hr2
theorem ev_szPermitS (xs : List S23) (hx : xs.length ≤ maxLen) (hw : ∀ x ∈ xs, x.f1.size ≤ maxLen) : ∃ r, Evn (fun k => laws_szPermitS.f k xs 1048576) r ∧ (¬ r < 0 → xs.length ≤ 1048576 ∧ ∀ x ∈ xs, x.f1.size ≤ 1048576) := by
  unfold maxLen at hx
  have hr : wrap64 (1048576 - (xs.length : Int)) = 1048576 - xs.length := wrap_id (by omega) (by omega)
  simp only [laws_szPermitS.f, hr]
  by_cases h : (1048576 : Int) - xs.length < 0
  · refine ⟨-1, ?_, by omega⟩
    simp only [if_pos h]
    exact Evn.done _
  · obtain ⟨r, hr2, ha⟩ := ev_szPermitS_l0 xs (by omega) hw xs.length 0 (1048576 - xs.length) (by omega) (by omega) (by omega)
    refine ⟨r, ?_, fun hn => ⟨by omega, by simpa using ha hn⟩⟩
    simp only [if_neg h]
    exact hr2

-- laws_toPermit: as it stands

def convPermit (x : S23) : S26 := ⟨x.f0, x.f1, x.f2, x.f3, x.f4, x.f5⟩
theorem ev_toPermitS_l0 (xs : List S23) (hx : xs.length ≤ 1048576) : ∀ (d i : Nat) (ys : List S26), i + d = xs.length → ys.length = xs.length → Evn (fun k => laws_toPermitS.l0 k xs ys (i : Int)) (ys.take i ++ (xs.drop i).map convPermit) := by
  intro d
  induction d with
  | zero =>
    intro i ys h hy
    refine Evn.step ?_
    have h1 : ¬ (i : Int) < (xs.length : Int) := by omega
    simp only [laws_toPermitS.l0, if_neg h1]
    have e : ys.take i ++ (xs.drop i).map convPermit = ys := by rw [List.take_of_length_le (by omega), List.drop_eq_nil_of_le (by omega)]; simp
    rw [e]
    exact Evn.done _
  | succ d ih =>
    intro i ys h hy
    refine Evn.step ?_
    have h1 : (i : Int) < (xs.length : Int) := by omega
    have h2 : 0 ≤ (i : Int) := by omega
    have h3 : (i : Int) < (ys.length : Int) := by omega
    simp only [laws_toPermitS.l0, laws_toPermit.f, if_pos h1, if_pos h2, if_pos h3, Option.bind_some, Int.toNat_natCast, wrap_succ (show i < 4611686018427387904 by omega)]
    refine (ih (i + 1) _ (by omega) (by simpa using hy)).eq_ ?_
    rw [set_take _ _ _ (by omega), getD_drop xs i z23 (by omega)]
    simp [convPermit, rd_T23]
theorem ev_toPermitS (xs : List S23) (hx : xs.length ≤ 1048576) : Evn (fun k => laws_toPermitS.f k xs) (xs.map convPermit) := by
  unfold laws_toPermitS.f
  refine Evn.ite (fun _ => Evn.ite (fun _ => ?_) (fun h => (h (by omega)).elim)) (fun h => (h (by omega)).elim)
  have h := ev_toPermitS_l0 xs hx xs.length 0 (List.replicate (xs.length : Int).toNat z26) (by omega) (by simp)
  simpa using h

-- laws_eqPermit: as it stands

theorem ev_eqPermitS_l0 (xs : List S26) (hx : xs.length ≤ 4194304) : ∀ (d i : Nat), i + d = xs.length → Evn (fun k => laws_eqPermitS.l0 k xs xs (i : Int)) true := by
  intro d
  induction d with
  | zero =>
    intro i h
    refine Evn.step ?_
    have h1 : ¬ (i : Int) < (xs.length : Int) := by omega
    simp only [laws_eqPermitS.l0, if_neg h1]
    exact Evn.done _
  | succ d ih =>
    intro i h
    refine Evn.step ?_
    have h1 : (i : Int) < (xs.length : Int) := by omega
    have h2 : 0 ≤ (i : Int) := by omega
    simp only [laws_eqPermitS.l0, laws_eqPermit.f, if_pos h1, if_pos h2, Option.bind_some, if_true, wrap_succ (show i < 4611686018427387904 by omega)]
    exact ih (i + 1) (by omega)
theorem ev_eqPermitS (xs : List S26) (hx : xs.length ≤ 4194304) : Evn (fun k => laws_eqPermitS.f k xs xs) true := by
  simp only [laws_eqPermitS.f, if_true]
  exact ev_eqPermitS_l0 xs hx xs.length 0 (by omega)

theorem sp_l1In (x y z : Int) : spec_l1In.f x y z = some (decide (y ≤ x ∧ x ≤ z)) := by
  unfold spec_l1In.f
  by_cases h : x ≥ y <;> simp [h] <;> omega

/-! A permit's rules. -/
def wordB (s : ByteArray) : Bool := decide (1 ≤ s.size) && (decide (s.size ≤ 10) && s.data.toList.all (fun b => decide (97 ≤ b.toNat ∧ b.toNat ≤ 122)))
def goodP (a : Int) (b : ByteArray) (c d e f : Int) : Bool := decide (1 ≤ a ∧ a ≤ 99) && (wordB b && (decide (0 ≤ c ∧ c ≤ 999) && (decide (c ≤ d ∧ d ≤ 999) && (decide (1 ≤ e ∧ e ≤ 12) && decide (0 ≤ f ∧ f ≤ 4)))))
theorem ite_if (b c : Bool) : (if b = true then some c else some false) = some (b && c) := by cases b <;> rfl

theorem bt_at (s : ByteArray) (i : Nat) (h : i < s.data.toList.length) : bt s (i : Int) = ((s.data.toList[i]).toNat : Int) := by
  have h2 : i < s.size := by simpa using h
  unfold bt
  rw [Int.toNat_natCast, dif_pos h2]
  rfl
theorem sp_l2Word_l0 (s : ByteArray) (hs : s.size ≤ 1152921504606846976) : ∀ (d i : Nat), i + d = s.size → Evn (fun k => spec_l2Word.l0 k s (i : Int)) ((s.data.toList.drop i).all (fun b => decide (97 ≤ b.toNat ∧ b.toNat ≤ 122)) && decide (1 ≤ (s.size : Int) ∧ (s.size : Int) ≤ 10)) := by
  have hl : s.data.toList.length = s.size := by simp
  intro d
  induction d with
  | zero =>
    intro i h
    refine Evn.step ?_
    have h1 : ¬ (i : Int) < (s.size : Int) := by omega
    simp only [spec_l2Word.l0, if_neg h1, sp_l1In, Option.bind_some]
    rw [List.drop_eq_nil_of_le (by omega)]
    exact Evn.done _
  | succ d ih =>
    intro i h
    refine Evn.step ?_
    have h1 : (i : Int) < (s.size : Int) := by omega
    have h2 : 0 ≤ (i : Int) := by omega
    have hb := bt_at s i (by omega)
    simp only [spec_l2Word.l0, if_pos h1, if_pos h2, hb, wrap_succ (show i < 4611686018427387904 by omega)]
    rw [List.drop_eq_getElem_cons (by omega), List.all_cons]
    generalize s.data.toList[i] = x
    refine Evn.ite (fun h3 => ?_) (fun h3 => Evn.ite (fun h4 => ?_) (fun h4 => ?_))
    · rw [show decide (97 ≤ x.toNat ∧ x.toNat ≤ 122) = false from decide_eq_false (by omega)]
      exact Evn.done _
    · rw [show decide (97 ≤ x.toNat ∧ x.toNat ≤ 122) = false from decide_eq_false (by omega)]
      exact Evn.done _
    · rw [show decide (97 ≤ x.toNat ∧ x.toNat ≤ 122) = true from decide_eq_true (by omega), Bool.true_and]
      exact ih (i + 1) (by omega)
theorem sp_l2Word (s : ByteArray) (hs : s.size ≤ 1152921504606846976) : Evn (fun k => spec_l2Word.f k s) (wordB s) := by
  refine (sp_l2Word_l0 s hs s.size 0 (by omega)).eq_ ?_
  unfold wordB
  rw [List.drop_zero]
  generalize s.data.toList.all _ = t
  by_cases h1 : 1 ≤ s.size <;> by_cases h2 : s.size ≤ 10 <;> cases t <;> simp [h1, h2] <;> omega

theorem sp_l22Day (a : Int) : spec_l22Day.f a = some (decide (0 ≤ a ∧ a ≤ 999)) := by simp only [spec_l22Day.f, sp_l1In, Option.bind_some]
theorem sp_l22One (a : Int) (b : ByteArray) (c d e f : Int) (hb : b.size ≤ 1152921504606846976) : Evn (fun k => spec_l22One.f k a b c d e f) (goodP a b c d e f) := by
  unfold spec_l22One.f goodP
  simp only [sp_l22Day, sp_l1In, Option.bind_some, ite_if]
  by_cases h : 1 ≤ a ∧ a ≤ 99
  · simp only [decide_eq_true h, if_true, Bool.true_and]
    refine Evn.bind (sp_l2Word b hb) ?_
    exact Evn.done _
  · simp only [decide_eq_false h, Bool.false_and, Bool.false_eq_true, if_false]
    exact Evn.done _

/-! A list of permits' rules. -/
def okP (x : S26) : Bool := goodP x.f0 x.f1 x.f2 x.f3 x.f4 x.f5
def holdsP (s : Int) : Bool := s == 1 || s == 3
def confP (a b : S26) : Bool := (holdsP a.f5 && holdsP b.f5) && (decide (a.f1.toList = b.f1.toList) && (decide (a.f2 ≤ b.f3) && decide (b.f2 ≤ a.f3)))
theorem confP_comm (a b : S26) : confP a b = confP b a := by
  unfold confP
  rw [Bool.and_comm (holdsP a.f5), show decide (a.f1.toList = b.f1.toList) = decide (b.f1.toList = a.f1.toList) from decide_eq_decide.2 eq_comm, Bool.and_comm (decide (a.f2 ≤ b.f3))]
def goodPl (xs : List S26) : Nat → Nat → Bool
  | 0, _ => decide ((xs.length : Int) ≤ 10)
  | d + 1, i => okP (xs.getD i z26) && ((decide (i = 0) || decide ((xs.getD (i - 1) z26).f0 < (xs.getD i z26).f0)) && (!((xs.take i).any fun y => confP y (xs.getD i z26)) && goodPl xs d (i + 1)))
def goodPs (xs : List S26) : Bool := goodPl xs xs.length 0
theorem getD_all {α : Type} (p : α → Prop) (xs : List α) (i : Nat) (z : α) (h : i < xs.length) (hp : ∀ x ∈ xs, p x) : p (xs.getD i z) := by
  rw [List.getD_eq_getElem?_getD, List.getElem?_eq_getElem h]
  exact hp _ (List.getElem_mem h)

theorem sp_l22Holds (a : Int) (b : ByteArray) (c d e f : Int) : spec_l22Holds.f a b c d e f = some (holdsP f) := by
  unfold spec_l22Holds.f holdsP
  by_cases h : f = 1 <;> simp [h]
theorem sp_l22Conflict (a b : S26) : spec_l22Conflict.f a.f0 a.f1 a.f2 a.f3 a.f4 a.f5 b.f0 b.f1 b.f2 b.f3 b.f4 b.f5 = some (confP a b) := by
  unfold spec_l22Conflict.f confP
  simp only [sp_l22Holds, Option.bind_some]
  by_cases h1 : a.f1.toList = b.f1.toList <;> by_cases h2 : a.f2 ≤ b.f3 <;> by_cases h3 : b.f2 ≤ a.f3 <;> cases holdsP a.f5 <;> cases holdsP b.f5 <;> simp [h1, h2, h3]
theorem sp_l22Good_l1 (xs : List S26) (hx : xs.length ≤ 4194304) (i : Nat) (hi : i < xs.length) (R : Bool) (hR : Evn (fun k => spec_l22Good.l0 k xs ((i + 1 : Nat) : Int)) R) : ∀ (d m : Nat), m + d = i → Evn (fun k => spec_l22Good.l1 k xs (i : Int) (m : Int)) (!(((xs.take i).drop m).any fun y => confP y (xs.getD i z26)) && R) := by
  intro d
  induction d with
  | zero =>
    intro m h
    refine Evn.step ?_
    have h1 : ¬ (m : Int) < (i : Int) := by omega
    simp only [spec_l22Good.l1, if_neg h1, wrap_succ (show i < 4611686018427387904 by omega)]
    rw [List.drop_eq_nil_of_le (by rw [List.length_take]; omega)]
    exact hR
  | succ d ih =>
    intro m h
    refine Evn.step ?_
    have h1 : (m : Int) < (i : Int) := by omega
    have h2 : 0 ≤ (m : Int) := by omega
    have h3 : (m : Int) < (xs.length : Int) := by omega
    have h4 : 0 ≤ (i : Int) := by omega
    have h5 : (i : Int) < (xs.length : Int) := by omega
    simp only [spec_l22Good.l1, if_pos h1, if_pos h2, if_pos h3, if_pos h4, if_pos h5, sp_l22Conflict, Option.bind_some, wrap_succ (show m < 4611686018427387904 by omega), rd_T26, Int.toNat_natCast]
    rw [getD_drop (xs.take i) m z26 (by rw [List.length_take]; omega), List.any_cons]
    have e : (xs.take i).getD m z26 = xs.getD m z26 := by
      rw [List.getD_eq_getElem?_getD, List.getD_eq_getElem?_getD, List.getElem?_take_of_lt (by omega)]
    rw [e]
    exact Evn.ite (fun c => (Evn.done _).eq_ (by rw [c]; simp)) (fun c => (ih (m + 1) (by omega)).eq_ (by rw [Bool.eq_false_iff.mpr c]; simp))
theorem sp_l22Good_l0 (xs : List S26) (hx : xs.length ≤ 4194304) (hw : ∀ x ∈ xs, x.f1.size ≤ 1152921504606846976) : ∀ (d i : Nat), i + d = xs.length → Evn (fun k => spec_l22Good.l0 k xs (i : Int)) (goodPl xs d i) := by
  intro d
  induction d with
  | zero =>
    intro i h
    refine Evn.step ?_
    have h1 : ¬ (i : Int) < (xs.length : Int) := by omega
    simp only [spec_l22Good.l0, if_neg h1, goodPl]
    exact Evn.done _
  | succ d ih =>
    intro i h
    refine Evn.step ?_
    have h1 : (i : Int) < (xs.length : Int) := by omega
    have h2 : 0 ≤ (i : Int) := by omega
    have hin := sp_l22Good_l1 xs hx i (by omega) _ (ih (i + 1) (by omega)) i 0 (by omega)
    rw [List.drop_zero] at hin
    have hb := getD_all (fun x => x.f1.size ≤ 1152921504606846976) xs i z26 (by omega) hw
    simp only [spec_l22Good.l0, if_pos h1, if_pos h2, rd_T26, Int.toNat_natCast, goodPl]
    refine Evn.bind (sp_l22One _ _ _ _ _ _ hb) ?_
    change Evn _ (okP (xs.getD i z26) && _)
    refine Evn.ite (fun c1 => ?_) (fun c1 => ?_)
    · rw [show okP (xs.getD i z26) = true from c1, Bool.true_and]
      rcases Nat.eq_zero_or_pos i with h0 | h0
      · subst h0
        have h3 : ¬ ((0 : Nat) : Int) > 0 := by omega
        simp only [if_neg h3, decide_true, Bool.true_or, Bool.true_and]
        refine Evn.step ?_
        simp only [spec_l22Good.j1, Bool.false_eq_true, if_false]
        exact hin
      · obtain ⟨j, rfl⟩ : ∃ j, i = j + 1 := ⟨i - 1, by omega⟩
        have h3 : ((j + 1 : Nat) : Int) > 0 := by omega
        have h4 : 0 ≤ (j : Int) := by omega
        have h5 : (j : Int) < (xs.length : Int) := by omega
        simp only [if_pos h3, wrap_pred (show j < 4611686018427387904 by omega), if_pos h4, if_pos h5, Int.toNat_natCast, Nat.add_sub_cancel]
        refine Evn.step ?_
        simp only [spec_l22Good.j1]
        refine Evn.ite (fun c3 => (Evn.done _).eq_ ?_) (fun c3 => hin.eq_ ?_)
        · have e1 : decide ((xs.getD j z26).f0 < (xs.getD (j + 1) z26).f0) = false := decide_eq_false (by have := of_decide_eq_true c3; omega)
          simp only [e1, show decide (j + 1 = 0) = false from by simp, Bool.or_false, Bool.false_and]
        · have e1 : decide ((xs.getD j z26).f0 < (xs.getD (j + 1) z26).f0) = true := decide_eq_true (by have : ¬ _ := fun h => c3 (decide_eq_true h); omega)
          simp only [e1, Bool.or_true, Bool.true_and]
    · rw [show okP (xs.getD i z26) = false from Bool.eq_false_iff.2 c1, Bool.false_and]
      refine Evn.step ?_
      simp only [spec_l22Good.j1, if_true]
      exact Evn.done _
theorem sp_l22Good (xs : List S26) (hx : xs.length ≤ 4194304) (hw : ∀ x ∈ xs, x.f1.size ≤ 1152921504606846976) : Evn (fun k => spec_l22Good.f k xs) (goodPs xs) := sp_l22Good_l0 xs hx hw xs.length 0 (by omega)

/-! The first permit for a cave on a day. -/
theorem idxQ_range (p : S26 → Bool) : ∀ (l : List S26) (i : Int), 0 ≤ i → idxP26 p l i = -1 ∨ (i ≤ idxP26 p l i ∧ idxP26 p l i < i + l.length) := by
  intro l
  induction l with
  | nil => intro i _; exact Or.inl rfl
  | cons x l ih =>
    intro i h
    rw [idxP26, List.length_cons]
    by_cases c : p x = true
    · rw [if_pos c]; right; omega
    · rw [if_neg c]
      rcases ih (i + 1) (by omega) with e | e
      · exact Or.inl e
      · right; omega
theorem idxQ_none (p : S26 → Bool) : ∀ (l : List S26) (i : Int), (∀ x ∈ l, p x = false) → idxP26 p l i = -1 := by
  intro l
  induction l with
  | nil => intro i _; rfl
  | cons x l ih =>
    intro i h
    rw [idxP26, if_neg (by rw [h x (List.mem_cons_self ..)]; decide)]
    exact ih (i + 1) fun y hy => h y (List.mem_cons_of_mem _ hy)
theorem goodPl_all (xs : List S26) : ∀ (d i : Nat), i + d = xs.length → goodPl xs d i = true → ∀ j, i ≤ j → j < xs.length → okP (xs.getD j z26) = true := by
  intro d
  induction d with
  | zero => intro i h _ j h1 h2; omega
  | succ d ih =>
    intro i h hg j h1 h2
    rw [goodPl, Bool.and_eq_true, Bool.and_eq_true, Bool.and_eq_true] at hg
    obtain ⟨g1, g2, g3, g4⟩ := hg
    rcases Nat.eq_or_lt_of_le h1 with e | e
    · subst e; exact g1
    · exact ih (i + 1) (by omega) g4 j (by omega) h2
theorem goodPs_all (xs : List S26) (h : goodPs xs = true) : ∀ x ∈ xs, okP x = true := by
  intro x hx
  obtain ⟨n, hn, he⟩ := List.mem_iff_getElem.1 hx
  have := goodPl_all xs xs.length 0 (by omega) h n (by omega) hn
  rwa [List.getD_eq_getElem?_getD, List.getElem?_eq_getElem hn, Option.getD_some, he] at this
theorem wordB_of_okP {x : S26} (h : okP x = true) : wordB x.f1 = true := by
  unfold okP goodP at h
  rw [Bool.and_eq_true, Bool.and_eq_true] at h
  exact h.2.1
theorem wordB_same {a b : ByteArray} (h : a.toList = b.toList) : wordB a = wordB b := by
  rw [Lib.toList_data, Lib.toList_data] at h
  have hs : a.size = b.size := by
    have := congrArg List.length h
    simpa using this
  unfold wordB
  rw [h, hs]
theorem noWord_none (xs : List S26) (q : ByteArray) (n : Int) (h : goodPs xs = true) (hw : ¬ wordB q = true) : idxP26 (onDay q n) xs 0 = -1 := by
  refine idxQ_none _ _ _ fun x hx => ?_
  have h1 := wordB_of_okP (goodPs_all xs h x hx)
  cases hc : onDay q n x with
  | false => rfl
  | true =>
    unfold onDay at hc
    rw [Bool.and_eq_true, Bool.and_eq_true] at hc
    have := wordB_same (of_decide_eq_true hc.2.1)
    rw [this] at h1
    exact absurd h1 hw

theorem sp_l22On_l0 (xs : List S26) (hx : xs.length ≤ 4194304) (q : ByteArray) (n : Int) : ∀ (d i : Nat), i + d = xs.length → Evn (fun k => spec_l22On.l0 k xs q n (i : Int)) (idxP26 (onDay q n) (xs.drop i) i) := by
  intro d
  induction d with
  | zero =>
    intro i h
    refine Evn.step ?_
    have h1 : ¬ (i : Int) < (xs.length : Int) := by omega
    simp only [spec_l22On.l0, if_neg h1]
    rw [List.drop_eq_nil_of_le (by omega)]
    exact Evn.done _
  | succ d ih =>
    intro i h
    refine Evn.step ?_
    have h1 : (i : Int) < (xs.length : Int) := by omega
    have h2 : 0 ≤ (i : Int) := by omega
    have hih := ih (i + 1) (by omega)
    simp only [spec_l22On.l0, if_pos h1, if_pos h2, sp_l22Holds, sp_l1In, Option.bind_some, wrap_succ (show i < 4611686018427387904 by omega), rd_T26, Int.toNat_natCast]
    rw [getD_drop xs i z26 (by omega), idxP26]
    generalize xs.getD i z26 = x
    have e : onDay q n x = (holdsP x.f5 && (decide (x.f1.toList = q.toList) && decide (x.f2 ≤ n ∧ n ≤ x.f3))) := rfl
    rw [e]
    have hih' : Evn (fun k => spec_l22On.l0 k xs q n ((i + 1 : Nat) : Int)) (idxP26 (onDay q n) (xs.drop (i + 1)) ((i : Int) + 1)) := hih
    refine Evn.ite (fun c1 => ?_) (fun c1 => hih'.eq_ (by rw [Bool.eq_false_iff.mpr c1]; rfl))
    rw [c1, Bool.true_and]
    refine Evn.ite (fun c2 => ?_) (fun c2 => hih'.eq_ (by rw [decide_eq_false c2]; rfl))
    rw [decide_eq_true c2, Bool.true_and]
    exact Evn.ite (fun c3 => (Evn.done _).eq_ (by rw [c3]; rfl)) (fun c3 => hih'.eq_ (by rw [Bool.eq_false_iff.mpr c3]; rfl))
theorem sp_l22On (xs : List S26) (hx : xs.length ≤ 4194304) (q : ByteArray) (n : Int) : Evn (fun k => spec_l22On.f k xs q n) (idxP26 (onDay q n) xs 0) := sp_l22On_l0 xs hx q n xs.length 0 (by omega)

def allowedM (xs : List S26) (q : ByteArray) (n : Int) : Int × Bool := if goodPs xs = true then (if 0 ≤ n ∧ n ≤ 999 then (if idxP26 (onDay q n) xs 0 < 0 then (0, false) else ((rd_T26 xs (idxP26 (onDay q n) xs 0)).f0, true)) else (0, false)) else (0, false)
theorem sp_AllowedOn (xs : List S26) (hx : xs.length ≤ 4194304) (hw : ∀ x ∈ xs, x.f1.size ≤ 1152921504606846976) (q : ByteArray) (n : Int) : Evn (fun k => spec_AllowedOn.f k xs q n) (allowedM xs q n) := by
  unfold spec_AllowedOn.f allowedM
  refine Evn.bind (sp_l22Good xs hx hw) ?_
  by_cases c : goodPs xs = true
  · simp only [if_pos c, sp_l22Day, Option.bind_some]
    by_cases c2 : 0 ≤ n ∧ n ≤ 999
    · simp only [decide_eq_true c2, if_true, if_pos c2]
      refine Evn.bind (sp_l22On xs hx q n) ?_
      have hr := idxQ_range (onDay q n) xs 0 (by omega)
      refine Evn.ite (fun c3 => (Evn.done _).eq_ (by rw [if_pos c3])) (fun c3 => ?_)
      rw [if_neg c3]
      refine Evn.bind (sp_l22On xs hx q n) ?_
      simp only [if_pos (show 0 ≤ idxP26 (onDay q n) xs 0 by omega), if_pos (show idxP26 (onDay q n) xs 0 < (xs.length : Int) by omega)]
      exact Evn.done _
    · simp only [decide_eq_false c2, Bool.false_eq_true, if_false, if_neg c2]
      exact Evn.done _
  · simp only [if_neg c]
    exact Evn.done _

theorem im_within (x y z : Int) : impl_within.f x y z = some (decide (y ≤ x ∧ x ≤ z)) := by
  unfold impl_within.f
  by_cases h : x ≥ y <;> simp [h] <;> omega

theorem im_isWord (b : ByteArray) : impl_isWord.f b = some (wordB b) := rfl
theorem im_isId (a : Int) : impl_isId.f a = some (decide (1 ≤ a ∧ a ≤ 99)) := by simp only [impl_isId.f, im_within, Option.bind_some]
theorem im_isDay (a : Int) : impl_isDay.f a = some (decide (0 ≤ a ∧ a ≤ 999)) := by simp only [impl_isDay.f, im_within, Option.bind_some]
theorem im_IsPermit (a : Int) (b : ByteArray) (c d e f : Int) : impl_IsPermit.f a b c d e f = some (goodP a b c d e f) := by
  unfold impl_IsPermit.f goodP
  simp only [im_isId, im_isDay, im_isWord, im_within, Option.bind_some, ite_if]

theorem im_counts (a : Int) (b : ByteArray) (c d e f : Int) : impl_Permit_counts.f a b c d e f = some (holdsP f) := by
  unfold impl_Permit_counts.f holdsP
  by_cases h : f = 1 <;> simp [h]
theorem im_conflict (a b : S26) : impl_conflict.f a.f0 a.f1 a.f2 a.f3 a.f4 a.f5 b.f0 b.f1 b.f2 b.f3 b.f4 b.f5 = some (confP a b) := by
  unfold impl_conflict.f confP
  simp only [im_counts, Option.bind_some]
  by_cases h1 : a.f1.toList = b.f1.toList <;> by_cases h2 : a.f2 ≤ b.f3 <;> by_cases h3 : b.f2 ≤ a.f3 <;> cases holdsP a.f5 <;> cases holdsP b.f5 <;> simp [h1, h2, h3]
theorem im_xConflicts (ys : List S26) (a : S26) : impl_xConflicts.f ys a.f0 a.f1 a.f2 a.f3 a.f4 a.f5 = some (ys.any fun y => confP y a) := by
  unfold impl_xConflicts.f
  congr 2
  funext x
  rw [im_conflict, confP_comm a x]
  cases confP x a <;> rfl
theorem im_ArePermits_l0 (xs : List S26) (hx : xs.length ≤ 4194304) : ∀ (d i : Nat), i + d = xs.length → Evn (fun k => impl_ArePermits.l0 k xs xs (xs.length : Int) (i : Int)) (goodPl xs d i) := by
  intro d
  induction d with
  | zero =>
    intro i h
    refine Evn.step ?_
    have h1 : ¬ (i : Int) < (xs.length : Int) := by omega
    simp only [impl_ArePermits.l0, if_neg h1, goodPl]
    exact Evn.done _
  | succ d ih =>
    intro i h
    refine Evn.step ?_
    have h1 : (i : Int) < (xs.length : Int) := by omega
    have h2 : 0 ≤ (i : Int) := by omega
    have h6 : (i : Int) ≤ (xs.length : Int) := by omega
    have hih := ih (i + 1) (by omega)
    simp only [impl_ArePermits.l0, if_pos h1, if_pos h2, if_pos h6, im_IsPermit, im_xConflicts, Option.bind_some, wrap_succ (show i < 4611686018427387904 by omega), rd_T26, Int.toNat_natCast, goodPl]
    change Evn _ (okP (xs.getD i z26) && _)
    have fin : Evn (fun k => if ((xs.take i).any fun y => confP y (xs.getD i z26)) = true then some false else impl_ArePermits.l0 k xs xs (xs.length : Int) ((i + 1 : Nat) : Int)) (!((xs.take i).any fun y => confP y (xs.getD i z26)) && goodPl xs d (i + 1)) :=
      Evn.ite (fun c => (Evn.done _).eq_ (by rw [c]; rfl)) (fun c => hih.eq_ (by rw [Bool.eq_false_iff.mpr c]; rfl))
    refine Evn.ite (fun c1 => ?_) (fun c1 => ?_)
    · rw [show okP (xs.getD i z26) = true from c1, Bool.true_and]
      rcases Nat.eq_zero_or_pos i with h0 | h0
      · subst h0
        have h3 : ¬ ((0 : Nat) : Int) > 0 := by omega
        simp only [if_neg h3, decide_true, Bool.true_or, Bool.true_and]
        exact fin
      · obtain ⟨j, rfl⟩ : ∃ j, i = j + 1 := ⟨i - 1, by omega⟩
        have h3 : ((j + 1 : Nat) : Int) > 0 := by omega
        have h4 : 0 ≤ (j : Int) := by omega
        have h5 : (j : Int) < (xs.length : Int) := by omega
        simp only [if_pos h3, wrap_pred (show j < 4611686018427387904 by omega), if_pos h4, if_pos h5, Int.toNat_natCast, Nat.add_sub_cancel]
        refine Evn.ite (fun c3 => (Evn.done _).eq_ ?_) (fun c3 => fin.eq_ ?_)
        · have e1 : decide ((xs.getD j z26).f0 < (xs.getD (j + 1) z26).f0) = false := decide_eq_false (by omega)
          simp only [e1, show decide (j + 1 = 0) = false from by simp, Bool.or_false, Bool.false_and]
        · have e1 : decide ((xs.getD j z26).f0 < (xs.getD (j + 1) z26).f0) = true := decide_eq_true (by omega)
          simp only [e1, Bool.or_true, Bool.true_and]
    · rw [show okP (xs.getD i z26) = false from Bool.eq_false_iff.2 c1, Bool.false_and]
      exact Evn.done _
theorem im_ArePermits (xs : List S26) (hx : xs.length ≤ 4194304) : Evn (fun k => impl_ArePermits.f k xs) (goodPs xs) := im_ArePermits_l0 xs hx xs.length 0 (by omega)

theorem im_xAllowed (xs : List S26) (q : ByteArray) (n : Int) : impl_xAllowed.f xs q n = some (idxP26 (onDay q n) xs 0) := rfl
theorem im_AllowedOn (xs : List S26) (hx : xs.length ≤ 4194304) (q : ByteArray) (n : Int) : Evn (fun k => impl_AllowedOn.f k xs q n) (allowedM xs q n) := by
  unfold impl_AllowedOn.f allowedM
  refine Evn.bind (im_ArePermits xs hx) ?_
  by_cases c : goodPs xs = true
  · simp only [if_pos c, im_isDay, im_isWord, impl_allowed.f, im_xAllowed, Option.bind_some]
    have hr := idxQ_range (onDay q n) xs 0 (by omega)
    by_cases cw : wordB q = true
    · simp only [if_pos cw]
      by_cases c2 : 0 ≤ n ∧ n ≤ 999
      · simp only [decide_eq_true c2, if_true, if_pos c2]
        by_cases c3 : idxP26 (onDay q n) xs 0 < 0
        · simp only [if_pos c3, Option.bind_some]
          exact Evn.done _
        · simp only [if_neg c3, if_pos (show 0 ≤ idxP26 (onDay q n) xs 0 by omega), if_pos (show idxP26 (onDay q n) xs 0 < (xs.length : Int) by omega), Option.bind_some]
          exact Evn.done _
      · simp only [decide_eq_false c2, Bool.false_eq_true, if_false, if_neg c2]
        exact Evn.done _
    · simp only [if_neg cw, noWord_none xs q n c cw]
      by_cases c2 : 0 ≤ n ∧ n ≤ 999
      · simp only [if_pos c2]
        exact Evn.done _
      · simp only [if_neg c2]
        exact Evn.done _
  · simp only [if_neg c]
    exact Evn.done _

theorem FnExactAllowedOn : ∀ (l0 : List (S23)) (a1 : ByteArray) (a2 : Int), l0.length ≤ maxLen → (∀ x ∈ l0, (Lit.int .i64 x.f0).wf = true ∧ x.f1.size ≤ maxLen ∧ (Lit.int .i64 x.f2).wf = true ∧ (Lit.int .i64 x.f3).wf = true ∧ (Lit.int .i64 x.f4).wf = true ∧ (Lit.int .i64 x.f5).wf = true) → a1.size ≤ 140737488351232 → (Lit.int .i64 a2).wf = true → ∃ k, laws_FnExactAllowedOn.f k l0 a1 a2 = some true := by
  intro l q n hl hw _ _
  apply Evn.get
  obtain ⟨r, hr, hn⟩ := ev_szPermitS l hl (fun x hx => (hw x hx).2.1)
  simp only [laws_FnExactAllowedOn.f]
  refine Evn.ite (fun _ => Evn.done _) (fun _ => ?_)
  refine Evn.bind hr ?_
  refine Evn.ite (fun _ => Evn.done _) (fun h => ?_)
  obtain ⟨hx, hs⟩ := hn h
  have hx' : (l.map convPermit).length ≤ 4194304 := by rw [List.length_map]; omega
  have hw' : ∀ x ∈ l.map convPermit, x.f1.size ≤ 1152921504606846976 := by
    intro x hx
    obtain ⟨y, hy, rfl⟩ := List.mem_map.1 hx
    have := hs y hy
    show y.f1.size ≤ _
    omega
  refine Evn.bind (ev_toPermitS l hx) ?_
  refine Evn.bind (sp_AllowedOn _ hx' hw' q n) ?_
  refine Evn.bind (ev_toPermitS l hx) ?_
  refine Evn.bind (im_AllowedOn _ hx' q n) ?_
  simp only [if_true, bne_self_eq_false]
  refine Evn.step ?_
  simp only [laws_FnExactAllowedOn.j0, Bool.false_eq_true, if_false]
  refine Evn.bind (ev_toPermitS l hx) ?_
  refine Evn.bind (ev_eqPermitS _ (by omega)) ?_
  simp only [if_true]
  exact Evn.done _

end Go.Proofs.YtgeioccfjgpijaaDoor.Pure
