/- The plain statement of FnExactFirstSlot: its plain function returns true at every input. No condition beyond the arguments' own bounds. -/
import Derived.Test.YtgeioccfjgpijaaDoorQFnExactFirstSlotx8
import Derived.Test.YtgeioccfjgpijaaDoorVfAid
namespace Go.Proofs.YtgeioccfjgpijaaDoor.Pure
open Go.RowKit Go.Proofs.YtgeioccfjgpijaaDoorW.PrintWords Go.Proofs.YtgeioccfjgpijaaDoorW.PrintLast Go.Proofs.YtgeioccfjgpijaaDoor.Aid Go.Proofs.YtgeioccfjgpijaaDoor.QFnExactFirstSlot
set_option linter.unusedVariables false
set_option linter.unusedSimpArgs false

theorem ev_szPermitS_l0 (xs : List S23) (hx : xs.length ≤ 1152921504606846976) (hw : ∀ x ∈ xs, x.f1.size ≤ maxLen) : ∀ (d i : Nat) (q : Int), i + d = xs.length → 0 ≤ q → q ≤ 1048576 → ∃ r, Evn (fun k => laws_szPermitS.l0 k xs q (i : Int)) r ∧ (¬ r < 0 → ∀ x ∈ xs.drop i, x.f1.size ≤ 1048576) := by
  intro d
  induction d with
  | zero =>
    intro i q h _ _
    refine ⟨q, Evn.step ?_, fun _ x hx => by rw [List.drop_eq_nil_of_le (by omega)] at hx; cases hx⟩
    have h1 : ¬ (i : Int) < (xs.length : Int) := by omega
    simp only [laws_szPermitS.l0, if_neg h1]
    exact Evn.done _
  | succ d ih =>
    intro i q h h0 hq
    have h1 : (i : Int) < (xs.length : Int) := by omega
    have h2 : 0 ≤ (i : Int) := by omega
    have hb : (rd_T23 xs (i : Int)).f1.size ≤ maxLen := by
      unfold rd_T23
      rw [Int.toNat_natCast, List.getD_eq_getElem?_getD, List.getElem?_eq_getElem (by omega)]
      exact hw _ (List.getElem_mem _)
    generalize hs : (rd_T23 xs (i : Int)).f1.size = s at hb
    unfold maxLen at hb
    have hr : wrap64 (q - (s : Int)) = q - s := wrap_id (by omega) (by omega)
    by_cases h3 : q - (s : Int) < 0
    · refine ⟨-1, Evn.step ?_, by omega⟩
      simp only [laws_szPermitS.l0, laws_szPermit.f, if_pos h1, if_pos h2, hs, hr, if_pos h3, Option.bind_some]
      exact Evn.done _
    · obtain ⟨r, hr2, ha⟩ := ih (i + 1) (q - s) (by omega) (by omega) (by omega)
      refine ⟨r, Evn.step ?_, fun hn x hx => ?_⟩
      rotate_left
      · rw [getD_drop xs i z23 (by omega)] at hx
        rcases List.mem_cons.1 hx with rfl | hx
        · have e : (xs.getD i z23).f1.size = s := by rw [← hs]; unfold rd_T23; rw [Int.toNat_natCast]
          omega
        · exact ha hn x hx
      simp only [laws_szPermitS.l0, laws_szPermit.f, if_pos h1, if_pos h2, hs, hr, if_neg h3, Option.bind_some, wrap_succ (show i < 4611686018427387904 by omega)]
      exact hr2
theorem ev_szPermitS (xs : List S23) (hx : xs.length ≤ maxLen) (hw : ∀ x ∈ xs, x.f1.size ≤ maxLen) : ∃ r, Evn (fun k => laws_szPermitS.f k xs 1048576) r ∧ (¬ r < 0 → xs.length ≤ 1048576 ∧ ∀ x ∈ xs, x.f1.size ≤ 1048576) := by
  unfold maxLen at hx
  have hr : wrap64 (1048576 - (xs.length : Int)) = 1048576 - xs.length := wrap_id (by omega) (by omega)
  simp only [laws_szPermitS.f, hr]
  by_cases h : (1048576 : Int) - xs.length < 0
  · refine ⟨-1, ?_, by omega⟩
    simp only [if_pos h]
    exact Evn.done _
  · obtain ⟨r, hr2, ha⟩ := ev_szPermitS_l0 xs (by omega) hw xs.length 0 (1048576 - xs.length) (by omega) (by omega) (by omega)
    refine ⟨r, ?_, fun hn => ⟨by omega, by simpa using ha hn⟩⟩
    simp only [if_neg h]
    exact hr2

-- laws_toPermit: as it stands

def convPermit (x : S23) : S26 := ⟨x.f0, x.f1, x.f2, x.f3, x.f4, x.f5⟩
theorem ev_toPermitS_l0 (xs : List S23) (hx : xs.length ≤ 1048576) : ∀ (d i : Nat) (ys : List S26), i + d = xs.length → ys.length = xs.length → Evn (fun k => laws_toPermitS.l0 k xs ys (i : Int)) (ys.take i ++ (xs.drop i).map convPermit) := by
  intro d
  induction d with
  | zero =>
    intro i ys h hy
    refine Evn.step ?_
    have h1 : ¬ (i : Int) < (xs.length : Int) := by omega
    simp only [laws_toPermitS.l0, if_neg h1]
    have e : ys.take i ++ (xs.drop i).map convPermit = ys := by rw [List.take_of_length_le (by omega), List.drop_eq_nil_of_le (by omega)]; simp
    rw [e]
    exact Evn.done _
  | succ d ih =>
    intro i ys h hy
    refine Evn.step ?_
    have h1 : (i : Int) < (xs.length : Int) := by omega
    have h2 : 0 ≤ (i : Int) := by omega
    have h3 : (i : Int) < (ys.length : Int) := by omega
    simp only [laws_toPermitS.l0, laws_toPermit.f, if_pos h1, if_pos h2, if_pos h3, Option.bind_some, Int.toNat_natCast, wrap_succ (show i < 4611686018427387904 by omega)]
    refine (ih (i + 1) _ (by omega) (by simpa using hy)).eq_ ?_
    rw [set_take _ _ _ (by omega), getD_drop xs i z23 (by omega)]
    simp [convPermit, rd_T23]
theorem ev_toPermitS (xs : List S23) (hx : xs.length ≤ 1048576) : Evn (fun k => laws_toPermitS.f k xs) (xs.map convPermit) := by
  unfold laws_toPermitS.f
  refine Evn.ite (fun _ => Evn.ite (fun _ => ?_) (fun h => (h (by omega)).elim)) (fun h => (h (by omega)).elim)
  have h := ev_toPermitS_l0 xs hx xs.length 0 (List.replicate (xs.length : Int).toNat z26) (by omega) (by simp)
  simpa using h

-- laws_eqPermit: as it stands

theorem ev_eqPermitS_l0 (xs : List S26) (hx : xs.length ≤ 4194304) : ∀ (d i : Nat), i + d = xs.length → Evn (fun k => laws_eqPermitS.l0 k xs xs (i : Int)) true := by
  intro d
  induction d with
  | zero =>
    intro i h
    refine Evn.step ?_
    have h1 : ¬ (i : Int) < (xs.length : Int) := by omega
    simp only [laws_eqPermitS.l0, if_neg h1]
    exact Evn.done _
  | succ d ih =>
    intro i h
    refine Evn.step ?_
    have h1 : (i : Int) < (xs.length : Int) := by omega
    have h2 : 0 ≤ (i : Int) := by omega
    simp only [laws_eqPermitS.l0, laws_eqPermit.f, if_pos h1, if_pos h2, Option.bind_some, if_true, wrap_succ (show i < 4611686018427387904 by omega)]
    exact ih (i + 1) (by omega)
theorem ev_eqPermitS (xs : List S26) (hx : xs.length ≤ 4194304) : Evn (fun k => laws_eqPermitS.f k xs xs) true := by
  simp only [laws_eqPermitS.f, if_true]
  exact ev_eqPermitS_l0 xs hx xs.length 0 (by omega)

theorem sp_l1In (x y z : Int) : spec_l1In.f x y z = some (decide (y ≤ x ∧ x ≤ z)) := by
  unfold spec_l1In.f
  by_cases h : x ≥ y <;> simp [h] <;> omega

/-! A permit's rules. -/
def wordB (s : ByteArray) : Bool := decide (1 ≤ s.size) && (decide (s.size ≤ 10) && s.data.toList.all (fun b => decide (97 ≤ b.toNat ∧ b.toNat ≤ 122)))
def goodP (a : Int) (b : ByteArray) (c d e f : Int) : Bool := decide (1 ≤ a ∧ a ≤ 99) && (wordB b && (decide (0 ≤ c ∧ c ≤ 999) && (decide (c ≤ d ∧ d ≤ 999) && (decide (1 ≤ e ∧ e ≤ 12) && decide (0 ≤ f ∧ f ≤ 4)))))
theorem ite_if (b c : Bool) : (if b = true then some c else some false) = some (b && c) := by cases b <;> rfl

theorem bt_at (s : ByteArray) (i : Nat) (h : i < s.data.toList.length) : bt s (i : Int) = ((s.data.toList[i]).toNat : Int) := by
  have h2 : i < s.size := by simpa using h
  unfold bt
  rw [Int.toNat_natCast, dif_pos h2]
  rfl
theorem sp_l2Word_l0 (s : ByteArray) (hs : s.size ≤ 1152921504606846976) : ∀ (d i : Nat), i + d = s.size → Evn (fun k => spec_l2Word.l0 k s (i : Int)) ((s.data.toList.drop i).all (fun b => decide (97 ≤ b.toNat ∧ b.toNat ≤ 122)) && decide (1 ≤ (s.size : Int) ∧ (s.size : Int) ≤ 10)) := by
  have hl : s.data.toList.length = s.size := by simp
  intro d
  induction d with
  | zero =>
    intro i h
    refine Evn.step ?_
    have h1 : ¬ (i : Int) < (s.size : Int) := by omega
    simp only [spec_l2Word.l0, if_neg h1, sp_l1In, Option.bind_some]
    rw [List.drop_eq_nil_of_le (by omega)]
    exact Evn.done _
  | succ d ih =>
    intro i h
    refine Evn.step ?_
    have h1 : (i : Int) < (s.size : Int) := by omega
    have h2 : 0 ≤ (i : Int) := by omega
    have hb := bt_at s i (by omega)
    simp only [spec_l2Word.l0, if_pos h1, if_pos h2, hb, wrap_succ (show i < 4611686018427387904 by omega)]
    rw [List.drop_eq_getElem_cons (by omega), List.all_cons]
    generalize s.data.toList[i] = x
    refine Evn.ite (fun h3 => ?_) (fun h3 => Evn.ite (fun h4 => ?_) (fun h4 => ?_))
    · rw [show decide (97 ≤ x.toNat ∧ x.toNat ≤ 122) = false from decide_eq_false (by omega)]
      exact Evn.done _
    · rw [show decide (97 ≤ x.toNat ∧ x.toNat ≤ 122) = false from decide_eq_false (by omega)]
      exact Evn.done _
    · rw [show decide (97 ≤ x.toNat ∧ x.toNat ≤ 122) = true from decide_eq_true (by omega), Bool.true_and]
      exact ih (i + 1) (by omega)
theorem sp_l2Word (s : ByteArray) (hs : s.size ≤ 1152921504606846976) : Evn (fun k => spec_l2Word.f k s) (wordB s) := by
  refine (sp_l2Word_l0 s hs s.size 0 (by omega)).eq_ ?_
  unfold wordB
  rw [List.drop_zero]
  generalize s.data.toList.all _ = t
  by_cases h1 : 1 ≤ s.size <;> by_cases h2 : s.size ≤ 10 <;> cases t <;> simp [h1, h2] <;> omega

theorem sp_l22Day (a : Int) : spec_l22Day.f a = some (decide (0 ≤ a ∧ a ≤ 999)) := by simp only [spec_l22Day.f, sp_l1In, Option.bind_some]
theorem sp_l22One (a : Int) (b : ByteArray) (c d e f : Int) (hb : b.size ≤ 1152921504606846976) : Evn (fun k => spec_l22One.f k a b c d e f) (goodP a b c d e f) := by
  unfold spec_l22One.f goodP
  simp only [sp_l22Day, sp_l1In, Option.bind_some, ite_if]
  by_cases h : 1 ≤ a ∧ a ≤ 99
  · simp only [decide_eq_true h, if_true, Bool.true_and]
    refine Evn.bind (sp_l2Word b hb) ?_
    exact Evn.done _
  · simp only [decide_eq_false h, Bool.false_and, Bool.false_eq_true, if_false]
    exact Evn.done _

/-! A list of permits' rules. -/
def okP (x : S26) : Bool := goodP x.f0 x.f1 x.f2 x.f3 x.f4 x.f5
def holdsP (s : Int) : Bool := s == 1 || s == 3
def confP (a b : S26) : Bool := (holdsP a.f5 && holdsP b.f5) && (decide (a.f1.toList = b.f1.toList) && (decide (a.f2 ≤ b.f3) && decide (b.f2 ≤ a.f3)))
theorem confP_comm (a b : S26) : confP a b = confP b a := by
  unfold confP
  rw [Bool.and_comm (holdsP a.f5), show decide (a.f1.toList = b.f1.toList) = decide (b.f1.toList = a.f1.toList) from decide_eq_decide.2 eq_comm, Bool.and_comm (decide (a.f2 ≤ b.f3))]
def goodPl (xs : List S26) : Nat → Nat → Bool
  | 0, _ => decide ((xs.length : Int) ≤ 10)
  | d + 1, i => okP (xs.getD i z26) && ((decide (i = 0) || decide ((xs.getD (i - 1) z26).f0 < (xs.getD i z26).f0)) && (!((xs.take i).any fun y => confP y (xs.getD i z26)) && goodPl xs d (i + 1)))
def goodPs (xs : List S26) : Bool := goodPl xs xs.length 0
theorem getD_all {α : Type} (p : α → Prop) (xs : List α) (i : Nat) (z : α) (h : i < xs.length) (hp : ∀ x ∈ xs, p x) : p (xs.getD i z) := by
  rw [List.getD_eq_getElem?_getD, List.getElem?_eq_getElem h]
  exact hp _ (List.getElem_mem h)

theorem sp_l22Holds (a : Int) (b : ByteArray) (c d e f : Int) : spec_l22Holds.f a b c d e f = some (holdsP f) := by
  unfold spec_l22Holds.f holdsP
  by_cases h : f = 1 <;> simp [h]
theorem sp_l22Conflict (a b : S26) : spec_l22Conflict.f a.f0 a.f1 a.f2 a.f3 a.f4 a.f5 b.f0 b.f1 b.f2 b.f3 b.f4 b.f5 = some (confP a b) := by
  unfold spec_l22Conflict.f confP
  simp only [sp_l22Holds, Option.bind_some]
  by_cases h1 : a.f1.toList = b.f1.toList <;> by_cases h2 : a.f2 ≤ b.f3 <;> by_cases h3 : b.f2 ≤ a.f3 <;> cases holdsP a.f5 <;> cases holdsP b.f5 <;> simp [h1, h2, h3]
theorem sp_l22Good_l1 (xs : List S26) (hx : xs.length ≤ 4194304) (i : Nat) (hi : i < xs.length) (R : Bool) (hR : Evn (fun k => spec_l22Good.l0 k xs ((i + 1 : Nat) : Int)) R) : ∀ (d m : Nat), m + d = i → Evn (fun k => spec_l22Good.l1 k xs (i : Int) (m : Int)) (!(((xs.take i).drop m).any fun y => confP y (xs.getD i z26)) && R) := by
  intro d
  induction d with
  | zero =>
    intro m h
    refine Evn.step ?_
    have h1 : ¬ (m : Int) < (i : Int) := by omega
    simp only [spec_l22Good.l1, if_neg h1, wrap_succ (show i < 4611686018427387904 by omega)]
    rw [List.drop_eq_nil_of_le (by rw [List.length_take]; omega)]
    exact hR
  | succ d ih =>
    intro m h
    refine Evn.step ?_
    have h1 : (m : Int) < (i : Int) := by omega
    have h2 : 0 ≤ (m : Int) := by omega
    have h3 : (m : Int) < (xs.length : Int) := by omega
    have h4 : 0 ≤ (i : Int) := by omega
    have h5 : (i : Int) < (xs.length : Int) := by omega
    simp only [spec_l22Good.l1, if_pos h1, if_pos h2, if_pos h3, if_pos h4, if_pos h5, sp_l22Conflict, Option.bind_some, wrap_succ (show m < 4611686018427387904 by omega), rd_T26, Int.toNat_natCast]
    rw [getD_drop (xs.take i) m z26 (by rw [List.length_take]; omega), List.any_cons]
    have e : (xs.take i).getD m z26 = xs.getD m z26 := by
      rw [List.getD_eq_getElem?_getD, List.getD_eq_getElem?_getD, List.getElem?_take_of_lt (by omega)]
    rw [e]
    exact Evn.ite (fun c => (Evn.done _).eq_ (by rw [c]; simp)) (fun c => (ih (m + 1) (by omega)).eq_ (by rw [Bool.eq_false_iff.mpr c]; simp))
theorem sp_l22Good_l0 (xs : List S26) (hx : xs.length ≤ 4194304) (hw : ∀ x ∈ xs, x.f1.size ≤ 1152921504606846976) : ∀ (d i : Nat), i + d = xs.length → Evn (fun k => spec_l22Good.l0 k xs (i : Int)) (goodPl xs d i) := by
  intro d
  induction d with
  | zero =>
    intro i h
    refine Evn.step ?_
    have h1 : ¬ (i : Int) < (xs.length : Int) := by omega
    simp only [spec_l22Good.l0, if_neg h1, goodPl]
    exact Evn.done _
  | succ d ih =>
    intro i h
    refine Evn.step ?_
    have h1 : (i : Int) < (xs.length : Int) := by omega
    have h2 : 0 ≤ (i : Int) := by omega
    have hin := sp_l22Good_l1 xs hx i (by omega) _ (ih (i + 1) (by omega)) i 0 (by omega)
    rw [List.drop_zero] at hin
    have hb := getD_all (fun x => x.f1.size ≤ 1152921504606846976) xs i z26 (by omega) hw
    simp only [spec_l22Good.l0, if_pos h1, if_pos h2, rd_T26, Int.toNat_natCast, goodPl]
    refine Evn.bind (sp_l22One _ _ _ _ _ _ hb) ?_
    change Evn _ (okP (xs.getD i z26) && _)
    refine Evn.ite (fun c1 => ?_) (fun c1 => ?_)
    · rw [show okP (xs.getD i z26) = true from c1, Bool.true_and]
      rcases Nat.eq_zero_or_pos i with h0 | h0
      · subst h0
        have h3 : ¬ ((0 : Nat) : Int) > 0 := by omega
        simp only [if_neg h3, decide_true, Bool.true_or, Bool.true_and]
        refine Evn.step ?_
        simp only [spec_l22Good.j1, Bool.false_eq_true, if_false]
        exact hin
      · obtain ⟨j, rfl⟩ : ∃ j, i = j + 1 := ⟨i - 1, by omega⟩
        have h3 : ((j + 1 : Nat) : Int) > 0 := by omega
        have h4 : 0 ≤ (j : Int) := by omega
        have h5 : (j : Int) < (xs.length : Int) := by omega
        simp only [if_pos h3, wrap_pred (show j < 4611686018427387904 by omega), if_pos h4, if_pos h5, Int.toNat_natCast, Nat.add_sub_cancel]
        refine Evn.step ?_
        simp only [spec_l22Good.j1]
        refine Evn.ite (fun c3 => (Evn.done _).eq_ ?_) (fun c3 => hin.eq_ ?_)
        · have e1 : decide ((xs.getD j z26).f0 < (xs.getD (j + 1) z26).f0) = false := decide_eq_false (by have := of_decide_eq_true c3; omega)
          simp only [e1, show decide (j + 1 = 0) = false from by simp, Bool.or_false, Bool.false_and]
        · have e1 : decide ((xs.getD j z26).f0 < (xs.getD (j + 1) z26).f0) = true := decide_eq_true (by have : ¬ _ := fun h => c3 (decide_eq_true h); omega)
          simp only [e1, Bool.or_true, Bool.true_and]
    · rw [show okP (xs.getD i z26) = false from Bool.eq_false_iff.2 c1, Bool.false_and]
      refine Evn.step ?_
      simp only [spec_l22Good.j1, if_true]
      exact Evn.done _
theorem sp_l22Good (xs : List S26) (hx : xs.length ≤ 4194304) (hw : ∀ x ∈ xs, x.f1.size ≤ 1152921504606846976) : Evn (fun k => spec_l22Good.f k xs) (goodPs xs) := sp_l22Good_l0 xs hx hw xs.length 0 (by omega)

/-! The first permit for a cave on a day. -/
theorem idxQ_range (p : S26 → Bool) : ∀ (l : List S26) (i : Int), 0 ≤ i → idxP26 p l i = -1 ∨ (i ≤ idxP26 p l i ∧ idxP26 p l i < i + l.length) := by
  intro l
  induction l with
  | nil => intro i _; exact Or.inl rfl
  | cons x l ih =>
    intro i h
    rw [idxP26, List.length_cons]
    by_cases c : p x = true
    · rw [if_pos c]; right; omega
    · rw [if_neg c]
      rcases ih (i + 1) (by omega) with e | e
      · exact Or.inl e
      · right; omega
theorem idxQ_none (p : S26 → Bool) : ∀ (l : List S26) (i : Int), (∀ x ∈ l, p x = false) → idxP26 p l i = -1 := by
  intro l
  induction l with
  | nil => intro i _; rfl
  | cons x l ih =>
    intro i h
    rw [idxP26, if_neg (by rw [h x (List.mem_cons_self ..)]; decide)]
    exact ih (i + 1) fun y hy => h y (List.mem_cons_of_mem _ hy)
theorem goodPl_all (xs : List S26) : ∀ (d i : Nat), i + d = xs.length → goodPl xs d i = true → ∀ j, i ≤ j → j < xs.length → okP (xs.getD j z26) = true := by
  intro d
  induction d with
  | zero => intro i h _ j h1 h2; omega
  | succ d ih =>
    intro i h hg j h1 h2
    rw [goodPl, Bool.and_eq_true, Bool.and_eq_true, Bool.and_eq_true] at hg
    obtain ⟨g1, g2, g3, g4⟩ := hg
    rcases Nat.eq_or_lt_of_le h1 with e | e
    · subst e; exact g1
    · exact ih (i + 1) (by omega) g4 j (by omega) h2
theorem goodPs_all (xs : List S26) (h : goodPs xs = true) : ∀ x ∈ xs, okP x = true := by
  intro x hx
  obtain ⟨n, hn, he⟩ := List.mem_iff_getElem.1 hx
  have := goodPl_all xs xs.length 0 (by omega) h n (by omega) hn
  rwa [List.getD_eq_getElem?_getD, List.getElem?_eq_getElem hn, Option.getD_some, he] at this
theorem wordB_of_okP {x : S26} (h : okP x = true) : wordB x.f1 = true := by
  unfold okP goodP at h
  rw [Bool.and_eq_true, Bool.and_eq_true] at h
  exact h.2.1
theorem wordB_same {a b : ByteArray} (h : a.toList = b.toList) : wordB a = wordB b := by
  rw [Lib.toList_data, Lib.toList_data] at h
  have hs : a.size = b.size := by
    have := congrArg List.length h
    simpa using this
  unfold wordB
  rw [h, hs]
theorem noWord_none (xs : List S26) (q : ByteArray) (n : Int) (h : goodPs xs = true) (hw : ¬ wordB q = true) : idxP26 (onDay q n) xs 0 = -1 := by
  refine idxQ_none _ _ _ fun x hx => ?_
  have h1 := wordB_of_okP (goodPs_all xs h x hx)
  cases hc : onDay q n x with
  | false => rfl
  | true =>
    unfold onDay at hc
    rw [Bool.and_eq_true, Bool.and_eq_true] at hc
    have := wordB_same (of_decide_eq_true hc.2.1)
    rw [this] at h1
    exact absurd h1 hw

theorem sp_l22On_l0 (xs : List S26) (hx : xs.length ≤ 4194304) (q : ByteArray) (n : Int) : ∀ (d i : Nat), i + d = xs.length → Evn (fun k => spec_l22On.l0 k xs q n (i : Int)) (idxP26 (onDay q n) (xs.drop i) i) := by
  intro d
  induction d with
  | zero =>
    intro i h
    refine Evn.step ?_
    have h1 : ¬ (i : Int) < (xs.length : Int) := by omega
    simp only [spec_l22On.l0, if_neg h1]
    rw [List.drop_eq_nil_of_le (by omega)]
    exact Evn.done _
  | succ d ih =>
    intro i h
    refine Evn.step ?_
    have h1 : (i : Int) < (xs.length : Int) := by omega
    have h2 : 0 ≤ (i : Int) := by omega
    have hih := ih (i + 1) (by omega)
    simp only [spec_l22On.l0, if_pos h1, if_pos h2, sp_l22Holds, sp_l1In, Option.bind_some, wrap_succ (show i < 4611686018427387904 by omega), rd_T26, Int.toNat_natCast]
    rw [getD_drop xs i z26 (by omega), idxP26]
    generalize xs.getD i z26 = x
    have e : onDay q n x = (holdsP x.f5 && (decide (x.f1.toList = q.toList) && decide (x.f2 ≤ n ∧ n ≤ x.f3))) := rfl
    rw [e]
    have hih' : Evn (fun k => spec_l22On.l0 k xs q n ((i + 1 : Nat) : Int)) (idxP26 (onDay q n) (xs.drop (i + 1)) ((i : Int) + 1)) := hih
    refine Evn.ite (fun c1 => ?_) (fun c1 => hih'.eq_ (by rw [Bool.eq_false_iff.mpr c1]; rfl))
    rw [c1, Bool.true_and]
    refine Evn.ite (fun c2 => ?_) (fun c2 => hih'.eq_ (by rw [decide_eq_false c2]; rfl))
    rw [decide_eq_true c2, Bool.true_and]
    exact Evn.ite (fun c3 => (Evn.done _).eq_ (by rw [c3]; rfl)) (fun c3 => hih'.eq_ (by rw [Bool.eq_false_iff.mpr c3]; rfl))
theorem sp_l22On (xs : List S26) (hx : xs.length ≤ 4194304) (q : ByteArray) (n : Int) : Evn (fun k => spec_l22On.f k xs q n) (idxP26 (onDay q n) xs 0) := sp_l22On_l0 xs hx q n xs.length 0 (by omega)

/-! Spans of free days, the last one first. -/
def freeD (xs : List S26) (q : ByteArray) (x : Int) : Bool := decide (idxP26 (onDay q x) xs 0 < 0)
def toL (p : Int × Int) : List Int := [p.1, p.2]
def stepR (x : Int) : List (Int × Int) → List (Int × Int)
  | p :: t => if p.2 = x - 1 then (p.1, x) :: t else (x, x) :: p :: t
  | [] => [(x, x)]
def spR (fr : Int → Bool) : Nat → Int → List (Int × Int) → List (Int × Int)
  | 0, _, rs => rs
  | d + 1, x, rs => spR fr d (x + 1) (if fr x = true then stepR x rs else rs)
def outR (rs : List (Int × Int)) : List (List Int) := (rs.map toL).reverse
theorem outR_cons (p : Int × Int) (t : List (Int × Int)) : outR (p :: t) = outR t ++ [toL p] := by unfold outR; rw [List.map_cons, List.reverse_cons]
theorem outR_len (rs : List (Int × Int)) : (outR rs).length = rs.length := by unfold outR; rw [List.length_reverse, List.length_map]
theorem outR_last (p : Int × Int) (t : List (Int × Int)) : rd_L6 (outR (p :: t)) (t.length : Int) = toL p := by
  rw [outR_cons]
  unfold rd_L6
  rw [Int.toNat_natCast, List.getD_eq_getElem?_getD, List.getElem?_append_right (by rw [outR_len]; omega), outR_len, Nat.sub_self]
  rfl
theorem outR_set (p : Int × Int) (t : List (Int × Int)) (l : List Int) : (outR (p :: t)).set t.length l = outR t ++ [l] := by
  rw [outR_cons, List.set_append_right _ _ (by rw [outR_len]; omega), outR_len, Nat.sub_self]
  rfl
def bdP (p : Int × Int) : Prop := 0 ≤ p.1 ∧ p.1 ≤ p.2 ∧ p.2 ≤ 999
theorem stepR_bd (x : Int) (h0 : 0 ≤ x) (h1 : x ≤ 999) (rs : List (Int × Int)) (h : ∀ p ∈ rs, bdP p) : ∀ p ∈ stepR x rs, bdP p := by
  cases rs with
  | nil => intro p hp; rw [List.mem_singleton.1 hp]; exact ⟨h0, Int.le_refl _, h1⟩
  | cons p0 t =>
    intro p hp
    rw [stepR] at hp
    split at hp
    · rename_i c
      rcases List.mem_cons.1 hp with rfl | hp
      · have := h p0 (List.mem_cons_self ..); exact ⟨this.1, by have := this.2.1; show p0.1 ≤ x; omega, h1⟩
      · exact h p (List.mem_cons_of_mem _ hp)
    · rcases List.mem_cons.1 hp with rfl | hp
      · exact ⟨h0, Int.le_refl _, h1⟩
      · exact h p hp
theorem spR_bd (fr : Int → Bool) : ∀ (d : Nat) (x : Int) (rs : List (Int × Int)), 0 ≤ x → x + d ≤ 1000 → (∀ p ∈ rs, bdP p) → ∀ p ∈ spR fr d x rs, bdP p := by
  intro d
  induction d with
  | zero => intro x rs _ _ h; exact h
  | succ d ih =>
    intro x rs h0 h1 h
    refine ih (x + 1) _ (by omega) (by omega) ?_
    split
    · exact stepR_bd x h0 (by omega) rs h
    · exact h
theorem stepR_len (x : Int) (rs : List (Int × Int)) : (stepR x rs).length ≤ rs.length + 1 := by
  cases rs with
  | nil => simp [stepR]
  | cons p t =>
    rw [stepR]
    split <;> simp
theorem spR_len (fr : Int → Bool) : ∀ (d : Nat) (x : Int) (rs : List (Int × Int)), (spR fr d x rs).length ≤ rs.length + d := by
  intro d
  induction d with
  | zero => intro x rs; exact Nat.le_refl _
  | succ d ih =>
    intro x rs
    rw [spR]
    have h1 := ih (x + 1) (if fr x = true then stepR x rs else rs)
    have h2 : (if fr x = true then stepR x rs else rs).length ≤ rs.length + 1 := by
      split
      · exact stepR_len x rs
      · omega
    omega

def slotR (fr : Int → Bool) (days : Int) : Nat → Int → Int → Int × Bool
  | 0, _, _ => (0, false)
  | d + 1, x, r => if fr x = true then (if r + 1 = days then (x - days + 1, true) else slotR fr days d (x + 1) (r + 1)) else (if 0 = days then (x - days + 1, true) else slotR fr days d (x + 1) 0)
def slotM (xs : List S26) (q : ByteArray) (a days : Int) : Int × Bool := if goodPs xs = true ∧ wordB q = true ∧ (0 ≤ a ∧ a ≤ 999) ∧ (1 ≤ days ∧ days ≤ 100) then slotR (freeD xs q) days (1000 - a).toNat a 0 else (0, false)
theorem sp_FirstSlot_l0 (xs : List S26) (hx : xs.length ≤ 4194304) (q : ByteArray) (days : Int) (hd : 1 ≤ days ∧ days ≤ 100) : ∀ (d : Nat) (x r : Int), x + d = 1000 → 0 ≤ x → 0 ≤ r → r + d ≤ 4000 → Evn (fun k => spec_FirstSlot.l0 k xs q days r x) (slotR (freeD xs q) days d x r) := by
  intro d
  induction d with
  | zero =>
    intro x r h h0 hr hr2
    refine Evn.step ?_
    simp only [spec_FirstSlot.l0, if_neg (show ¬ x ≤ 999 by omega)]
    exact Evn.done _
  | succ d ih =>
    intro x r h h0 hr hr2
    refine Evn.step ?_
    have hw1 : wrap64 (x + 1) = x + 1 := wrap_id (by omega) (by omega)
    have hw2 : wrap64 (r + 1) = r + 1 := wrap_id (by omega) (by omega)
    have hw3 : wrap64 (wrap64 (x - days) + 1) = x - days + 1 := by rw [wrap_id (x := x - days) (by omega) (by omega)]; exact wrap_id (by omega) (by omega)
    simp only [spec_FirstSlot.l0, if_pos (show x ≤ 999 by omega), hw1, hw2, hw3]
    rw [slotR]
    refine Evn.bind (sp_l22On xs hx q x) ?_
    have e : freeD xs q x = decide (idxP26 (onDay q x) xs 0 < 0) := rfl
    rw [e]
    refine Evn.ite (fun c => ?_) (fun c => ?_)
    · rw [if_neg (fun h => absurd (of_decide_eq_true h) (by omega))]
      exact Evn.ite (fun c2 => (Evn.done _).eq_ (by rw [if_pos c2])) (fun c2 => (ih (x + 1) 0 (by omega) (by omega) (by omega) (by omega)).eq_ (by rw [if_neg c2]))
    · rw [if_pos (decide_eq_true (by omega))]
      exact Evn.ite (fun c2 => (Evn.done _).eq_ (by rw [if_pos c2])) (fun c2 => (ih (x + 1) (r + 1) (by omega) (by omega) (by omega) (by omega)).eq_ (by rw [if_neg c2]))
theorem sp_FirstSlot (xs : List S26) (hx : xs.length ≤ 4194304) (hw : ∀ x ∈ xs, x.f1.size ≤ 1152921504606846976) (q : ByteArray) (hq : q.size ≤ 1152921504606846976) (a days : Int) : Evn (fun k => spec_FirstSlot.f k xs q a days) (slotM xs q a days) := by
  unfold spec_FirstSlot.f slotM
  have no : Evn (fun k => spec_FirstSlot.j0 k xs q a days true) (0, false) := by
    refine Evn.step ?_
    simp only [spec_FirstSlot.j0, if_true]
    exact Evn.done _
  refine Evn.bind (sp_l22Good xs hx hw) ?_
  refine Evn.ite (fun c1 => ?_) (fun c1 => no.eq_ (by rw [if_neg (fun h => c1 h.1)]))
  refine Evn.bind (sp_l2Word q hq) ?_
  refine Evn.ite (fun c2 => ?_) (fun c2 => no.eq_ (by rw [if_neg (fun h => c2 h.2.1)]))
  simp only [sp_l22Day, sp_l1In, Option.bind_some]
  refine Evn.ite (fun c3 => ?_) (fun c3 => no.eq_ (by rw [if_neg (fun h => c3 (decide_eq_true h.2.2.1))]))
  have g3 := of_decide_eq_true c3
  by_cases c4 : 1 ≤ days ∧ days ≤ 100
  · rw [if_pos ⟨c1, c2, g3, c4⟩, decide_eq_true c4]
    refine Evn.step ?_
    simp only [spec_FirstSlot.j0, Bool.not_true, Bool.false_eq_true, if_false]
    exact sp_FirstSlot_l0 xs hx q days c4 (1000 - a).toNat a 0 (by omega) g3.1 (by omega) (by omega)
  · rw [if_neg (fun h => c4 h.2.2.2), decide_eq_false c4]
    exact no

theorem im_within (x y z : Int) : impl_within.f x y z = some (decide (y ≤ x ∧ x ≤ z)) := by
  unfold impl_within.f
  by_cases h : x ≥ y <;> simp [h] <;> omega

theorem im_isWord (b : ByteArray) : impl_isWord.f b = some (wordB b) := rfl
theorem im_isId (a : Int) : impl_isId.f a = some (decide (1 ≤ a ∧ a ≤ 99)) := by simp only [impl_isId.f, im_within, Option.bind_some]
theorem im_isDay (a : Int) : impl_isDay.f a = some (decide (0 ≤ a ∧ a ≤ 999)) := by simp only [impl_isDay.f, im_within, Option.bind_some]
theorem im_IsPermit (a : Int) (b : ByteArray) (c d e f : Int) : impl_IsPermit.f a b c d e f = some (goodP a b c d e f) := by
  unfold impl_IsPermit.f goodP
  simp only [im_isId, im_isDay, im_isWord, im_within, Option.bind_some, ite_if]

theorem im_counts (a : Int) (b : ByteArray) (c d e f : Int) : impl_Permit_counts.f a b c d e f = some (holdsP f) := by
  unfold impl_Permit_counts.f holdsP
  by_cases h : f = 1 <;> simp [h]
theorem im_conflict (a b : S26) : impl_conflict.f a.f0 a.f1 a.f2 a.f3 a.f4 a.f5 b.f0 b.f1 b.f2 b.f3 b.f4 b.f5 = some (confP a b) := by
  unfold impl_conflict.f confP
  simp only [im_counts, Option.bind_some]
  by_cases h1 : a.f1.toList = b.f1.toList <;> by_cases h2 : a.f2 ≤ b.f3 <;> by_cases h3 : b.f2 ≤ a.f3 <;> cases holdsP a.f5 <;> cases holdsP b.f5 <;> simp [h1, h2, h3]
theorem im_xConflicts (ys : List S26) (a : S26) : impl_xConflicts.f ys a.f0 a.f1 a.f2 a.f3 a.f4 a.f5 = some (ys.any fun y => confP y a) := by
  unfold impl_xConflicts.f
  congr 2
  funext x
  rw [im_conflict, confP_comm a x]
  cases confP x a <;> rfl
theorem im_ArePermits_l0 (xs : List S26) (hx : xs.length ≤ 4194304) : ∀ (d i : Nat), i + d = xs.length → Evn (fun k => impl_ArePermits.l0 k xs xs (xs.length : Int) (i : Int)) (goodPl xs d i) := by
  intro d
  induction d with
  | zero =>
    intro i h
    refine Evn.step ?_
    have h1 : ¬ (i : Int) < (xs.length : Int) := by omega
    simp only [impl_ArePermits.l0, if_neg h1, goodPl]
    exact Evn.done _
  | succ d ih =>
    intro i h
    refine Evn.step ?_
    have h1 : (i : Int) < (xs.length : Int) := by omega
    have h2 : 0 ≤ (i : Int) := by omega
    have h6 : (i : Int) ≤ (xs.length : Int) := by omega
    have hih := ih (i + 1) (by omega)
    simp only [impl_ArePermits.l0, if_pos h1, if_pos h2, if_pos h6, im_IsPermit, im_xConflicts, Option.bind_some, wrap_succ (show i < 4611686018427387904 by omega), rd_T26, Int.toNat_natCast, goodPl]
    change Evn _ (okP (xs.getD i z26) && _)
    have fin : Evn (fun k => if ((xs.take i).any fun y => confP y (xs.getD i z26)) = true then some false else impl_ArePermits.l0 k xs xs (xs.length : Int) ((i + 1 : Nat) : Int)) (!((xs.take i).any fun y => confP y (xs.getD i z26)) && goodPl xs d (i + 1)) :=
      Evn.ite (fun c => (Evn.done _).eq_ (by rw [c]; rfl)) (fun c => hih.eq_ (by rw [Bool.eq_false_iff.mpr c]; rfl))
    refine Evn.ite (fun c1 => ?_) (fun c1 => ?_)
    · rw [show okP (xs.getD i z26) = true from c1, Bool.true_and]
      rcases Nat.eq_zero_or_pos i with h0 | h0
      · subst h0
        have h3 : ¬ ((0 : Nat) : Int) > 0 := by omega
        simp only [if_neg h3, decide_true, Bool.true_or, Bool.true_and]
        exact fin
      · obtain ⟨j, rfl⟩ : ∃ j, i = j + 1 := ⟨i - 1, by omega⟩
        have h3 : ((j + 1 : Nat) : Int) > 0 := by omega
        have h4 : 0 ≤ (j : Int) := by omega
        have h5 : (j : Int) < (xs.length : Int) := by omega
        simp only [if_pos h3, wrap_pred (show j < 4611686018427387904 by omega), if_pos h4, if_pos h5, Int.toNat_natCast, Nat.add_sub_cancel]
        refine Evn.ite (fun c3 => (Evn.done _).eq_ ?_) (fun c3 => fin.eq_ ?_)
        · have e1 : decide ((xs.getD j z26).f0 < (xs.getD (j + 1) z26).f0) = false := decide_eq_false (by omega)
          simp only [e1, show decide (j + 1 = 0) = false from by simp, Bool.or_false, Bool.false_and]
        · have e1 : decide ((xs.getD j z26).f0 < (xs.getD (j + 1) z26).f0) = true := decide_eq_true (by omega)
          simp only [e1, Bool.or_true, Bool.true_and]
    · rw [show okP (xs.getD i z26) = false from Bool.eq_false_iff.2 c1, Bool.false_and]
      exact Evn.done _
theorem im_ArePermits (xs : List S26) (hx : xs.length ≤ 4194304) : Evn (fun k => impl_ArePermits.f k xs) (goodPs xs) := im_ArePermits_l0 xs hx xs.length 0 (by omega)

theorem im_spans_l0 (xs : List S26) (q : ByteArray) (tt : Int) (hto : tt ≤ 999) : ∀ (d : Nat) (x : Int) (rs : List (Int × Int)), x + d = tt + 1 → 0 ≤ x → rs.length + d ≤ 1048576 → Evn (fun k => impl_spans.l0 k tt xs q (outR rs) x) (outR (spR (freeD xs q) d x rs)) := by
  intro d
  induction d with
  | zero =>
    intro x rs h h0 hl
    refine Evn.step ?_
    have h1 : ¬ x ≤ tt := by omega
    simp only [impl_spans.l0, if_neg h1]
    exact Evn.done _
  | succ d ih =>
    intro x rs h h0 hl
    refine Evn.step ?_
    have h1 : x ≤ tt := by omega
    have hw1 : wrap64 (x + 1) = x + 1 := wrap_id (by omega) (by omega)
    have hw2 : wrap64 (x - 1) = x - 1 := wrap_id (by omega) (by omega)
    have e : impl_xFree.f xs q x = some (freeD xs q x) := rfl
    simp only [impl_spans.l0, if_pos h1, e, Option.bind_some, hw1, hw2]
    rw [spR]
    refine Evn.ite (fun c => ?_) (fun c => by rw [if_neg c]; exact ih (x + 1) rs (by omega) (by omega) (by omega))
    rw [if_pos c]
    have push : Evn (fun k => if (outR rs).length < 5864062014805 then impl_spans.l0 k tt xs q (outR rs ++ [[x, x]]) (x + 1) else none) (outR (spR (freeD xs q) d (x + 1) ((x, x) :: rs))) := by
      refine Evn.ite (fun _ => ?_) (fun hn => absurd (by rw [outR_len]; omega) hn)
      have := ih (x + 1) ((x, x) :: rs) (by omega) (by omega) (by rw [List.length_cons]; omega)
      rw [outR_cons] at this
      exact this
    cases rs with
    | nil =>
      have hw : wrap64 (((outR []).length : Int) - 1) = -1 := (wrap_id (x := (0 : Int) - 1) (by omega) (by omega)).trans (by omega)
      simp only [hw, if_neg (show ¬ (-1 : Int) ≥ 0 by omega)]
      exact push
    | cons p t =>
      have hlen : ((outR (p :: t)).length : Int) = (t.length : Int) + 1 := by rw [outR_len, List.length_cons]; rfl
      have ht : t.length + 1 + (d + 1) ≤ 1048576 := by rw [List.length_cons] at hl; omega
      have hw : wrap64 (((outR (p :: t)).length : Int) - 1) = (t.length : Int) := by rw [hlen, wrap_id (by omega) (by omega)]; omega
      have hr1 : rd (toL p) 1 = p.2 := rfl
      have hl1 : 1 < ((toL p).length : Int) := by show (1 : Int) < 2; omega
      have hs : (toL p).set (1 : Int).toNat x = toL (p.1, x) := rfl
      simp only [hw, if_pos (show (t.length : Int) ≥ 0 by omega), if_pos (show (0 : Int) ≤ (t.length : Int) by omega), if_pos (show (t.length : Int) < ((outR (p :: t)).length : Int) by omega), outR_last, if_pos hl1, hr1, hs, Int.toNat_natCast, outR_set]
      rw [stepR]
      refine Evn.ite (fun c2 => ?_) (fun c2 => by rw [if_neg c2]; exact push)
      rw [if_pos c2]
      have := ih (x + 1) ((p.1, x) :: t) (by omega) (by omega) (by rw [List.length_cons]; omega)
      rw [outR_cons] at this
      exact this
theorem im_spans (xs : List S26) (q : ByteArray) (a tt : Int) (h0 : 0 ≤ a) (h1 : a ≤ tt) (hto : tt ≤ 999) : Evn (fun k => impl_spans.f k a tt xs q) (outR (spR (freeD xs q) (tt + 1 - a).toNat a [])) := im_spans_l0 xs q tt hto (tt + 1 - a).toNat a [] (by omega) h0 (by simp; omega)
def freeM (xs : List S26) (q : ByteArray) (a tt : Int) : List (List Int) × Bool := if goodPs xs = true ∧ wordB q = true ∧ (0 ≤ a ∧ a ≤ 999) ∧ (a ≤ tt ∧ tt ≤ 999) then (outR (spR (freeD xs q) (tt + 1 - a).toNat a []), true) else ([], false)
theorem im_FreeDays (xs : List S26) (hx : xs.length ≤ 4194304) (q : ByteArray) (a tt : Int) : Evn (fun k => impl_FreeDays.f k xs q a tt) (freeM xs q a tt) := by
  unfold impl_FreeDays.f freeM
  refine Evn.bind (im_ArePermits xs hx) ?_
  refine Evn.ite (fun c1 => ?_) (fun c1 => (Evn.done _).eq_ (by rw [if_neg (fun h => c1 h.1)]))
  simp only [im_isWord, im_isDay, im_within, Option.bind_some]
  refine Evn.ite (fun c2 => ?_) (fun c2 => (Evn.done _).eq_ (by rw [if_neg (fun h => c2 h.2.1)]))
  refine Evn.ite (fun c3 => ?_) (fun c3 => (Evn.done _).eq_ (by rw [if_neg (fun h => c3 (decide_eq_true h.2.2.1))]))
  refine Evn.ite (fun c4 => ?_) (fun c4 => (Evn.done _).eq_ (by rw [if_neg (fun h => c4 (decide_eq_true h.2.2.2))]))
  have g3 := of_decide_eq_true c3
  have g4 := of_decide_eq_true c4
  rw [if_pos ⟨c1, c2, g3, g4⟩]
  exact Evn.bind (im_spans xs q a tt g3.1 g4.1 g4.2) (Evn.done _)

/-! The first span that is long enough is where the run of free days first is. -/
def longP (days : Int) (p : Int × Int) : Bool := decide (days ≤ p.2 - p.1 + 1)
def firstL (days : Int) (o : List (Int × Int)) : Int × Bool := match o.find? (longP days) with
  | some p => (p.1, true)
  | none => (0, false)
theorem im_FirstSlot_l0 (days : Int) (o : List (Int × Int)) (ho : o.length ≤ 4194304) (hb : ∀ p ∈ o, bdP p) : ∀ (d i : Nat), i + d = o.length → Evn (fun k => impl_FirstSlot.l0 k days (o.map toL) ((o.map toL).length : Int) (i : Int)) (firstL days (o.drop i)) := by
  intro d
  induction d with
  | zero =>
    intro i h
    refine Evn.step ?_
    have h1 : ¬ (i : Int) < ((o.map toL).length : Int) := by rw [List.length_map]; omega
    simp only [impl_FirstSlot.l0, if_neg h1]
    rw [List.drop_eq_nil_of_le (by omega)]
    exact Evn.done _
  | succ d ih =>
    intro i h
    refine Evn.step ?_
    have h1 : (i : Int) < ((o.map toL).length : Int) := by rw [List.length_map]; omega
    have h2 : 0 ≤ (i : Int) := by omega
    have hi : i < o.length := by omega
    have hp := hb _ (List.getElem_mem hi)
    have e : rd_L6 (o.map toL) (i : Int) = toL o[i] := by
      unfold rd_L6
      rw [Int.toNat_natCast, List.getD_eq_getElem?_getD, List.getElem?_map, List.getElem?_eq_getElem hi]
      rfl
    rw [List.drop_eq_getElem_cons hi]
    generalize o[i] = p at hp e
    have hr0 : rd (toL p) 0 = p.1 := rfl
    have hr1 : rd (toL p) 1 = p.2 := rfl
    have hl0 : 0 < ((toL p).length : Int) := by show (0 : Int) < 2; omega
    have hl1 : 1 < ((toL p).length : Int) := by show (1 : Int) < 2; omega
    obtain ⟨b1, b2, b3⟩ := hp
    have hw : wrap64 (wrap64 (p.2 - p.1) + 1) = p.2 - p.1 + 1 := by rw [wrap_id (x := p.2 - p.1) (by omega) (by omega)]; exact wrap_id (by omega) (by omega)
    simp only [impl_FirstSlot.l0, if_pos h1, if_pos h2, e, if_pos hl0, if_pos hl1, hr0, hr1, hw, wrap_succ (show i < 4611686018427387904 by omega)]
    unfold firstL
    rw [List.find?_cons]
    refine Evn.ite (fun c => (Evn.done _).eq_ (by rw [show longP days p = true from decide_eq_true (by omega)])) (fun c => ?_)
    rw [show longP days p = false from decide_eq_false (by omega)]
    exact ih (i + 1) (by omega)
def fst? (days : Int) (rs : List (Int × Int)) : Option Int := (rs.reverse.find? (longP days)).map (·.1)
theorem fst_cons (days : Int) (p : Int × Int) (t : List (Int × Int)) : fst? days (p :: t) = (fst? days t).or (if longP days p = true then some p.1 else none) := by
  unfold fst?
  rw [List.reverse_cons, List.find?_append]
  cases t.reverse.find? (longP days) with
  | some y => rfl
  | none =>
    show (([p].find? (longP days)).map (·.1)) = _
    rw [List.find?_cons]
    cases longP days p <;> rfl
theorem fst_step (days x lo : Int) (rs : List (Int × Int)) (h : fst? days rs = some lo) : fst? days (stepR x rs) = some lo := by
  cases rs with
  | nil => cases h
  | cons p t =>
    rw [stepR]
    split
    · rename_i c
      rw [fst_cons] at h ⊢
      cases ht : fst? days t with
      | some y => rw [ht] at h; exact h
      | none =>
        rw [ht] at h
        change (if longP days p = true then some p.1 else none) = some lo at h
        show (if longP days (p.1, x) = true then some p.1 else none) = some lo
        split at h
        · rename_i hl
          rw [if_pos (show longP days (p.1, x) = true from decide_eq_true (by have := of_decide_eq_true hl; show days ≤ x - p.1 + 1; omega))]
          exact h
        · cases h
    · rw [fst_cons, h]; rfl
theorem fst_spR (fr : Int → Bool) (days lo : Int) : ∀ (d : Nat) (x : Int) (rs : List (Int × Int)), fst? days rs = some lo → fst? days (spR fr d x rs) = some lo := by
  intro d
  induction d with
  | zero => intro x rs h; exact h
  | succ d ih =>
    intro x rs h
    refine ih (x + 1) _ ?_
    split
    · exact fst_step days x lo rs h
    · exact h
theorem fst_none (days : Int) (rs : List (Int × Int)) (h : ∀ p ∈ rs, p.2 - p.1 + 1 < days) : fst? days rs = none := by
  induction rs with
  | nil => rfl
  | cons p t ih =>
    rw [fst_cons, ih (fun q hq => h q (List.mem_cons_of_mem _ hq))]
    have := h p (List.mem_cons_self ..)
    rw [show longP days p = false from decide_eq_false (by omega)]
    rfl
theorem firstL_of (days : Int) (rs : List (Int × Int)) : firstL days rs.reverse = match fst? days rs with
    | some lo => (lo, true)
    | none => (0, false) := by
  unfold firstL fst?
  cases rs.reverse.find? (longP days) <;> rfl
theorem slot_eq (fr : Int → Bool) (days : Int) (hd : 1 ≤ days) : ∀ (d : Nat) (x r : Int) (rs : List (Int × Int)), 0 ≤ r → r < days → (∀ p ∈ rs, p.2 - p.1 + 1 < days) → (∀ p ∈ rs, p.2 < x) → (r = 0 → ∀ p t, rs = p :: t → p.2 ≠ x - 1) → (0 < r → ∃ t, rs = (x - r, x - 1) :: t) → firstL days (spR fr d x rs).reverse = slotR fr days d x r := by
  intro d
  induction d with
  | zero =>
    intro x r rs h0 h1 hs hl hz hp
    rw [spR, firstL_of, fst_none days rs hs]
    rfl
  | succ d ih =>
    intro x r rs h0 h1 hs hl hz hp
    rw [spR, slotR]
    by_cases c : fr x = true
    · rw [if_pos c, if_pos c]
      rcases Int.lt_or_eq_of_le h0 with hr | hr
      · obtain ⟨t, rfl⟩ := hp hr
        have e : stepR x ((x - r, x - 1) :: t) = (x - r, x) :: t := by rw [stepR, if_pos rfl]
        rw [e]
        by_cases c2 : r + 1 = days
        · rw [if_pos c2]
          have : fst? days ((x - r, x) :: t) = some (x - r) := by
            rw [fst_cons, fst_none days t (fun q hq => hs q (List.mem_cons_of_mem _ hq)), if_pos (show longP days (x - r, x) = true from decide_eq_true (by show days ≤ x - (x - r) + 1; omega))]
            rfl
          rw [firstL_of, fst_spR fr days _ d (x + 1) _ this]
          show (x - r, true) = _
          rw [show x - r = x - days + 1 by omega]
        · rw [if_neg c2]
          refine ih (x + 1) (r + 1) _ (by omega) (by omega) (fun q hq => ?_) (fun q hq => ?_) (fun h => by omega) (fun _ => ⟨t, by rw [show x + 1 - (r + 1) = x - r by omega, show x + 1 - 1 = x by omega]⟩)
          · rcases List.mem_cons.1 hq with rfl | hq
            · show x - (x - r) + 1 < days; omega
            · exact hs q (List.mem_cons_of_mem _ hq)
          · rcases List.mem_cons.1 hq with rfl | hq
            · show x < x + 1; omega
            · have := hl q (List.mem_cons_of_mem _ hq); omega
      · have hr' : r = 0 := hr.symm
        subst hr'
        have e : stepR x rs = (x, x) :: rs := by
          cases rs with
          | nil => rfl
          | cons p t => rw [stepR, if_neg (hz rfl p t rfl)]
        rw [e]
        by_cases c2 : (0 : Int) + 1 = days
        · rw [if_pos c2]
          have : fst? days ((x, x) :: rs) = some x := by
            rw [fst_cons, fst_none days rs hs, if_pos (show longP days (x, x) = true from decide_eq_true (by show days ≤ x - x + 1; omega))]
            rfl
          rw [firstL_of, fst_spR fr days _ d (x + 1) _ this]
          show (x, true) = _
          rw [show x - days + 1 = x by omega]
        · rw [if_neg c2]
          refine ih (x + 1) (0 + 1) _ (by omega) (by omega) (fun q hq => ?_) (fun q hq => ?_) (fun h => by omega) (fun _ => ⟨rs, by rw [show x + 1 - (0 + 1) = x by omega, show x + 1 - 1 = x by omega]⟩)
          · rcases List.mem_cons.1 hq with rfl | hq
            · show x - x + 1 < days; omega
            · exact hs q hq
          · rcases List.mem_cons.1 hq with rfl | hq
            · show x < x + 1; omega
            · have := hl q hq; omega
    · rw [if_neg c, if_neg c, if_neg (show ¬ (0 : Int) = days by omega)]
      refine ih (x + 1) 0 rs (by omega) (by omega) hs (fun q hq => by have := hl q hq; omega) (fun _ p t h => ?_) (fun h => by omega)
      have := hl p (by rw [h]; exact List.mem_cons_self ..)
      omega
theorem im_FirstSlot (xs : List S26) (hx : xs.length ≤ 4194304) (q : ByteArray) (a days : Int) : Evn (fun k => impl_FirstSlot.f k xs q a days) (slotM xs q a days) := by
  unfold impl_FirstSlot.f
  refine Evn.bind (im_FreeDays xs hx q a 999) ?_
  have no : ∀ o, Evn (fun k => impl_FirstSlot.j0 k days o true) (0, false) := fun o => by
    refine Evn.step ?_
    simp only [impl_FirstSlot.j0, if_true]
    exact Evn.done _
  unfold freeM slotM
  by_cases c : goodPs xs = true ∧ wordB q = true ∧ (0 ≤ a ∧ a ≤ 999)
  · rw [if_pos (show goodPs xs = true ∧ wordB q = true ∧ (0 ≤ a ∧ a ≤ 999) ∧ (a ≤ (999 : Int) ∧ (999 : Int) ≤ 999) from ⟨c.1, c.2.1, c.2.2, c.2.2.2, by omega⟩)]
    simp only [if_true, im_within, Option.bind_some]
    by_cases c4 : 1 ≤ days ∧ days ≤ 100
    · rw [if_pos ⟨c.1, c.2.1, c.2.2, c4⟩, decide_eq_true c4]
      refine Evn.step ?_
      simp only [impl_FirstSlot.j0, Bool.not_true, Bool.false_eq_true, if_false]
      have hb := spR_bd (freeD xs q) (999 + 1 - a).toNat a [] c.2.2.1 (by omega) (fun p hp => by cases hp)
      have hl := spR_len (freeD xs q) (999 + 1 - a).toNat a []
      have he := slot_eq (freeD xs q) days c4.1 (999 + 1 - a).toNat a 0 [] (by omega) (by omega) (fun p hp => by cases hp) (fun p hp => by cases hp) (fun _ p t h => by cases h) (fun h => by omega)
      rw [show (1000 - a).toNat = (999 + 1 - a).toNat by omega, ← he]
      generalize spR (freeD xs q) (999 + 1 - a).toNat a [] = rs at hb hl
      have ho : outR rs = rs.reverse.map toL := by unfold outR; rw [List.map_reverse]
      rw [ho]
      have := im_FirstSlot_l0 days rs.reverse (by rw [List.length_reverse]; rw [List.length_nil] at hl; omega) (fun p hp => hb p (List.mem_reverse.1 hp)) rs.reverse.length 0 (by omega)
      rw [List.drop_zero] at this
      exact this
    · rw [if_neg (fun h => c4 h.2.2.2), decide_eq_false c4]
      exact no _
  · rw [if_neg (fun h => c ⟨h.1, h.2.1, h.2.2.1⟩), if_neg (fun h => c ⟨h.1, h.2.1, h.2.2.1⟩)]
    simp only [Bool.false_eq_true, if_false]
    exact no _

theorem FnExactFirstSlot : ∀ (l0 : List (S23)) (a1 : ByteArray) (a2 : Int) (a3 : Int), l0.length ≤ maxLen → (∀ x ∈ l0, (Lit.int .i64 x.f0).wf = true ∧ x.f1.size ≤ maxLen ∧ (Lit.int .i64 x.f2).wf = true ∧ (Lit.int .i64 x.f3).wf = true ∧ (Lit.int .i64 x.f4).wf = true ∧ (Lit.int .i64 x.f5).wf = true) → a1.size ≤ 140737488351232 → (Lit.int .i64 a2).wf = true → (Lit.int .i64 a3).wf = true → ∃ k, laws_FnExactFirstSlot.f k l0 a1 a2 a3 = some true := by
  intro l q n m hl hw hq _ _
  apply Evn.get
  obtain ⟨r, hr, hn⟩ := ev_szPermitS l hl (fun x hx => (hw x hx).2.1)
  simp only [laws_FnExactFirstSlot.f]
  refine Evn.ite (fun _ => Evn.done _) (fun _ => ?_)
  refine Evn.bind hr ?_
  refine Evn.ite (fun _ => Evn.done _) (fun h => ?_)
  obtain ⟨hx, hs⟩ := hn h
  have hx' : (l.map convPermit).length ≤ 4194304 := by rw [List.length_map]; omega
  have hw' : ∀ x ∈ l.map convPermit, x.f1.size ≤ 1152921504606846976 := by
    intro x hx
    obtain ⟨y, hy, rfl⟩ := List.mem_map.1 hx
    have := hs y hy
    show y.f1.size ≤ _
    omega
  refine Evn.bind (ev_toPermitS l hx) ?_
  refine Evn.bind (sp_FirstSlot _ hx' hw' q (by omega) n m) ?_
  refine Evn.bind (ev_toPermitS l hx) ?_
  refine Evn.bind (im_FirstSlot _ hx' q n m) ?_
  simp only [if_true, bne_self_eq_false]
  refine Evn.step ?_
  simp only [laws_FnExactFirstSlot.j0, Bool.false_eq_true, if_false]
  refine Evn.bind (ev_toPermitS l hx) ?_
  refine Evn.bind (ev_eqPermitS _ (by omega)) ?_
  simp only [if_true]
  exact Evn.done _

end Go.Proofs.YtgeioccfjgpijaaDoor.Pure
