/- The plain statement of FnPermits: its plain function returns true at every input. No condition beyond the arguments' own bounds. -/
import Derived.Test.YtgeioccfjgpijaaDoorQFnPermitsx13
import Derived.Test.YtgeioccfjgpijaaDoorVPAid
namespace Go.Proofs.YtgeioccfjgpijaaDoor.Pure
open Go.RowKit Go.Proofs.YtgeioccfjgpijaaDoorW.PrintWords Go.Proofs.YtgeioccfjgpijaaDoorW.PrintLast Go.Proofs.YtgeioccfjgpijaaDoor.Aid Go.Proofs.YtgeioccfjgpijaaDoor.QFnPermits
set_option linter.unusedVariables false
set_option linter.unusedSimpArgs false

theorem sp_l1In (x y z : Int) : spec_l1In.f x y z = some (decide (y ≤ x ∧ x ≤ z)) := by
  unfold spec_l1In.f
  by_cases h : x ≥ y <;> simp [h] <;> omega

/-! A permit's rules. -/
def wordB (s : ByteArray) : Bool := decide (1 ≤ s.size) && (decide (s.size ≤ 10) && s.data.toList.all (fun b => decide (97 ≤ b.toNat ∧ b.toNat ≤ 122)))
def goodP (a : Int) (b : ByteArray) (c d e f : Int) : Bool := decide (1 ≤ a ∧ a ≤ 99) && (wordB b && (decide (0 ≤ c ∧ c ≤ 999) && (decide (c ≤ d ∧ d ≤ 999) && (decide (1 ≤ e ∧ e ≤ 12) && decide (0 ≤ f ∧ f ≤ 4)))))
theorem ite_if (b c : Bool) : (if b = true then some c else some false) = some (b && c) := by cases b <;> rfl

theorem bt_at (s : ByteArray) (i : Nat) (h : i < s.data.toList.length) : bt s (i : Int) = ((s.data.toList[i]).toNat : Int) := by
  have h2 : i < s.size := by simpa using h
  unfold bt
  rw [Int.toNat_natCast, dif_pos h2]
  rfl
theorem sp_l2Word_l0 (s : ByteArray) (hs : s.size ≤ 1152921504606846976) : ∀ (d i : Nat), i + d = s.size → Evn (fun k => spec_l2Word.l0 k s (i : Int)) ((s.data.toList.drop i).all (fun b => decide (97 ≤ b.toNat ∧ b.toNat ≤ 122)) && decide (1 ≤ (s.size : Int) ∧ (s.size : Int) ≤ 10)) := by
  have hl : s.data.toList.length = s.size := by simp
  intro d
  induction d with
  | zero =>
    intro i h
    refine Evn.step ?_
    have h1 : ¬ (i : Int) < (s.size : Int) := by omega
    simp only [spec_l2Word.l0, if_neg h1, sp_l1In, Option.bind_some]
    rw [List.drop_eq_nil_of_le (by omega)]
    exact Evn.done _
  | succ d ih =>
    intro i h
    refine Evn.step ?_
    have h1 : (i : Int) < (s.size : Int) := by omega
    have h2 : 0 ≤ (i : Int) := by omega
    have hb := bt_at s i (by omega)
    simp only [spec_l2Word.l0, if_pos h1, if_pos h2, hb, wrap_succ (show i < 4611686018427387904 by omega)]
    rw [List.drop_eq_getElem_cons (by omega), List.all_cons]
    generalize s.data.toList[i] = x
    refine Evn.ite (fun h3 => ?_) (fun h3 => Evn.ite (fun h4 => ?_) (fun h4 => ?_))
    · rw [show decide (97 ≤ x.toNat ∧ x.toNat ≤ 122) = false from decide_eq_false (by omega)]
      exact Evn.done _
    · rw [show decide (97 ≤ x.toNat ∧ x.toNat ≤ 122) = false from decide_eq_false (by omega)]
      exact Evn.done _
    · rw [show decide (97 ≤ x.toNat ∧ x.toNat ≤ 122) = true from decide_eq_true (by omega), Bool.true_and]
      exact ih (i + 1) (by omega)
theorem sp_l2Word (s : ByteArray) (hs : s.size ≤ 1152921504606846976) : Evn (fun k => spec_l2Word.f k s) (wordB s) := by
  refine (sp_l2Word_l0 s hs s.size 0 (by omega)).eq_ ?_
  unfold wordB
  rw [List.drop_zero]
  generalize s.data.toList.all _ = t
  by_cases h1 : 1 ≤ s.size <;> by_cases h2 : s.size ≤ 10 <;> cases t <;> simp [h1, h2] <;> omega

theorem sp_l22Day (a : Int) : spec_l22Day.f a = some (decide (0 ≤ a ∧ a ≤ 999)) := by simp only [spec_l22Day.f, sp_l1In, Option.bind_some]
theorem sp_l22One (a : Int) (b : ByteArray) (c d e f : Int) (hb : b.size ≤ 1152921504606846976) : Evn (fun k => spec_l22One.f k a b c d e f) (goodP a b c d e f) := by
  unfold spec_l22One.f goodP
  simp only [sp_l22Day, sp_l1In, Option.bind_some, ite_if]
  by_cases h : 1 ≤ a ∧ a ≤ 99
  · simp only [decide_eq_true h, if_true, Bool.true_and]
    refine Evn.bind (sp_l2Word b hb) ?_
    exact Evn.done _
  · simp only [decide_eq_false h, Bool.false_and, Bool.false_eq_true, if_false]
    exact Evn.done _

/-! A list of permits' rules. -/
def okP (x : S26) : Bool := goodP x.f0 x.f1 x.f2 x.f3 x.f4 x.f5
def holdsP (s : Int) : Bool := s == 1 || s == 3
def confP (a b : S26) : Bool := (holdsP a.f5 && holdsP b.f5) && (decide (a.f1.toList = b.f1.toList) && (decide (a.f2 ≤ b.f3) && decide (b.f2 ≤ a.f3)))
theorem confP_comm (a b : S26) : confP a b = confP b a := by
  unfold confP
  rw [Bool.and_comm (holdsP a.f5), show decide (a.f1.toList = b.f1.toList) = decide (b.f1.toList = a.f1.toList) from decide_eq_decide.2 eq_comm, Bool.and_comm (decide (a.f2 ≤ b.f3))]
def goodPl (xs : List S26) : Nat → Nat → Bool
  | 0, _ => decide ((xs.length : Int) ≤ 10)
  | d + 1, i => okP (xs.getD i z26) && ((decide (i = 0) || decide ((xs.getD (i - 1) z26).f0 < (xs.getD i z26).f0)) && (!((xs.take i).any fun y => confP y (xs.getD i z26)) && goodPl xs d (i + 1)))
def goodPs (xs : List S26) : Bool := goodPl xs xs.length 0
theorem getD_all {α : Type} (p : α → Prop) (xs : List α) (i : Nat) (z : α) (h : i < xs.length) (hp : ∀ x ∈ xs, p x) : p (xs.getD i z) := by
  rw [List.getD_eq_getElem?_getD, List.getElem?_eq_getElem h]
  exact hp _ (List.getElem_mem h)

theorem sp_l22Holds (a : Int) (b : ByteArray) (c d e f : Int) : spec_l22Holds.f a b c d e f = some (holdsP f) := by
  unfold spec_l22Holds.f holdsP
  by_cases h : f = 1 <;> simp [h]
theorem sp_l22Conflict (a b : S26) : spec_l22Conflict.f a.f0 a.f1 a.f2 a.f3 a.f4 a.f5 b.f0 b.f1 b.f2 b.f3 b.f4 b.f5 = some (confP a b) := by
  unfold spec_l22Conflict.f confP
  simp only [sp_l22Holds, Option.bind_some]
  by_cases h1 : a.f1.toList = b.f1.toList <;> by_cases h2 : a.f2 ≤ b.f3 <;> by_cases h3 : b.f2 ≤ a.f3 <;> cases holdsP a.f5 <;> cases holdsP b.f5 <;> simp [h1, h2, h3]
theorem sp_l22Good_l1 (xs : List S26) (hx : xs.length ≤ 4194304) (i : Nat) (hi : i < xs.length) (R : Bool) (hR : Evn (fun k => spec_l22Good.l0 k xs ((i + 1 : Nat) : Int)) R) : ∀ (d m : Nat), m + d = i → Evn (fun k => spec_l22Good.l1 k xs (i : Int) (m : Int)) (!(((xs.take i).drop m).any fun y => confP y (xs.getD i z26)) && R) := by
  intro d
  induction d with
  | zero =>
    intro m h
    refine Evn.step ?_
    have h1 : ¬ (m : Int) < (i : Int) := by omega
    simp only [spec_l22Good.l1, if_neg h1, wrap_succ (show i < 4611686018427387904 by omega)]
    rw [List.drop_eq_nil_of_le (by rw [List.length_take]; omega)]
    exact hR
  | succ d ih =>
    intro m h
    refine Evn.step ?_
    have h1 : (m : Int) < (i : Int) := by omega
    have h2 : 0 ≤ (m : Int) := by omega
    have h3 : (m : Int) < (xs.length : Int) := by omega
    have h4 : 0 ≤ (i : Int) := by omega
    have h5 : (i : Int) < (xs.length : Int) := by omega
    simp only [spec_l22Good.l1, if_pos h1, if_pos h2, if_pos h3, if_pos h4, if_pos h5, sp_l22Conflict, Option.bind_some, wrap_succ (show m < 4611686018427387904 by omega), rd_T26, Int.toNat_natCast]
    rw [getD_drop (xs.take i) m z26 (by rw [List.length_take]; omega), List.any_cons]
    have e : (xs.take i).getD m z26 = xs.getD m z26 := by
      rw [List.getD_eq_getElem?_getD, List.getD_eq_getElem?_getD, List.getElem?_take_of_lt (by omega)]
    rw [e]
    exact Evn.ite (fun c => (Evn.done _).eq_ (by rw [c]; simp)) (fun c => (ih (m + 1) (by omega)).eq_ (by rw [Bool.eq_false_iff.mpr c]; simp))
theorem sp_l22Good_l0 (xs : List S26) (hx : xs.length ≤ 4194304) (hw : ∀ x ∈ xs, x.f1.size ≤ 1152921504606846976) : ∀ (d i : Nat), i + d = xs.length → Evn (fun k => spec_l22Good.l0 k xs (i : Int)) (goodPl xs d i) := by
  intro d
  induction d with
  | zero =>
    intro i h
    refine Evn.step ?_
    have h1 : ¬ (i : Int) < (xs.length : Int) := by omega
    simp only [spec_l22Good.l0, if_neg h1, goodPl]
    exact Evn.done _
  | succ d ih =>
    intro i h
    refine Evn.step ?_
    have h1 : (i : Int) < (xs.length : Int) := by omega
    have h2 : 0 ≤ (i : Int) := by omega
    have hin := sp_l22Good_l1 xs hx i (by omega) _ (ih (i + 1) (by omega)) i 0 (by omega)
    rw [List.drop_zero] at hin
    have hb := getD_all (fun x => x.f1.size ≤ 1152921504606846976) xs i z26 (by omega) hw
    simp only [spec_l22Good.l0, if_pos h1, if_pos h2, rd_T26, Int.toNat_natCast, goodPl]
    refine Evn.bind (sp_l22One _ _ _ _ _ _ hb) ?_
    change Evn _ (okP (xs.getD i z26) && _)
    refine Evn.ite (fun c1 => ?_) (fun c1 => ?_)
    · rw [show okP (xs.getD i z26) = true from c1, Bool.true_and]
      rcases Nat.eq_zero_or_pos i with h0 | h0
      · subst h0
        have h3 : ¬ ((0 : Nat) : Int) > 0 := by omega
        simp only [if_neg h3, decide_true, Bool.true_or, Bool.true_and]
        refine Evn.step ?_
        simp only [spec_l22Good.j1, Bool.false_eq_true, if_false]
        exact hin
      · obtain ⟨j, rfl⟩ : ∃ j, i = j + 1 := ⟨i - 1, by omega⟩
        have h3 : ((j + 1 : Nat) : Int) > 0 := by omega
        have h4 : 0 ≤ (j : Int) := by omega
        have h5 : (j : Int) < (xs.length : Int) := by omega
        simp only [if_pos h3, wrap_pred (show j < 4611686018427387904 by omega), if_pos h4, if_pos h5, Int.toNat_natCast, Nat.add_sub_cancel]
        refine Evn.step ?_
        simp only [spec_l22Good.j1]
        refine Evn.ite (fun c3 => (Evn.done _).eq_ ?_) (fun c3 => hin.eq_ ?_)
        · have e1 : decide ((xs.getD j z26).f0 < (xs.getD (j + 1) z26).f0) = false := decide_eq_false (by have := of_decide_eq_true c3; omega)
          simp only [e1, show decide (j + 1 = 0) = false from by simp, Bool.or_false, Bool.false_and]
        · have e1 : decide ((xs.getD j z26).f0 < (xs.getD (j + 1) z26).f0) = true := decide_eq_true (by have : ¬ _ := fun h => c3 (decide_eq_true h); omega)
          simp only [e1, Bool.or_true, Bool.true_and]
    · rw [show okP (xs.getD i z26) = false from Bool.eq_false_iff.2 c1, Bool.false_and]
      refine Evn.step ?_
      simp only [spec_l22Good.j1, if_true]
      exact Evn.done _
theorem sp_l22Good (xs : List S26) (hx : xs.length ≤ 4194304) (hw : ∀ x ∈ xs, x.f1.size ≤ 1152921504606846976) : Evn (fun k => spec_l22Good.f k xs) (goodPs xs) := sp_l22Good_l0 xs hx hw xs.length 0 (by omega)

theorem sp_ArePermits (xs : List S26) (hx : xs.length ≤ 4194304) (hw : ∀ x ∈ xs, x.f1.size ≤ 1152921504606846976) : Evn (fun k => spec_ArePermits.f k xs) (goodPs xs) := by
  unfold spec_ArePermits.f
  exact Evn.bind (sp_l22Good xs hx hw) (Evn.done _)

theorem idxQ_range (p : S26 → Bool) : ∀ (l : List S26) (i : Int), 0 ≤ i → idxP26 p l i = -1 ∨ (i ≤ idxP26 p l i ∧ idxP26 p l i < i + l.length) := by
  intro l
  induction l with
  | nil => intro i _; exact Or.inl rfl
  | cons x l ih =>
    intro i h
    rw [idxP26, List.length_cons]
    by_cases c : p x = true
    · rw [if_pos c]; right; omega
    · rw [if_neg c]
      rcases ih (i + 1) (by omega) with e | e
      · exact Or.inl e
      · right; omega

/-! The first permit for a cave on a day. -/
theorem idxQ_none (p : S26 → Bool) : ∀ (l : List S26) (i : Int), (∀ x ∈ l, p x = false) → idxP26 p l i = -1 := by
  intro l
  induction l with
  | nil => intro i _; rfl
  | cons x l ih =>
    intro i h
    rw [idxP26, if_neg (by rw [h x (List.mem_cons_self ..)]; decide)]
    exact ih (i + 1) fun y hy => h y (List.mem_cons_of_mem _ hy)
theorem goodPl_all (xs : List S26) : ∀ (d i : Nat), i + d = xs.length → goodPl xs d i = true → ∀ j, i ≤ j → j < xs.length → okP (xs.getD j z26) = true := by
  intro d
  induction d with
  | zero => intro i h _ j h1 h2; omega
  | succ d ih =>
    intro i h hg j h1 h2
    rw [goodPl, Bool.and_eq_true, Bool.and_eq_true, Bool.and_eq_true] at hg
    obtain ⟨g1, g2, g3, g4⟩ := hg
    rcases Nat.eq_or_lt_of_le h1 with e | e
    · subst e; exact g1
    · exact ih (i + 1) (by omega) g4 j (by omega) h2
theorem goodPs_all (xs : List S26) (h : goodPs xs = true) : ∀ x ∈ xs, okP x = true := by
  intro x hx
  obtain ⟨n, hn, he⟩ := List.mem_iff_getElem.1 hx
  have := goodPl_all xs xs.length 0 (by omega) h n (by omega) hn
  rwa [List.getD_eq_getElem?_getD, List.getElem?_eq_getElem hn, Option.getD_some, he] at this
theorem wordB_of_okP {x : S26} (h : okP x = true) : wordB x.f1 = true := by
  unfold okP goodP at h
  rw [Bool.and_eq_true, Bool.and_eq_true] at h
  exact h.2.1
theorem wordB_same {a b : ByteArray} (h : a.toList = b.toList) : wordB a = wordB b := by
  rw [Lib.toList_data, Lib.toList_data] at h
  have hs : a.size = b.size := by
    have := congrArg List.length h
    simpa using this
  unfold wordB
  rw [h, hs]
theorem noWord_none (xs : List S26) (q : ByteArray) (n : Int) (h : goodPs xs = true) (hw : ¬ wordB q = true) : idxP26 (onDay q n) xs 0 = -1 := by
  refine idxQ_none _ _ _ fun x hx => ?_
  have h1 := wordB_of_okP (goodPs_all xs h x hx)
  cases hc : onDay q n x with
  | false => rfl
  | true =>
    unfold onDay at hc
    rw [Bool.and_eq_true, Bool.and_eq_true] at hc
    have := wordB_same (of_decide_eq_true hc.2.1)
    rw [this] at h1
    exact absurd h1 hw

theorem sp_l22On_l0 (xs : List S26) (hx : xs.length ≤ 4194304) (q : ByteArray) (n : Int) : ∀ (d i : Nat), i + d = xs.length → Evn (fun k => spec_l22On.l0 k xs q n (i : Int)) (idxP26 (onDay q n) (xs.drop i) i) := by
  intro d
  induction d with
  | zero =>
    intro i h
    refine Evn.step ?_
    have h1 : ¬ (i : Int) < (xs.length : Int) := by omega
    simp only [spec_l22On.l0, if_neg h1]
    rw [List.drop_eq_nil_of_le (by omega)]
    exact Evn.done _
  | succ d ih =>
    intro i h
    refine Evn.step ?_
    have h1 : (i : Int) < (xs.length : Int) := by omega
    have h2 : 0 ≤ (i : Int) := by omega
    have hih := ih (i + 1) (by omega)
    simp only [spec_l22On.l0, if_pos h1, if_pos h2, sp_l22Holds, sp_l1In, Option.bind_some, wrap_succ (show i < 4611686018427387904 by omega), rd_T26, Int.toNat_natCast]
    rw [getD_drop xs i z26 (by omega), idxP26]
    generalize xs.getD i z26 = x
    have e : onDay q n x = (holdsP x.f5 && (decide (x.f1.toList = q.toList) && decide (x.f2 ≤ n ∧ n ≤ x.f3))) := rfl
    rw [e]
    have hih' : Evn (fun k => spec_l22On.l0 k xs q n ((i + 1 : Nat) : Int)) (idxP26 (onDay q n) (xs.drop (i + 1)) ((i : Int) + 1)) := hih
    refine Evn.ite (fun c1 => ?_) (fun c1 => hih'.eq_ (by rw [Bool.eq_false_iff.mpr c1]; rfl))
    rw [c1, Bool.true_and]
    refine Evn.ite (fun c2 => ?_) (fun c2 => hih'.eq_ (by rw [decide_eq_false c2]; rfl))
    rw [decide_eq_true c2, Bool.true_and]
    exact Evn.ite (fun c3 => (Evn.done _).eq_ (by rw [c3]; rfl)) (fun c3 => hih'.eq_ (by rw [Bool.eq_false_iff.mpr c3]; rfl))
theorem sp_l22On (xs : List S26) (hx : xs.length ≤ 4194304) (q : ByteArray) (n : Int) : Evn (fun k => spec_l22On.f k xs q n) (idxP26 (onDay q n) xs 0) := sp_l22On_l0 xs hx q n xs.length 0 (by omega)

def allowedM (xs : List S26) (q : ByteArray) (n : Int) : Int × Bool := if goodPs xs = true then (if 0 ≤ n ∧ n ≤ 999 then (if idxP26 (onDay q n) xs 0 < 0 then (0, false) else ((rd_T26 xs (idxP26 (onDay q n) xs 0)).f0, true)) else (0, false)) else (0, false)

theorem sp_AllowedOn (xs : List S26) (hx : xs.length ≤ 4194304) (hw : ∀ x ∈ xs, x.f1.size ≤ 1152921504606846976) (q : ByteArray) (n : Int) : Evn (fun k => spec_AllowedOn.f k xs q n) (allowedM xs q n) := by
  unfold spec_AllowedOn.f allowedM
  refine Evn.bind (sp_l22Good xs hx hw) ?_
  by_cases c : goodPs xs = true
  · simp only [if_pos c, sp_l22Day, Option.bind_some]
    by_cases c2 : 0 ≤ n ∧ n ≤ 999
    · simp only [decide_eq_true c2, if_true, if_pos c2]
      refine Evn.bind (sp_l22On xs hx q n) ?_
      have hr := idxQ_range (onDay q n) xs 0 (by omega)
      refine Evn.ite (fun c3 => (Evn.done _).eq_ (by rw [if_pos c3])) (fun c3 => ?_)
      rw [if_neg c3]
      refine Evn.bind (sp_l22On xs hx q n) ?_
      simp only [if_pos (show 0 ≤ idxP26 (onDay q n) xs 0 by omega), if_pos (show idxP26 (onDay q n) xs 0 < (xs.length : Int) by omega)]
      exact Evn.done _
    · simp only [decide_eq_false c2, Bool.false_eq_true, if_false, if_neg c2]
      exact Evn.done _
  · simp only [if_neg c]
    exact Evn.done _

/-! A list with a permit in another state. -/
def setSt (x : S26) (s : Int) : S26 := ⟨x.f0, x.f1, x.f2, x.f3, x.f4, s⟩
def setP (xs : List S26) (i s : Int) : List S26 := xs.set i.toNat (setSt (rd_T26 xs i) s)
def withM (xs : List S26) (i s : Int) : List S26 × Bool := if goodPs (setP xs i s) = true then (setP xs i s, true) else ([], false)
theorem takeAny (xs : List S26) (p : S26 → Bool) (i : Nat) (hi : i ≤ xs.length) : (!((xs.take i).any p)) = true ↔ ∀ m, m < i → p (xs.getD m z26) = false := by
  rw [Bool.not_eq_true', ← Bool.not_eq_true, List.any_eq_true]
  constructor
  · intro h m hm
    cases hp : p (xs.getD m z26) with
    | false => rfl
    | true =>
      refine absurd ⟨xs.getD m z26, ?_, hp⟩ h
      rw [List.getD_eq_getElem?_getD, List.getElem?_eq_getElem (by omega), Option.getD_some]
      exact List.mem_take_iff_getElem.2 ⟨m, by omega, rfl⟩
  · rintro h ⟨x, hx, hp⟩
    obtain ⟨m, hm, rfl⟩ := List.mem_take_iff_getElem.1 hx
    have := h m (by omega)
    rw [List.getD_eq_getElem?_getD, List.getElem?_eq_getElem (by omega), Option.getD_some] at this
    rw [this] at hp
    cases hp
def atP (xs : List S26) (j : Nat) : Prop := okP (xs.getD j z26) = true ∧ (j = 0 ∨ (xs.getD (j - 1) z26).f0 < (xs.getD j z26).f0) ∧ ∀ m, m < j → confP (xs.getD m z26) (xs.getD j z26) = false
theorem goodPl_iff (xs : List S26) : ∀ (d i : Nat), i + d = xs.length → (goodPl xs d i = true ↔ xs.length ≤ 10 ∧ ∀ j, i ≤ j → j < xs.length → atP xs j) := by
  intro d
  induction d with
  | zero =>
    intro i h
    rw [goodPl, decide_eq_true_iff]
    exact ⟨fun h => ⟨by omega, fun j h1 h2 => by omega⟩, fun h => by omega⟩
  | succ d ih =>
    intro i h
    have e := ih (i + 1) (by omega)
    have t := takeAny xs (fun y => confP y (xs.getD i z26)) i (by omega)
    rw [goodPl, Bool.and_eq_true, Bool.and_eq_true, Bool.and_eq_true, e, t, Bool.or_eq_true, decide_eq_true_iff, decide_eq_true_iff]
    constructor
    · rintro ⟨g1, g2, g3, g4, g5⟩
      refine ⟨g4, fun j h1 h2 => ?_⟩
      rcases Nat.eq_or_lt_of_le h1 with e | e
      · subst e; exact ⟨g1, g2, g3⟩
      · exact g5 j (by omega) h2
    · rintro ⟨g4, g5⟩
      obtain ⟨g1, g2, g3⟩ := g5 i (Nat.le_refl _) (by omega)
      exact ⟨g1, g2, g3, g4, fun j h1 h2 => g5 j (by omega) h2⟩
theorem goodPs_iff (xs : List S26) : goodPs xs = true ↔ xs.length ≤ 10 ∧ ∀ j, j < xs.length → atP xs j := by
  have := goodPl_iff xs xs.length 0 (by omega)
  unfold goodPs
  rw [this]
  exact ⟨fun h => ⟨h.1, fun j hj => h.2 j (by omega) hj⟩, fun h => ⟨h.1, fun j _ hj => h.2 j hj⟩⟩
theorem goodPs_len {xs : List S26} (h : goodPs xs = true) : xs.length ≤ 10 := ((goodPs_iff xs).1 h).1
theorem withM_len (xs : List S26) (i s : Int) : (withM xs i s).1.length ≤ 10 := by
  unfold withM
  split
  · rename_i h; exact goodPs_len h
  · simp
theorem setP_word (xs : List S26) (hw : ∀ x ∈ xs, x.f1.size ≤ 1152921504606846976) (i s : Int) (h : i.toNat < xs.length) : ∀ x ∈ setP xs i s, x.f1.size ≤ 1152921504606846976 := by
  intro x hx
  rcases List.mem_or_eq_of_mem_set hx with hx | rfl
  · exact hw x hx
  · show (rd_T26 xs i).f1.size ≤ _
    unfold rd_T26
    rw [List.getD_eq_getElem?_getD, List.getElem?_eq_getElem h]
    exact hw _ (List.getElem_mem h)
theorem setP_len (xs : List S26) (i s : Int) : (setP xs i s).length = xs.length := by unfold setP; rw [List.length_set]

theorem sp_l22With (xs : List S26) (hx : xs.length ≤ 4194304) (i s : Int) (h0 : 0 ≤ i) (h1 : i < (xs.length : Int)) : spec_l22With.f xs i s = some (setP xs i s) := by
  unfold spec_l22With.f
  simp only [Option.bind_some, List.nil_append, List.length_nil, if_pos (show 0 + xs.length < 2513169434916 by omega), if_pos h0, if_pos h1]
  rfl

def lapL (day : Int) : Nat → Nat → List S26 → Int → List S26 × Int
  | 0, _, xs, n => (xs, n)
  | d + 1, i, xs, n => if holdsP (rd_T26 xs (i : Int)).f5 = true then (if (rd_T26 xs (i : Int)).f3 < day then lapL day d (i + 1) (setP xs (i : Int) 4) (n + 1) else lapL day d (i + 1) xs n) else lapL day d (i + 1) xs n
theorem lapL_len (day : Int) : ∀ (d i : Nat) (xs : List S26) (n : Int), (lapL day d i xs n).1.length = xs.length := by
  intro d
  induction d with
  | zero => intro i xs n; rfl
  | succ d ih =>
    intro i xs n
    rw [lapL]
    split
    · split
      · rw [ih, setP_len]
      · exact ih ..
    · exact ih ..
def lapM (xs : List S26) (day : Int) : List S26 × Int × Bool := if goodPs xs = true then (if 0 ≤ day ∧ day ≤ 999 then ((lapL day xs.length 0 xs 0).1, (lapL day xs.length 0 xs 0).2, true) else ([], 0, false)) else ([], 0, false)
theorem lapM_len (xs : List S26) (day : Int) : (lapM xs day).1.length ≤ 10 := by
  unfold lapM
  split
  · rename_i h
    split
    · show (lapL day xs.length 0 xs 0).1.length ≤ 10
      rw [lapL_len]
      exact goodPs_len h
    · simp
  · simp
theorem sp_Lapse_l0 (day : Int) (N : Nat) (hN : N ≤ 4194304) : ∀ (d i : Nat) (xs : List S26) (n : Int), xs.length = N → i + d = N → 0 ≤ n → n + d ≤ 8388608 → Evn (fun k => spec_LapsePermits.l0 k day xs n (i : Int)) ((lapL day d i xs n).1, (lapL day d i xs n).2, true) := by
  intro d
  induction d with
  | zero =>
    intro i xs n hx h h0 hn
    refine Evn.step ?_
    have h1 : ¬ (i : Int) < (xs.length : Int) := by omega
    simp only [spec_LapsePermits.l0, if_neg h1]
    exact Evn.done _
  | succ d ih =>
    intro i xs n hx h h0 hn
    refine Evn.step ?_
    have h1 : (i : Int) < (xs.length : Int) := by omega
    have h2 : 0 ≤ (i : Int) := by omega
    have hw : wrap64 (n + 1) = n + 1 := wrap_id (by omega) (by omega)
    have k1 := ih (i + 1) xs n hx (by omega) h0 (by omega)
    have k2 := ih (i + 1) (setP xs (i : Int) 4) (n + 1) (by rw [setP_len]; exact hx) (by omega) (by omega) (by omega)
    simp only [spec_LapsePermits.l0, if_pos h1, if_pos h2, sp_l22Holds, sp_l22With xs (by omega) _ 4 h2 h1, Option.bind_some, hw, wrap_succ (show i < 4611686018427387904 by omega)]
    rw [lapL]
    refine Evn.ite (fun c => ?_) (fun c => k1.eq_ (by rw [if_neg c]))
    rw [if_pos c]
    exact Evn.ite (fun c2 => k2.eq_ (by rw [if_pos c2])) (fun c2 => k1.eq_ (by rw [if_neg c2]))
theorem sp_LapsePermits (xs : List S26) (hx : xs.length ≤ 4194304) (hw : ∀ x ∈ xs, x.f1.size ≤ 1152921504606846976) (day : Int) : Evn (fun k => spec_LapsePermits.f k xs day) (lapM xs day) := by
  unfold spec_LapsePermits.f lapM
  have no : Evn (fun k => spec_LapsePermits.j0 k xs day true) ([], 0, false) := by
    refine Evn.step ?_
    simp only [spec_LapsePermits.j0, if_true]
    exact Evn.done _
  refine Evn.bind (sp_l22Good xs hx hw) ?_
  refine Evn.ite (fun c => ?_) (fun c => no.eq_ (by rw [if_neg c]))
  rw [if_pos c]
  simp only [sp_l22Day, Option.bind_some]
  by_cases c2 : 0 ≤ day ∧ day ≤ 999
  · rw [decide_eq_true c2, if_pos c2]
    refine Evn.step ?_
    simp only [spec_LapsePermits.j0, Bool.not_true, Bool.false_eq_true, if_false, Option.bind_some, List.nil_append, List.length_nil, if_pos (show 0 + xs.length < 2513169434916 by omega)]
    exact sp_Lapse_l0 day xs.length hx xs.length 0 xs 0 rfl (by omega) (by omega) (by omega)
  · rw [decide_eq_false c2, if_neg c2]
    exact no

theorem sp_l22Find_l0 (xs : List S26) (hx : xs.length ≤ 4194304) (n : Int) : ∀ (d i : Nat), i + d = xs.length → Evn (fun k => spec_l22Find.l0 k xs n (i : Int)) (idxP26 (fun x => x.f0 == n) (xs.drop i) i) := by
  intro d
  induction d with
  | zero =>
    intro i h
    refine Evn.step ?_
    have h1 : ¬ (i : Int) < (xs.length : Int) := by omega
    simp only [spec_l22Find.l0, if_neg h1]
    rw [List.drop_eq_nil_of_le (by omega)]
    exact Evn.done _
  | succ d ih =>
    intro i h
    refine Evn.step ?_
    have h1 : (i : Int) < (xs.length : Int) := by omega
    have h2 : 0 ≤ (i : Int) := by omega
    have hih : Evn (fun k => spec_l22Find.l0 k xs n ((i + 1 : Nat) : Int)) (idxP26 (fun x => x.f0 == n) (xs.drop (i + 1)) ((i : Int) + 1)) := ih (i + 1) (by omega)
    simp only [spec_l22Find.l0, if_pos h1, if_pos h2, wrap_succ (show i < 4611686018427387904 by omega), rd_T26, Int.toNat_natCast]
    rw [getD_drop xs i z26 (by omega), idxP26]
    refine Evn.ite (fun c => (Evn.done _).eq_ (by rw [if_pos (beq_iff_eq.2 c)])) (fun c => hih.eq_ (by rw [if_neg (fun h => c (beq_iff_eq.1 h))]))
theorem sp_l22Find (xs : List S26) (hx : xs.length ≤ 4194304) (n : Int) : Evn (fun k => spec_l22Find.f k xs n) (idxP26 (fun x => x.f0 == n) xs 0) := sp_l22Find_l0 xs hx n xs.length 0 (by omega)

/-! A permit that is given or used may be used. -/
def alike (x y : S26) : Prop := y.f0 = x.f0 ∧ y.f1 = x.f1 ∧ y.f2 = x.f2 ∧ y.f3 = x.f3 ∧ holdsP y.f5 = holdsP x.f5 ∧ (okP x = true → okP y = true)
theorem alike.refl (x : S26) : alike x x := ⟨rfl, rfl, rfl, rfl, rfl, id⟩
theorem alike.conf {a a' b b' : S26} (h : alike a a') (h' : alike b b') : confP a' b' = confP a b := by
  unfold confP
  rw [h.2.2.2.2.1, h'.2.2.2.2.1, h.2.1, h'.2.1, h.2.2.1, h'.2.2.1, h.2.2.2.1, h'.2.2.2.1]
theorem goodPs_alike (xs ys : List S26) (hl : ys.length = xs.length) (ha : ∀ j, j < xs.length → alike (xs.getD j z26) (ys.getD j z26)) (h : goodPs xs = true) : goodPs ys = true := by
  rw [goodPs_iff] at h ⊢
  obtain ⟨h1, h2⟩ := h
  rw [hl]
  refine ⟨h1, fun j hj => ?_⟩
  obtain ⟨g1, g2, g3⟩ := h2 j hj
  refine ⟨(ha j hj).2.2.2.2.2 g1, ?_, fun m hm => ?_⟩
  · rcases g2 with g2 | g2
    · exact Or.inl g2
    · right
      rw [(ha j hj).1, (ha (j - 1) (by omega)).1]
      exact g2
  · rw [(ha m (by omega)).conf (ha j hj)]
    exact g3 m hm
theorem alike_set (x : S26) (s : Int) (h : holdsP s = holdsP x.f5) (hs : 0 ≤ s ∧ s ≤ 4) : alike x (setSt x s) := by
  refine ⟨rfl, rfl, rfl, rfl, h, fun ho => ?_⟩
  unfold okP goodP at ho ⊢
  unfold setSt
  simp only [Bool.and_eq_true] at ho ⊢
  exact ⟨ho.1, ho.2.1, ho.2.2.1, ho.2.2.2.1, ho.2.2.2.2.1, decide_eq_true hs⟩
theorem goodPs_set (xs : List S26) (i s : Int) (h : goodPs xs = true) (h0 : 0 ≤ i) (h1 : i < (xs.length : Int)) (hh : holdsP s = holdsP (rd_T26 xs i).f5) (hs : 0 ≤ s ∧ s ≤ 4) : goodPs (setP xs i s) = true := by
  refine goodPs_alike xs _ (setP_len ..) (fun j hj => ?_) h
  unfold setP
  by_cases c : i.toNat = j
  · subst c
    rw [List.getD_eq_getElem?_getD (l := xs.set _ _), List.getElem?_set_self (by omega), Option.getD_some]
    exact alike_set _ s hh hs
  · rw [List.getD_eq_getElem?_getD (l := xs.set _ _), List.getElem?_set_ne c, ← List.getD_eq_getElem?_getD]
    exact alike.refl _
theorem goodPs_at (xs : List S26) (i : Int) (h : goodPs xs = true) (h0 : 0 ≤ i) (h1 : i < (xs.length : Int)) : okP (rd_T26 xs i) = true := (((goodPs_iff xs).1 h).2 i.toNat (by omega)).1
theorem okP_parts {x : S26} (h : okP x = true) : (0 ≤ x.f2 ∧ x.f2 ≤ 999) ∧ (x.f2 ≤ x.f3 ∧ x.f3 ≤ 999) ∧ 1 ≤ x.f4 ∧ x.f4 ≤ 12 := by
  unfold okP goodP at h
  simp only [Bool.and_eq_true, decide_eq_true_eq] at h
  exact ⟨h.2.2.1, h.2.2.2.1, h.2.2.2.2.1⟩

def useOk (x : S26) (d p : Int) : Bool := holdsP x.f5 && (decide (x.f2 ≤ d ∧ d ≤ x.f3) && decide (1 ≤ p ∧ p ≤ x.f4))
def useM (xs : List S26) (n d p : Int) : List S26 × Bool := if goodPs xs = true ∧ 0 ≤ idxP26 (fun x => x.f0 == n) xs 0 ∧ useOk (rd_T26 xs (idxP26 (fun x => x.f0 == n) xs 0)) d p = true then (setP xs (idxP26 (fun x => x.f0 == n) xs 0) 3, true) else ([], false)
theorem sp_UsePermit (xs : List S26) (hx : xs.length ≤ 4194304) (hw : ∀ x ∈ xs, x.f1.size ≤ 1152921504606846976) (n d p : Int) : Evn (fun k => spec_UsePermit.f k xs n d p) (useM xs n d p) := by
  unfold spec_UsePermit.f useM
  refine Evn.bind (sp_l22Find xs hx n) ?_
  refine Evn.bind (sp_l22Good xs hx hw) ?_
  have hr := idxQ_range (fun x => x.f0 == n) xs 0 (by omega)
  generalize idxP26 (fun x => x.f0 == n) xs 0 = i at hr
  refine Evn.ite (fun c => ?_) (fun c => (Evn.done _).eq_ (by rw [if_neg (fun h => c h.1)]))
  refine Evn.ite (fun c2 => (Evn.done _).eq_ (by rw [if_neg (fun h => by omega)])) (fun c2 => ?_)
  have h0 : 0 ≤ i := by omega
  have h1 : i < (xs.length : Int) := by omega
  simp only [if_pos h0, if_pos h1, sp_l22Holds, sp_l1In, sp_l22With xs hx i 3 h0 h1, Option.bind_some]
  generalize rd_T26 xs i = x
  have e : (goodPs xs = true ∧ 0 ≤ i ∧ useOk x d p = true) ↔ useOk x d p = true := ⟨fun h => h.2.2, fun h => ⟨c, h0, h⟩⟩
  simp only [e]
  unfold useOk
  generalize holdsP x.f5 = t
  generalize decide (x.f2 ≤ d ∧ d ≤ x.f3) = u
  generalize decide (1 ≤ p ∧ p ≤ x.f4) = v
  cases t <;> cases u <;> cases v <;> exact Evn.done _

def decM (xs : List S26) (n : Int) (g : Bool) : List S26 × Bool := if goodPs xs = true ∧ 0 ≤ idxP26 (fun x => x.f0 == n) xs 0 ∧ (rd_T26 xs (idxP26 (fun x => x.f0 == n) xs 0)).f5 = 0 then withM xs (idxP26 (fun x => x.f0 == n) xs 0) (if g = true then 1 else 2) else ([], false)

theorem sp_DecidePermit (xs : List S26) (hx : xs.length ≤ 4194304) (hw : ∀ x ∈ xs, x.f1.size ≤ 1152921504606846976) (n : Int) (g : Bool) : Evn (fun k => spec_DecidePermit.f k xs n g) (decM xs n g) := by
  unfold spec_DecidePermit.f decM
  refine Evn.bind (sp_l22Find xs hx n) ?_
  refine Evn.bind (sp_l22Good xs hx hw) ?_
  have hr := idxQ_range (fun x => x.f0 == n) xs 0 (by omega)
  generalize idxP26 (fun x => x.f0 == n) xs 0 = i at hr
  have no : ∀ i, Evn (fun k => spec_DecidePermit.j0 k xs g i true) ([], false) := fun i => by
    refine Evn.step ?_
    simp only [spec_DecidePermit.j0, if_true]
    exact Evn.done _
  refine Evn.ite (fun c => ?_) (fun c => (no i).eq_ (by rw [if_neg (fun h => c h.1)]))
  refine Evn.ite (fun c2 => (no i).eq_ (by rw [if_neg (fun h => by omega)])) (fun c2 => ?_)
  have h0 : 0 ≤ i := by omega
  have h1 : i < (xs.length : Int) := by omega
  simp only [if_pos h0, if_pos h1]
  by_cases c3 : (rd_T26 xs i).f5 = 0
  · rw [if_pos ⟨c, h0, c3⟩]
    have e : ((rd_T26 xs i).f5 != 0) = false := by rw [c3]; rfl
    rw [e]
    refine Evn.step ?_
    simp only [spec_DecidePermit.j0, Bool.false_eq_true, if_false, sp_l22With xs hx i _ h0 h1, Option.bind_some]
    have last : ∀ s, Evn (fun k => (spec_l22Good.f k (setP xs i s)).bind fun t => if t = true then some (setP xs i s, true) else some ([], false)) (withM xs i s) := fun s => by
      refine Evn.bind (sp_l22Good _ (by rw [setP_len]; exact hx) (setP_word xs hw i s (by omega))) ?_
      exact Evn.ite (fun c => (Evn.done _).eq_ (by unfold withM; rw [if_pos c])) (fun c => (Evn.done _).eq_ (by unfold withM; rw [if_neg c]))
    cases g with
    | true => simp only [if_true]; exact last 1
    | false => simp only [Bool.false_eq_true, if_false]; exact last 2
  · have e : ((rd_T26 xs i).f5 != 0) = true := by simpa using c3
    rw [e, if_neg (fun h => c3 h.2.2)]
    exact no i

/-! The draws: a cursor over bytes. -/
def Byts (l : List Int) : Prop := ∀ x ∈ l, 0 ≤ x ∧ x ≤ 255
theorem bits255 (x : Int) : 0 ≤ Go.bits .and .u64 x 255 ∧ Go.bits .and .u64 x 255 ≤ 255 := by
  have h : (BitVec.ofInt 64 x &&& BitVec.ofInt 64 255).toNat ≤ 255 := by rw [BitVec.toNat_and]; exact Nat.le_trans Nat.and_le_right (by decide)
  have e : Go.bits .and .u64 x 255 = IntKind.u64.wrap ((BitVec.ofInt 64 x &&& BitVec.ofInt 64 255).toNat : Int) := rfl
  rw [e, IntKind.wrap_u64]
  omega
theorem Byts.at_ {l : List Int} (h : Byts l) (p : Int) : 0 ≤ rd l p ∧ rd l p ≤ 255 := by
  unfold rd
  by_cases g : p.toNat < l.length
  · rw [List.getD_eq_getElem?_getD, List.getElem?_eq_getElem g, Option.getD_some]
    exact h _ (List.getElem_mem g)
  · rw [List.getD_eq_getElem?_getD, List.getElem?_eq_none (by omega), Option.getD_none]
    omega
theorem dw_next {l : List Int} {p : Int} (hl : Byts l) (h0 : 0 ≤ p) (h1 : p ≤ 2000000000) (s : Int) : ∃ r, spec_l1Cur_next.f l p s = some r ∧ 0 ≤ r.1 ∧ r.1 ≤ 255 ∧ r.2.1 = p + 1 := by
  have hr := hl.at_ p
  have e : wrap64 (rd l p) = rd l p := wrap_id (by omega) (by omega)
  have e2 : wrap64 (p + 1) = p + 1 := wrap_id (by omega) (by omega)
  unfold spec_l1Cur_next.f
  rw [e, e2]
  split
  · (try rw [if_pos h0])
    split
    · exact ⟨_, rfl, hr.1, hr.2, rfl⟩
    · refine ⟨_, rfl, ?_, ?_, rfl⟩
      · dsimp only; rw [wrap_id (by have := bits255; exact Int.le_trans (by decide) (this _).1) (Int.le_trans (bits255 _).2 (by decide))]; exact (bits255 _).1
      · dsimp only; rw [wrap_id (by have := bits255; exact Int.le_trans (by decide) (this _).1) (Int.le_trans (bits255 _).2 (by decide))]; exact (bits255 _).2
  · split
    · exact ⟨_, rfl, by dsimp only; omega, by dsimp only; omega, rfl⟩
    · refine ⟨_, rfl, ?_, ?_, rfl⟩
      · dsimp only; rw [wrap_id (by have := bits255; exact Int.le_trans (by decide) (this _).1) (Int.le_trans (bits255 _).2 (by decide))]; exact (bits255 _).1
      · dsimp only; rw [wrap_id (by have := bits255; exact Int.le_trans (by decide) (this _).1) (Int.le_trans (bits255 _).2 (by decide))]; exact (bits255 _).2

theorem tmod_in {x n : Int} (hx : 0 ≤ x) (hn : 1 < n) : 0 ≤ Int.tmod x n ∧ Int.tmod x n < n := by
  rw [Int.tmod_eq_emod_of_nonneg hx]
  exact ⟨Int.emod_nonneg _ (by omega), Int.emod_lt_of_pos _ (by omega)⟩
theorem dw_pick {l : List Int} {p : Int} (hl : Byts l) (h0 : 0 ≤ p) (h1 : p ≤ 1000000000) (s n : Int) : ∃ r, spec_l1Cur_pick.f l p s n = some r ∧ 0 ≤ r.1 ∧ (r.1 < n ∨ r.1 = 0) ∧ p ≤ r.2.1 ∧ r.2.1 ≤ p + 2 := by
  unfold spec_l1Cur_pick.f
  by_cases c : n ≤ 1
  · rw [if_pos c]
    exact ⟨_, rfl, by dsimp only; omega, Or.inr rfl, Int.le_refl _, by dsimp only; omega⟩
  · rw [if_neg c]
    obtain ⟨a, ha, a0, a1, a2⟩ := dw_next hl h0 (by omega) s
    rw [ha, Option.bind_some]
    split
    · obtain ⟨b, hb, b0, b1, b2⟩ := dw_next hl (p := a.2.1) (by omega) (by omega) a.2.2
      rw [hb, Option.bind_some, if_neg (by omega)]
      have t := tmod_in (x := wrap64 (wrap64 (a.1 * 256) + b.1)) (n := n) (by rw [wrap_id (x := a.1 * 256) (by omega) (by omega), wrap_id (by omega) (by omega)]; omega) (by omega)
      exact ⟨_, rfl, t.1, Or.inl t.2, by dsimp only; omega, by dsimp only; omega⟩
    · rw [if_neg (by omega)]
      have t := tmod_in (x := a.1) (n := n) a0 (by omega)
      exact ⟨_, rfl, t.1, Or.inl t.2, by dsimp only; omega, by dsimp only; omega⟩

theorem dw_one {l : List Int} {p : Int} (hl : Byts l) (h0 : 0 ≤ p) (h1 : p ≤ 1000000000) (s n : Int) : ∃ r, spec_l1Cur_one.f l p s n = some r ∧ p ≤ r.2.1 ∧ r.2.1 ≤ p + 2 := by
  unfold spec_l1Cur_one.f
  obtain ⟨a, ha, a0, a1, a2, a3⟩ := dw_pick hl h0 h1 s n
  rw [ha, Option.bind_some]
  exact ⟨_, rfl, a2, a3⟩

theorem rd_mem {L : List Int} {i : Int} (h0 : 0 ≤ i) (h1 : i < L.length) : rd L i ∈ L := by
  unfold rd
  rw [List.getD_eq_getElem?_getD, List.getElem?_eq_getElem (by omega), Option.getD_some]
  exact List.getElem_mem _
theorem dw_among {l : List Int} {p : Int} (hl : Byts l) (h0 : 0 ≤ p) (h1 : p ≤ 1000000000) (s : Int) (L : List Int) (hL : 0 < L.length) : ∃ r, spec_l1Cur_among.f l p s L = some r ∧ r.1 ∈ L ∧ p ≤ r.2.1 ∧ r.2.1 ≤ p + 2 := by
  unfold spec_l1Cur_among.f
  obtain ⟨a, ha, a0, a1, a2, a3⟩ := dw_pick hl h0 h1 s (L.length : Int)
  have a4 : a.1 < (L.length : Int) := by omega
  rw [ha, Option.bind_some, if_pos a0, if_pos a4]
  exact ⟨_, rfl, rd_mem a0 a4, a2, a3⟩

theorem rdOf_mem {L : List ByteArray} {i : Int} (h0 : 0 ≤ i) (h1 : i < L.length) : rdOf ByteArray.empty L i ∈ L := by
  unfold rdOf
  rw [List.getD_eq_getElem?_getD, List.getElem?_eq_getElem (by omega), Option.getD_some]
  exact List.getElem_mem _
theorem dw_of {l : List Int} {p : Int} (hl : Byts l) (h0 : 0 ≤ p) (h1 : p ≤ 1000000000) (s : Int) (L : List ByteArray) (hL : 0 < L.length) : ∃ r, spec_l1Cur_of.f l p s L = some r ∧ r.1 ∈ L ∧ p ≤ r.2.1 ∧ r.2.1 ≤ p + 2 := by
  unfold spec_l1Cur_of.f
  obtain ⟨a, ha, a0, a1, a2, a3⟩ := dw_pick hl h0 h1 s (L.length : Int)
  have a4 : a.1 < (L.length : Int) := by omega
  rw [ha, Option.bind_some, if_pos a0, if_pos a4]
  exact ⟨_, rfl, rdOf_mem a0 a4, a2, a3⟩

theorem dw_cave22 {l : List Int} {p : Int} (hl : Byts l) (h0 : 0 ≤ p) (h1 : p ≤ 1000000000) (s : Int) : ∃ r, spec_l1Cur_cave22.f l p s = some r ∧ r.1.size ≤ 11 ∧ p ≤ r.2.1 ∧ r.2.1 ≤ p + 2 := by
  unfold spec_l1Cur_cave22.f
  obtain ⟨a, ha, am, a2, a3⟩ := dw_of hl h0 h1 s [(⟨#[98, 108, 117, 102, 102]⟩ : ByteArray), (⟨#[98, 108, 117, 102, 102]⟩ : ByteArray), (⟨#[107, 97, 114, 115, 116]⟩ : ByteArray), (⟨#[120]⟩ : ByteArray)] (by simp)
  simp only [ha, Option.bind_some]
  refine ⟨_, rfl, ?_, a2, a3⟩
  simp only [List.mem_cons, List.not_mem_nil, or_false] at am
  rcases am with e | e | e | e <;> rw [e] <;> decide

theorem dw_least (a b : Int) : ∃ t, spec_l1Least.f a b = some t := by
  unfold spec_l1Least.f
  split
  · exact ⟨_, rfl⟩
  · exact ⟨_, rfl⟩
theorem dw_permit {l : List Int} {p : Int} (hl : Byts l) (h0 : 0 ≤ p) (h1 : p ≤ 900000000) (s q : Int) : ∃ r, spec_l1Cur_permit.f l p s q = some r ∧ r.2.1.size ≤ 11 ∧ p ≤ r.2.2.2.2.2.2.1 ∧ r.2.2.2.2.2.2.1 ≤ p + 14 := by
  unfold spec_l1Cur_permit.f
  obtain ⟨a, ha, _, a2, a3⟩ := dw_among hl h0 (by omega) s [0, 3, 10, 20, 990] (by simp)
  obtain ⟨b, hb, b1, b2, b3⟩ := dw_cave22 hl (p := a.2.1) (by omega) (by omega) a.2.2
  obtain ⟨c, hc, _, c2, c3⟩ := dw_among hl (p := b.2.1) (by omega) (by omega) b.2.2 [0, 1, 5, 9] (by simp)
  obtain ⟨t, ht⟩ := dw_least 999 (wrap64 (a.1 + c.1))
  obtain ⟨d, hd, _, d2, d3⟩ := dw_among hl (p := c.2.1) (by omega) (by omega) c.2.2 [1, 4, 12] (by simp)
  obtain ⟨e, he, _, e2, e3⟩ := dw_among hl (p := d.2.1) (by omega) (by omega) d.2.2 [0, 0, 1, 1, 2, 3, 4] (by simp)
  obtain ⟨u, hu, u0, u1, u2, u3⟩ := dw_pick hl (p := e.2.1) (by omega) (by omega) e.2.2 70
  simp only [ha, hb, hc, ht, hd, he, hu, Option.bind_some]
  by_cases c0 : u.1 = 0
  · obtain ⟨v, hv, _, v2, v3⟩ := dw_among hl (p := u.2.1) (by omega) (by omega) u.2.2 [0, 99, 100] (by simp)
    simp only [if_pos c0, hv, Option.bind_some]
    exact ⟨_, rfl, b1, by dsimp only; omega, by dsimp only; omega⟩
  by_cases c1 : u.1 = 1
  · obtain ⟨v, hv, vm, v2, v3⟩ := dw_of hl (p := u.2.1) (by omega) (by omega) u.2.2 [(⟨#[]⟩ : ByteArray), (⟨#[65]⟩ : ByteArray), (⟨#[97, 98, 99, 100, 101, 102, 103, 104, 105, 106, 107]⟩ : ByteArray)] (by simp)
    simp only [if_neg c0, if_pos c1, hv, Option.bind_some]
    refine ⟨_, rfl, ?_, by dsimp only; omega, by dsimp only; omega⟩
    simp only [List.mem_cons, List.not_mem_nil, or_false] at vm
    rcases vm with e | e | e <;> rw [e] <;> decide
  by_cases c2 : u.1 = 2
  · obtain ⟨v, hv, _, v2, v3⟩ := dw_among hl (p := u.2.1) (by omega) (by omega) u.2.2 [wrap64 (a.1 - 1), 1000] (by simp)
    simp only [if_neg c0, if_neg c1, if_pos c2, hv, Option.bind_some]
    exact ⟨_, rfl, b1, by dsimp only; omega, by dsimp only; omega⟩
  by_cases c3 : u.1 = 3
  · obtain ⟨v, hv, _, v2, v3⟩ := dw_among hl (p := u.2.1) (by omega) (by omega) u.2.2 [0, 13] (by simp)
    simp only [if_neg c0, if_neg c1, if_neg c2, if_pos c3, hv, Option.bind_some]
    exact ⟨_, rfl, b1, by dsimp only; omega, by dsimp only; omega⟩
  by_cases c4 : u.1 = 4
  · obtain ⟨v, hv, _, v2, v3⟩ := dw_among hl (p := u.2.1) (by omega) (by omega) u.2.2 [-1, 5] (by simp)
    simp only [if_neg c0, if_neg c1, if_neg c2, if_neg c3, if_pos c4, hv, Option.bind_some]
    exact ⟨_, rfl, b1, by dsimp only; omega, by dsimp only; omega⟩
  simp only [if_neg c0, if_neg c1, if_neg c2, if_neg c3, if_neg c4]
  exact ⟨_, rfl, b1, by dsimp only; omega, by dsimp only; omega⟩

def okW (xs : List S26) : Prop := ∀ x ∈ xs, x.f1.size ≤ 11
theorem okW_nil : okW [] := fun x hx => absurd hx (by simp)
theorem okW_snoc {xs : List S26} (h : okW xs) (y : S26) (hy : y.f1.size ≤ 11) : okW (xs ++ [y]) := by
  intro x hx
  rcases List.mem_append.1 hx with hx | hx
  · exact h x hx
  · rw [List.mem_singleton.1 hx]; exact hy
theorem okW_big {xs : List S26} (h : okW xs) : ∀ x ∈ xs, x.f1.size ≤ 1152921504606846976 := fun x hx => Nat.le_trans (h x hx) (by decide)
theorem dw_permits_l1 {l : List Int} (hl : Byts l) : ∀ (D : Nat) (zs : List S26) (i p s : Int), i + (D : Int) = 11 → 0 ≤ i → zs.length + D ≤ 20 → okW zs → 0 ≤ p → p ≤ 900000000 - 2 * (D : Int) → ∃ r, Evn (fun k => spec_l1Cur_permits.l1 k zs i l p s) r ∧ r.1.length ≤ 20 ∧ okW r.1 ∧ p ≤ r.2.1 ∧ r.2.1 ≤ p + 2 * (D : Int) + 2 := by
  intro D
  induction D with
  | zero =>
    intro zs i p s hi i0 hz hw h0 h1
    obtain ⟨u, hu, u0, u1, u2, u3⟩ := dw_pick hl h0 (by omega) s 2
    have c2 : ¬ i < wrap64 (10 + u.1) := by rw [wrap_id (by omega) (by omega)]; omega
    refine ⟨(zs, u.2.1, u.2.2), Evn.step ?_, by dsimp only; omega, hw, by dsimp only; omega, by dsimp only; omega⟩
    simp only [spec_l1Cur_permits.l1, hu, Option.bind_some, if_neg c2]
    exact Evn.done _
  | succ D ih =>
    intro zs i p s hi i0 hz hw h0 h1
    obtain ⟨u, hu, u0, u1, u2, u3⟩ := dw_pick hl h0 (by omega) s 2
    by_cases c1 : i < wrap64 (10 + u.1)
    · have hwr : wrap64 (i + 1) = i + 1 := wrap_id (by omega) (by omega)
      have hq : zs.length < 2513169434916 := by omega
      obtain ⟨r, hr, r1, r2, r3, r4⟩ := ih (zs ++ [⟨wrap64 (i + 1), (⟨#[120]⟩ : ByteArray), i, i, 1, 0⟩]) (i + 1) u.2.1 u.2.2 (by omega) (by omega) (by rw [List.length_append, List.length_singleton]; omega) (okW_snoc hw _ (show (⟨#[120]⟩ : ByteArray).size ≤ 11 by decide)) (by omega) (by omega)
      rw [hwr] at hr
      refine ⟨r, Evn.step ?_, r1, r2, by omega, by omega⟩
      simp only [spec_l1Cur_permits.l1, hu, Option.bind_some, if_pos c1, if_pos hq, hwr]
      exact hr
    · refine ⟨(zs, u.2.1, u.2.2), Evn.step ?_, by dsimp only; omega, hw, by dsimp only; omega, by dsimp only; omega⟩
      simp only [spec_l1Cur_permits.l1, hu, Option.bind_some, if_neg c1]
      exact Evn.done _
theorem dw_permits_l0 {l : List Int} (hl : Byts l) : ∀ (D : Nat) (zs : List S26) (j p s : Int), zs.length + D ≤ 8 → okW zs → 0 ≤ p → p ≤ 800000000 - 20 * (D : Int) → ∃ r, Evn (fun k => spec_l1Cur_permits.l0 k zs j (D : Int) l p s) r ∧ r.1.length ≤ 20 ∧ okW r.1 ∧ p ≤ r.2.1 ∧ r.2.1 ≤ p + 20 * (D : Int) + 40 := by
  intro D
  induction D with
  | zero =>
    intro zs j p s hz hw h0 h1
    have hn : ¬ ((0 : Nat) : Int) > 0 := by decide
    obtain ⟨u, hu, u2, u3⟩ := dw_one hl h0 (by omega) s 24
    by_cases c1 : u.1 = true
    · obtain ⟨r, hr, r1, r2, r3, r4⟩ := dw_permits_l1 hl 11 [] 0 u.2.1 u.2.2 (by decide) (by decide) (by decide) okW_nil (by omega) (by omega)
      refine ⟨r, Evn.step ?_, r1, r2, by omega, by omega⟩
      simp only [spec_l1Cur_permits.l0, if_neg hn, hu, Option.bind_some, if_pos c1]
      exact hr
    · refine ⟨(zs, u.2.1, u.2.2), Evn.step ?_, by dsimp only; omega, hw, by dsimp only; omega, by dsimp only; omega⟩
      simp only [spec_l1Cur_permits.l0, if_neg hn, hu, Option.bind_some, if_neg c1]
      exact Evn.done _
  | succ D ih =>
    intro zs j p s hz hw h0 h1
    obtain ⟨u, hu, u0, u1, u2, u3⟩ := dw_pick hl h0 (by omega) s 3
    obtain ⟨v, hv, v1, v2, v3⟩ := dw_permit hl (p := u.2.1) (by omega) (by omega) u.2.2 (wrap64 ((wrap64 (j + 1)) + u.1))
    have hp : ((D + 1 : Nat) : Int) > 0 := by omega
    have hwr : wrap64 (((D + 1 : Nat) : Int) - 1) = (D : Int) := wrap_pred (by omega)
    have hq : zs.length < 2513169434916 := by omega
    have hq2 : ([] : List S26).length + zs.length < 2513169434916 := by simp only [List.length_nil]; omega
    have hy := okW_snoc hw ⟨v.1, v.2.1, v.2.2.1, v.2.2.2.1, v.2.2.2.2.1, v.2.2.2.2.2.1⟩ v1
    have hyl : (zs ++ [(⟨v.1, v.2.1, v.2.2.1, v.2.2.2.1, v.2.2.2.2.1, v.2.2.2.2.2.1⟩ : S26)]).length = zs.length + 1 := by rw [List.length_append, List.length_singleton]
    have hg := sp_l22Good _ (by omega) (okW_big hy)
    by_cases g : goodPs (zs ++ [(⟨v.1, v.2.1, v.2.2.1, v.2.2.2.1, v.2.2.2.2.1, v.2.2.2.2.2.1⟩ : S26)]) = true
    · obtain ⟨r, hr, r1, r2, r3, r4⟩ := ih _ (wrap64 ((wrap64 (j + 1)) + u.1)) v.2.2.2.2.2.2.1 v.2.2.2.2.2.2.2 (by omega) hy (by omega) (by omega)
      refine ⟨r, Evn.step ?_, r1, r2, by omega, by omega⟩
      simp only [spec_l1Cur_permits.l0, if_pos hp, hu, Option.bind_some, if_pos hq2, List.nil_append, hv, if_pos hq, hwr]
      refine Evn.bind hg ?_
      simp only [if_pos g]
      exact hr
    · obtain ⟨o, ho, o2, o3⟩ := dw_one hl (p := v.2.2.2.2.2.2.1) (by omega) (by omega) v.2.2.2.2.2.2.2 60
      by_cases c1 : o.1 = true
      · obtain ⟨r, hr, r1, r2, r3, r4⟩ := ih _ (wrap64 ((wrap64 (j + 1)) + u.1)) o.2.1 o.2.2 (by omega) hy (by omega) (by omega)
        refine ⟨r, Evn.step ?_, r1, r2, by omega, by omega⟩
        simp only [spec_l1Cur_permits.l0, if_pos hp, hu, Option.bind_some, if_pos hq2, List.nil_append, hv, if_pos hq, hwr]
        refine Evn.bind hg ?_
        simp only [if_neg g, ho, Option.bind_some, if_pos c1]
        exact hr
      · obtain ⟨r, hr, r1, r2, r3, r4⟩ := ih zs (wrap64 ((wrap64 (j + 1)) + u.1)) o.2.1 o.2.2 (by omega) hw (by omega) (by omega)
        refine ⟨r, Evn.step ?_, r1, r2, by omega, by omega⟩
        simp only [spec_l1Cur_permits.l0, if_pos hp, hu, Option.bind_some, if_pos hq2, List.nil_append, hv, if_pos hq, hwr]
        refine Evn.bind hg ?_
        simp only [if_neg g, ho, Option.bind_some, if_neg c1]
        exact hr
theorem dw_permits {l : List Int} {p : Int} (hl : Byts l) (h0 : 0 ≤ p) (h1 : p ≤ 700000000) (s : Int) : ∃ r, Evn (fun k => spec_l1Cur_permits.f k l p s) r ∧ r.1.length ≤ 20 ∧ okW r.1 ∧ p ≤ r.2.1 ∧ r.2.1 ≤ p + 300 := by
  unfold spec_l1Cur_permits.f
  obtain ⟨a, ha, a0, a1, a2, a3⟩ := dw_pick hl h0 (by omega) s 9
  obtain ⟨D, hD⟩ : ∃ D : Nat, a.1 = D := ⟨a.1.toNat, by omega⟩
  simp only [ha, Option.bind_some, hD]
  obtain ⟨r, hr, r1, r2, r3, r4⟩ := dw_permits_l0 hl D [] 0 a.2.1 a.2.2 (by simp only [List.length_nil]; omega) okW_nil (by omega) (by omega)
  exact ⟨r, hr, r1, r2, by omega, by omega⟩

theorem dw_permitId {l : List Int} {p : Int} (hl : Byts l) (h0 : 0 ≤ p) (h1 : p ≤ 900000000) (s : Int) (L : List S26) : ∃ r, Evn (fun k => spec_l1Cur_permitId.f k l p s L) r ∧ p ≤ r.2.1 ∧ r.2.1 ≤ p + 4 := by
  have yes : ∀ (q t : Int), p ≤ q → q ≤ p + 2 → ∃ r, Evn (fun k => spec_l1Cur_permitId.j0 k L true l q t) r ∧ p ≤ r.2.1 ∧ r.2.1 ≤ p + 4 := by
    intro q t h2 h3
    obtain ⟨v, hv, _, v2, v3⟩ := dw_among hl (p := q) (by omega) (by omega) t [0, 1, 50] (by simp)
    refine ⟨(v.1, v.2.1, v.2.2), Evn.step ?_, by dsimp only; omega, by dsimp only; omega⟩
    simp only [spec_l1Cur_permitId.j0, if_true, hv, Option.bind_some]
    exact Evn.done _
  unfold spec_l1Cur_permitId.f
  by_cases c : (L.length : Int) = 0
  · simp only [if_pos c]
    exact yes p s (Int.le_refl _) (by omega)
  · simp only [if_neg c]
    obtain ⟨o, ho, o2, o3⟩ := dw_one hl h0 (by omega) s 8
    simp only [ho, Option.bind_some]
    cases ho1 : o.1 with
    | true => exact yes _ _ o2 o3
    | false =>
      obtain ⟨u, hu, u0, u1, u2, u3⟩ := dw_pick hl (p := o.2.1) (by omega) (by omega) o.2.2 (L.length : Int)
      have u4 : u.1 < (L.length : Int) := by omega
      refine ⟨((rd_T26 L u.1).f0, u.2.1, u.2.2), Evn.step ?_, by dsimp only; omega, by dsimp only; omega⟩
      simp only [spec_l1Cur_permitId.j0, Bool.false_eq_true, if_false, hu, Option.bind_some, if_pos u0, if_pos u4]
      exact Evn.done _

theorem dw_DrawDecidePermit {l : List Int} (hl : Byts l) : ∃ r, Evn (fun k => spec_DrawDecidePermit.f k l) r ∧ r.1.length ≤ 20 ∧ okW r.1 := by
  unfold spec_DrawDecidePermit.f
  obtain ⟨a, ha, a1, a2, a3, a4⟩ := dw_permits hl (p := 0) (by decide) (by decide) 0
  obtain ⟨b, hb, b2, b3⟩ := dw_permitId hl (p := a.2.1) (by omega) (by omega) a.2.2 a.1
  obtain ⟨c, hc, c2, c3⟩ := dw_one hl (p := b.2.1) (by omega) (by omega) b.2.2 3
  refine ⟨(a.1, b.1, !c.1), Evn.bind ha (Evn.bind hb (Evn.of fun _ => ?_)), a1, a2⟩
  simp only [hc, Option.bind_some]

theorem cut_n {x c : Int} (h0 : 0 ≤ x) (h1 : x < 24) (hc : 0 ≤ c) (hc2 : c ≤ 100) : ∃ n : Nat, wrap64 (c + wrap64 (Int.tdiv x 11)) = (n : Int) ∧ c ≤ (n : Int) ∧ (n : Int) ≤ c + 2 := by
  have e : Int.tdiv x 11 = x / 11 := Int.tdiv_eq_ediv_of_nonneg h0
  rw [e, wrap_id (x := x / 11) (by omega) (by omega), wrap_id (by omega) (by omega)]
  exact ⟨(c + x / 11).toNat, by omega, by omega, by omega⟩

theorem dw_day22 {l : List Int} {p : Int} (hl : Byts l) (h0 : 0 ≤ p) (h1 : p ≤ 900000000) (s : Int) : ∃ r, spec_l1Cur_day22.f l p s = some r ∧ r.1 ∈ ([0, 3, 4, 10, 14, 20, 999, (-1), 1000] : List Int) ∧ p ≤ r.2.1 ∧ r.2.1 ≤ p + 4 := by
  unfold spec_l1Cur_day22.f
  obtain ⟨b, hb, b0, b1, b2, b3⟩ := dw_pick hl h0 (by omega) s 24
  obtain ⟨n, hn, n1, n2⟩ := cut_n (c := 7) b0 (by omega) (by decide) (by decide)
  have l1 : ([0, 3, 4, 10, 14, 20, 999, (-1), 1000] : List Int).length = 9 := rfl
  obtain ⟨c, hc, cm, c2, c3⟩ := dw_among hl (p := b.2.1) (by omega) (by omega) b.2.2 (([0, 3, 4, 10, 14, 20, 999, (-1), 1000] : List Int).take n) (by rw [List.length_take, l1]; omega)
  have q1 : 0 ≤ (n : Int) := by omega
  have q2 : (n : Int) ≤ ((9 : Nat) : Int) := by omega
  simp only [Option.bind_some, hb, hn, if_pos q1, l1, if_pos q2, Int.toNat_natCast, hc]
  exact ⟨_, rfl, List.mem_of_mem_take cm, by dsimp only; omega, by dsimp only; omega⟩

theorem dw_DrawUsePermit {l : List Int} (hl : Byts l) : ∃ r, Evn (fun k => spec_DrawUsePermit.f k l) r ∧ r.1.length ≤ 20 ∧ okW r.1 := by
  have l1 : ([1, 3, 4, 12, 0, 13] : List Int).length = 6 := rfl
  have tail : ∀ (q t : Int), 0 ≤ q → q ≤ 900000 → ∃ (n : Nat) (u : Int × Int × Int) (v : Int × Int × Int), spec_l1Cur_pick.f l q t 24 = some u ∧ wrap64 (4 + wrap64 (Int.tdiv u.1 11)) = (n : Int) ∧ (n : Int) ≤ ((6 : Nat) : Int) ∧ spec_l1Cur_among.f l u.2.1 u.2.2 (([1, 3, 4, 12, 0, 13] : List Int).take n) = some v := by
    intro q t h0 h1
    obtain ⟨b, hb, b0, b1, b2, b3⟩ := dw_pick hl h0 (by omega) t 24
    obtain ⟨n, hn, n1, n2⟩ := cut_n (c := 4) b0 (by omega) (by decide) (by decide)
    obtain ⟨c, hc, cm, c2, c3⟩ := dw_among hl (p := b.2.1) (by omega) (by omega) b.2.2 (([1, 3, 4, 12, 0, 13] : List Int).take n) (by rw [List.length_take, l1]; omega)
    exact ⟨n, b, c, hb, hn, by omega, hc⟩
  have no : ∀ (L : List S26) (n d i q t : Int), L.length ≤ 20 → okW L → 0 ≤ q → q ≤ 900000 → ∃ r, Evn (fun k => spec_DrawUsePermit.j0 k L n d i false l q t) r ∧ r.1.length ≤ 20 ∧ okW r.1 := by
    intro L n d i q t hL hw h0 h1
    obtain ⟨m, u, v, hu, hm, hm2, hv⟩ := tail q t h0 h1
    have q1 : 0 ≤ (m : Int) := by omega
    refine ⟨(L, n, d, v.1), Evn.step ?_, hL, hw⟩
    simp only [spec_DrawUsePermit.j0, Bool.false_eq_true, if_false, Option.bind_some, hu, hm, if_pos q1, l1, if_pos hm2, Int.toNat_natCast, hv]
    exact Evn.done _
  unfold spec_DrawUsePermit.f
  obtain ⟨a, ha, a1, a2, a3, a4⟩ := dw_permits hl (p := 0) (by decide) (by decide) 0
  obtain ⟨b, hb, b2, b3⟩ := dw_permitId hl (p := a.2.1) (by omega) (by omega) a.2.2 a.1
  obtain ⟨c, hc, _, c2, c3⟩ := dw_day22 hl (p := b.2.1) (by omega) (by omega) b.2.2
  have hf := sp_l22Find a.1 (by omega) b.1
  have hr := idxQ_range (fun x => x.f0 == b.1) a.1 0 (by omega)
  by_cases g : idxP26 (fun x => x.f0 == b.1) a.1 0 ≥ 0
  · obtain ⟨o, ho, o2, o3⟩ := dw_one hl (p := c.2.1) (by omega) (by omega) c.2.2 4
    cases ho1 : o.1 with
    | true =>
      obtain ⟨r, hr1, hr2⟩ := no a.1 b.1 c.1 (idxP26 (fun x => x.f0 == b.1) a.1 0) o.2.1 o.2.2 a1 a2 (by omega) (by omega)
      refine ⟨r, Evn.bind ha (Evn.bind hb ?_), hr2⟩
      simp only [hc, Option.bind_some]
      refine Evn.bind hf ?_
      simp only [if_pos g, ho, Option.bind_some, ho1, Bool.not_true]
      exact hr1
    | false =>
      obtain ⟨w, hw, _, w2, w3⟩ := dw_among hl (p := o.2.1) (by omega) (by omega) o.2.2 [0, 0, 1, -1] (by simp)
      obtain ⟨m, u, v, hu, hm, hm2, hv⟩ := tail w.2.1 w.2.2 (by omega) (by omega)
      have q1 : 0 ≤ (m : Int) := by omega
      have g0 : 0 ≤ idxP26 (fun x => x.f0 == b.1) a.1 0 := g
      have g1 : idxP26 (fun x => x.f0 == b.1) a.1 0 < (a.1.length : Int) := by omega
      refine ⟨(a.1, b.1, wrap64 ((rd_T26 a.1 (idxP26 (fun x => x.f0 == b.1) a.1 0)).f2 + w.1), v.1), Evn.bind ha (Evn.bind hb ?_), a1, a2⟩
      simp only [hc, Option.bind_some]
      refine Evn.bind hf ?_
      simp only [if_pos g, ho, Option.bind_some, ho1, Bool.not_false]
      refine Evn.step ?_
      simp only [spec_DrawUsePermit.j0, if_true, if_pos g0, if_pos g1, Option.bind_some, hw, hu, hm, if_pos q1, l1, if_pos hm2, Int.toNat_natCast, hv]
      exact Evn.done _
  · obtain ⟨r, hr1, hr2⟩ := no a.1 b.1 c.1 (idxP26 (fun x => x.f0 == b.1) a.1 0) c.2.1 c.2.2 a1 a2 (by omega) (by omega)
    refine ⟨r, Evn.bind ha (Evn.bind hb ?_), hr2⟩
    simp only [hc, Option.bind_some]
    refine Evn.bind hf ?_
    simp only [if_neg g]
    exact hr1

theorem dw_DrawLapsePermits {l : List Int} (hl : Byts l) : ∃ r, Evn (fun k => spec_DrawLapsePermits.f k l) r ∧ r.1.length ≤ 20 ∧ okW r.1 := by
  unfold spec_DrawLapsePermits.f
  obtain ⟨a, ha, a1, a2, a3, a4⟩ := dw_permits hl (p := 0) (by decide) (by decide) 0
  obtain ⟨b, hb, _, b2, b3⟩ := dw_day22 hl (p := a.2.1) (by omega) (by omega) a.2.2
  refine ⟨(a.1, b.1), Evn.bind ha (Evn.of fun _ => ?_), a1, a2⟩
  simp only [hb, Option.bind_some]

theorem dw_DrawAllowedOn {l : List Int} (hl : Byts l) : ∃ r, Evn (fun k => spec_DrawAllowedOn.f k l) r ∧ r.1.length ≤ 20 ∧ okW r.1 := by
  unfold spec_DrawAllowedOn.f
  obtain ⟨a, ha, a1, a2, a3, a4⟩ := dw_permits hl (p := 0) (by decide) (by decide) 0
  obtain ⟨c, hc, _, c2, c3⟩ := dw_cave22 hl (p := a.2.1) (by omega) (by omega) a.2.2
  obtain ⟨b, hb, _, b2, b3⟩ := dw_day22 hl (p := c.2.1) (by omega) (by omega) c.2.2
  refine ⟨(a.1, c.1, b.1), Evn.bind ha (Evn.of fun _ => ?_), a1, a2⟩
  simp only [hc, hb, Option.bind_some]

theorem im_within (x y z : Int) : impl_within.f x y z = some (decide (y ≤ x ∧ x ≤ z)) := by
  unfold impl_within.f
  by_cases h : x ≥ y <;> simp [h] <;> omega

theorem im_isWord (b : ByteArray) : impl_isWord.f b = some (wordB b) := rfl
theorem im_isId (a : Int) : impl_isId.f a = some (decide (1 ≤ a ∧ a ≤ 99)) := by simp only [impl_isId.f, im_within, Option.bind_some]
theorem im_isDay (a : Int) : impl_isDay.f a = some (decide (0 ≤ a ∧ a ≤ 999)) := by simp only [impl_isDay.f, im_within, Option.bind_some]
theorem im_IsPermit (a : Int) (b : ByteArray) (c d e f : Int) : impl_IsPermit.f a b c d e f = some (goodP a b c d e f) := by
  unfold impl_IsPermit.f goodP
  simp only [im_isId, im_isDay, im_isWord, im_within, Option.bind_some, ite_if]

theorem im_counts (a : Int) (b : ByteArray) (c d e f : Int) : impl_Permit_counts.f a b c d e f = some (holdsP f) := by
  unfold impl_Permit_counts.f holdsP
  by_cases h : f = 1 <;> simp [h]
theorem im_conflict (a b : S26) : impl_conflict.f a.f0 a.f1 a.f2 a.f3 a.f4 a.f5 b.f0 b.f1 b.f2 b.f3 b.f4 b.f5 = some (confP a b) := by
  unfold impl_conflict.f confP
  simp only [im_counts, Option.bind_some]
  by_cases h1 : a.f1.toList = b.f1.toList <;> by_cases h2 : a.f2 ≤ b.f3 <;> by_cases h3 : b.f2 ≤ a.f3 <;> cases holdsP a.f5 <;> cases holdsP b.f5 <;> simp [h1, h2, h3]
theorem im_xConflicts (ys : List S26) (a : S26) : impl_xConflicts.f ys a.f0 a.f1 a.f2 a.f3 a.f4 a.f5 = some (ys.any fun y => confP y a) := by
  unfold impl_xConflicts.f
  congr 2
  funext x
  rw [im_conflict, confP_comm a x]
  cases confP x a <;> rfl
theorem im_ArePermits_l0 (xs : List S26) (hx : xs.length ≤ 4194304) : ∀ (d i : Nat), i + d = xs.length → Evn (fun k => impl_ArePermits.l0 k xs xs (xs.length : Int) (i : Int)) (goodPl xs d i) := by
  intro d
  induction d with
  | zero =>
    intro i h
    refine Evn.step ?_
    have h1 : ¬ (i : Int) < (xs.length : Int) := by omega
    simp only [impl_ArePermits.l0, if_neg h1, goodPl]
    exact Evn.done _
  | succ d ih =>
    intro i h
    refine Evn.step ?_
    have h1 : (i : Int) < (xs.length : Int) := by omega
    have h2 : 0 ≤ (i : Int) := by omega
    have h6 : (i : Int) ≤ (xs.length : Int) := by omega
    have hih := ih (i + 1) (by omega)
    simp only [impl_ArePermits.l0, if_pos h1, if_pos h2, if_pos h6, im_IsPermit, im_xConflicts, Option.bind_some, wrap_succ (show i < 4611686018427387904 by omega), rd_T26, Int.toNat_natCast, goodPl]
    change Evn _ (okP (xs.getD i z26) && _)
    have fin : Evn (fun k => if ((xs.take i).any fun y => confP y (xs.getD i z26)) = true then some false else impl_ArePermits.l0 k xs xs (xs.length : Int) ((i + 1 : Nat) : Int)) (!((xs.take i).any fun y => confP y (xs.getD i z26)) && goodPl xs d (i + 1)) :=
      Evn.ite (fun c => (Evn.done _).eq_ (by rw [c]; rfl)) (fun c => hih.eq_ (by rw [Bool.eq_false_iff.mpr c]; rfl))
    refine Evn.ite (fun c1 => ?_) (fun c1 => ?_)
    · rw [show okP (xs.getD i z26) = true from c1, Bool.true_and]
      rcases Nat.eq_zero_or_pos i with h0 | h0
      · subst h0
        have h3 : ¬ ((0 : Nat) : Int) > 0 := by omega
        simp only [if_neg h3, decide_true, Bool.true_or, Bool.true_and]
        exact fin
      · obtain ⟨j, rfl⟩ : ∃ j, i = j + 1 := ⟨i - 1, by omega⟩
        have h3 : ((j + 1 : Nat) : Int) > 0 := by omega
        have h4 : 0 ≤ (j : Int) := by omega
        have h5 : (j : Int) < (xs.length : Int) := by omega
        simp only [if_pos h3, wrap_pred (show j < 4611686018427387904 by omega), if_pos h4, if_pos h5, Int.toNat_natCast, Nat.add_sub_cancel]
        refine Evn.ite (fun c3 => (Evn.done _).eq_ ?_) (fun c3 => fin.eq_ ?_)
        · have e1 : decide ((xs.getD j z26).f0 < (xs.getD (j + 1) z26).f0) = false := decide_eq_false (by omega)
          simp only [e1, show decide (j + 1 = 0) = false from by simp, Bool.or_false, Bool.false_and]
        · have e1 : decide ((xs.getD j z26).f0 < (xs.getD (j + 1) z26).f0) = true := decide_eq_true (by omega)
          simp only [e1, Bool.or_true, Bool.true_and]
    · rw [show okP (xs.getD i z26) = false from Bool.eq_false_iff.2 c1, Bool.false_and]
      exact Evn.done _
theorem im_ArePermits (xs : List S26) (hx : xs.length ≤ 4194304) : Evn (fun k => impl_ArePermits.f k xs) (goodPs xs) := im_ArePermits_l0 xs hx xs.length 0 (by omega)

theorem im_xAllowed (xs : List S26) (q : ByteArray) (n : Int) : impl_xAllowed.f xs q n = some (idxP26 (onDay q n) xs 0) := rfl
theorem im_AllowedOn (xs : List S26) (hx : xs.length ≤ 4194304) (q : ByteArray) (n : Int) : Evn (fun k => impl_AllowedOn.f k xs q n) (allowedM xs q n) := by
  unfold impl_AllowedOn.f allowedM
  refine Evn.bind (im_ArePermits xs hx) ?_
  by_cases c : goodPs xs = true
  · simp only [if_pos c, im_isDay, im_isWord, impl_allowed.f, im_xAllowed, Option.bind_some]
    have hr := idxQ_range (onDay q n) xs 0 (by omega)
    by_cases cw : wordB q = true
    · simp only [if_pos cw]
      by_cases c2 : 0 ≤ n ∧ n ≤ 999
      · simp only [decide_eq_true c2, if_true, if_pos c2]
        by_cases c3 : idxP26 (onDay q n) xs 0 < 0
        · simp only [if_pos c3, Option.bind_some]
          exact Evn.done _
        · simp only [if_neg c3, if_pos (show 0 ≤ idxP26 (onDay q n) xs 0 by omega), if_pos (show idxP26 (onDay q n) xs 0 < (xs.length : Int) by omega), Option.bind_some]
          exact Evn.done _
      · simp only [decide_eq_false c2, Bool.false_eq_true, if_false, if_neg c2]
        exact Evn.done _
    · simp only [if_neg cw, noWord_none xs q n c cw]
      by_cases c2 : 0 ≤ n ∧ n ≤ 999
      · simp only [if_pos c2]
        exact Evn.done _
      · simp only [if_neg c2]
        exact Evn.done _
  · simp only [if_neg c]
    exact Evn.done _

theorem im_Clone (xs : List S26) (hx : xs.length ≤ 4194304) : impl_Permit_68.f xs = some xs := by
  unfold impl_Permit_68.f
  rw [if_pos (by omega)]

theorem im_Lapse_l0 (day : Int) (N : Nat) (hN : N ≤ 4194304) : ∀ (d i : Nat) (xs : List S26) (n : Int), xs.length = N → i + d = N → 0 ≤ n → n + d ≤ 8388608 → Evn (fun k => impl_LapsePermits.l0 k day xs n (N : Int) (i : Int)) ((lapL day d i xs n).1, (lapL day d i xs n).2, true) := by
  intro d
  induction d with
  | zero =>
    intro i xs n hx h h0 hn
    refine Evn.step ?_
    have h1 : ¬ (i : Int) < (N : Int) := by omega
    simp only [impl_LapsePermits.l0, if_neg h1]
    exact Evn.done _
  | succ d ih =>
    intro i xs n hx h h0 hn
    refine Evn.step ?_
    have h1 : (i : Int) < (N : Int) := by omega
    have h3 : (i : Int) < (xs.length : Int) := by omega
    have h2 : 0 ≤ (i : Int) := by omega
    have hw : wrap64 (n + 1) = n + 1 := wrap_id (by omega) (by omega)
    have k1 := ih (i + 1) xs n hx (by omega) h0 (by omega)
    have k2 := ih (i + 1) (setP xs (i : Int) 4) (n + 1) (by rw [setP_len]; exact hx) (by omega) (by omega) (by omega)
    simp only [impl_LapsePermits.l0, if_pos h1, if_pos h2, if_pos h3, im_counts, Option.bind_some, hw, wrap_succ (show i < 4611686018427387904 by omega)]
    rw [lapL]
    refine Evn.ite (fun c => ?_) (fun c => k1.eq_ (by rw [if_neg c]))
    rw [if_pos c]
    exact Evn.ite (fun c2 => k2.eq_ (by rw [if_pos c2])) (fun c2 => k1.eq_ (by rw [if_neg c2]))
theorem im_LapsePermits (xs : List S26) (hx : xs.length ≤ 4194304) (day : Int) : Evn (fun k => impl_LapsePermits.f k xs day) (lapM xs day) := by
  unfold impl_LapsePermits.f lapM
  have no : Evn (fun k => impl_LapsePermits.j0 k xs day true) ([], 0, false) := by
    refine Evn.step ?_
    simp only [impl_LapsePermits.j0, if_true]
    exact Evn.done _
  refine Evn.bind (im_ArePermits xs hx) ?_
  refine Evn.ite (fun c => ?_) (fun c => no.eq_ (by rw [if_neg c]))
  rw [if_pos c]
  simp only [im_isDay, Option.bind_some]
  by_cases c2 : 0 ≤ day ∧ day ≤ 999
  · rw [decide_eq_true c2, if_pos c2]
    refine Evn.step ?_
    simp only [impl_LapsePermits.j0, Bool.not_true, Bool.false_eq_true, if_false, im_Clone xs hx, Option.bind_some]
    exact im_Lapse_l0 day xs.length hx xs.length 0 xs 0 rfl (by omega) (by omega) (by omega)
  · rw [decide_eq_false c2, if_neg c2]
    exact no

theorem im_permitAt (xs : List S26) (hx : xs.length ≤ 4194304) (n : Int) : Evn (fun k => impl_permitAt.f k xs n) (idxP26 (fun x => x.f0 == n) xs 0, decide (0 ≤ idxP26 (fun x => x.f0 == n) xs 0) && goodPs xs) := by
  unfold impl_permitAt.f impl_xPermitId.f
  simp only [Option.bind_some]
  refine Evn.ite (fun c => Evn.bind (im_ArePermits xs hx) ((Evn.done _).eq_ ?_)) (fun c => (Evn.done _).eq_ ?_)
  · rw [decide_eq_true (by omega), Bool.true_and]
  · rw [decide_eq_false (by omega), Bool.false_and]
theorem im_withState (xs : List S26) (hx : xs.length ≤ 4194304) (i s : Int) (h0 : 0 ≤ i) (h1 : i < (xs.length : Int)) : Evn (fun k => impl_withState.f k xs i s) (withM xs i s) := by
  unfold impl_withState.f
  simp only [im_Clone xs hx, Option.bind_some, if_pos h0, if_pos h1]
  refine Evn.bind (im_ArePermits (setP xs i s) (by rw [setP_len]; exact hx)) ?_
  exact Evn.ite (fun c => (Evn.done _).eq_ (by unfold withM; rw [if_pos c]; rfl)) (fun c => (Evn.done _).eq_ (by unfold withM; rw [if_neg c]))

theorem im_UsePermit (xs : List S26) (hx : xs.length ≤ 4194304) (n d p : Int) : Evn (fun k => impl_UsePermit.f k xs n d p) (useM xs n d p) := by
  unfold impl_UsePermit.f useM
  refine Evn.bind (im_permitAt xs hx n) ?_
  have hr := idxQ_range (fun x => x.f0 == n) xs 0 (by omega)
  generalize idxP26 (fun x => x.f0 == n) xs 0 = i at hr
  have no : Evn (fun k => impl_UsePermit.j0 k xs d p i true) ([], false) := by
    refine Evn.step ?_
    simp only [impl_UsePermit.j0, if_true]
    exact Evn.done _
  refine Evn.ite (fun c => ?_) (fun c => no.eq_ (by rw [if_neg (fun h => c (by rw [h.1, decide_eq_true h.2.1]; rfl))]))
  have c' := (Bool.and_eq_true _ _ ▸ c : decide (0 ≤ i) = true ∧ goodPs xs = true)
  have h0 : 0 ≤ i := of_decide_eq_true c'.1
  have h1 : i < (xs.length : Int) := by omega
  have hk := okP_parts (goodPs_at xs i c'.2 h0 h1)
  simp only [im_isDay, im_within, Option.bind_some]
  by_cases c2 : 0 ≤ d ∧ d ≤ 999
  · by_cases c3 : 1 ≤ p ∧ p ≤ 12
    · simp only [decide_eq_true c2, decide_eq_true c3, if_true, Bool.not_true]
      refine Evn.step ?_
      simp only [impl_UsePermit.j0, Bool.false_eq_true, if_false, if_pos h0, if_pos h1, im_counts, im_within, Option.bind_some]
      by_cases c4 : holdsP (rd_T26 xs i).f5 = true
      · simp only [if_pos c4]
        by_cases c5 : (rd_T26 xs i).f2 ≤ d ∧ d ≤ (rd_T26 xs i).f3
        · simp only [decide_eq_true c5, if_true]
          by_cases c6 : p > (rd_T26 xs i).f4
          · simp only [if_pos c6]
            refine (Evn.done _).eq_ ?_
            rw [if_neg (fun h => ?_)]
            have := h.2.2
            unfold useOk at this
            simp only [Bool.and_eq_true, decide_eq_true_eq] at this
            omega
          · simp only [if_neg c6]
            have hg : goodPs (setP xs i 3) = true := goodPs_set xs i 3 c'.2 h0 h1 (by rw [c4]; rfl) (by omega)
            refine Evn.bind (im_withState xs hx i 3 h0 h1) ((Evn.done _).eq_ ?_)
            rw [if_pos ⟨c'.2, h0, by unfold useOk; rw [c4, decide_eq_true c5, decide_eq_true (by omega)]; rfl⟩]
            unfold withM
            rw [if_pos hg]
        · simp only [decide_eq_false c5, Bool.false_eq_true, if_false]
          exact (Evn.done _).eq_ (by rw [if_neg (fun h => by have := h.2.2; unfold useOk at this; simp only [Bool.and_eq_true, decide_eq_true_eq] at this; exact c5 this.2.1)])
      · simp only [if_neg c4]
        exact (Evn.done _).eq_ (by rw [if_neg (fun h => by have := h.2.2; unfold useOk at this; simp only [Bool.and_eq_true, decide_eq_true_eq] at this; exact c4 this.1)])
    · simp only [decide_eq_true c2, decide_eq_false c3, if_true, Bool.not_false]
      refine no.eq_ ?_
      rw [if_neg (fun h => ?_)]
      have := h.2.2
      unfold useOk at this
      simp only [Bool.and_eq_true, decide_eq_true_eq] at this
      omega
  · simp only [decide_eq_false c2, Bool.false_eq_true, if_false]
    refine no.eq_ ?_
    rw [if_neg (fun h => ?_)]
    have := h.2.2
    unfold useOk at this
    simp only [Bool.and_eq_true, decide_eq_true_eq] at this
    omega

theorem im_DecidePermit (xs : List S26) (hx : xs.length ≤ 4194304) (n : Int) (g : Bool) : Evn (fun k => impl_DecidePermit.f k xs n g) (decM xs n g) := by
  unfold impl_DecidePermit.f decM
  refine Evn.bind (im_permitAt xs hx n) ?_
  have hr := idxQ_range (fun x => x.f0 == n) xs 0 (by omega)
  generalize idxP26 (fun x => x.f0 == n) xs 0 = i at hr
  have no : ∀ i, Evn (fun k => impl_DecidePermit.j0 k xs g i true) ([], false) := fun i => by
    refine Evn.step ?_
    simp only [impl_DecidePermit.j0, if_true]
    exact Evn.done _
  refine Evn.ite (fun c => ?_) (fun c => (no i).eq_ (by rw [if_neg (fun h => c (by rw [h.1, decide_eq_true h.2.1]; rfl))]))
  have c' := (Bool.and_eq_true _ _ ▸ c : decide (0 ≤ i) = true ∧ goodPs xs = true)
  have h0 : 0 ≤ i := of_decide_eq_true c'.1
  have h1 : i < (xs.length : Int) := by omega
  simp only [if_pos h0, if_pos h1]
  by_cases c3 : (rd_T26 xs i).f5 = 0
  · rw [if_pos ⟨c'.2, h0, c3⟩]
    have e : ((rd_T26 xs i).f5 != 0) = false := by rw [c3]; rfl
    rw [e]
    refine Evn.step ?_
    simp only [impl_DecidePermit.j0, Bool.false_eq_true, if_false]
    cases g with
    | true => simp only [if_true]; exact Evn.bind (im_withState xs hx i 1 h0 h1) (Evn.done _)
    | false => simp only [Bool.false_eq_true, if_false]; exact Evn.bind (im_withState xs hx i 2 h0 h1) (Evn.done _)
  · have e : ((rd_T26 xs i).f5 != 0) = true := by simpa using c3
    rw [e, if_neg (fun h => c3 h.2.2)]
    exact no i

theorem ev_rPermits_l0 (xs : List S26) : ∀ (D i : Nat), i + D = xs.length → xs.length ≤ 4194304 → Evn (fun k => laws_rPermits.l0 k xs xs (i : Int)) true := by
  intro D
  induction D with
  | zero =>
    intro i h hx
    refine Evn.step ?_
    have h1 : ¬ (i : Int) < (xs.length : Int) := by omega
    simp only [laws_rPermits.l0, if_neg h1]
    exact Evn.done _
  | succ D ih =>
    intro i h hx
    refine Evn.step ?_
    have h1 : (i : Int) < (xs.length : Int) := by omega
    have h2 : 0 ≤ (i : Int) := by omega
    simp only [laws_rPermits.l0, if_pos h1, if_pos h2, beq_self_eq_true, Bool.not_true, Bool.or_self, Bool.false_eq_true, if_false, wrap_succ (show i < 4611686018427387904 by omega)]
    exact ih (i + 1) (by omega) hx
theorem ev_rPermits (xs : List S26) (hx : xs.length ≤ 4194304) : Evn (fun k => laws_rPermits.f k xs xs) true := by
  unfold laws_rPermits.f
  simp only [if_true]
  exact ev_rPermits_l0 xs xs.length 0 (by omega) hx

/-! Permits of a good list: where they stand, and that they do not conflict. -/
theorem drop_at' {α : Type} (l : List α) (i : Nat) (z : α) (h : i < l.length) : l.drop i = l.getD i z :: l.drop (i + 1) := by
  have e : l.getD i z = l[i] := by rw [List.getD_eq_getElem?_getD, List.getElem?_eq_getElem h]; rfl
  rw [e]
  exact List.drop_eq_getElem_cons h
theorem idxQ_at (p : S26 → Bool) (l : List S26) (q : Nat) (hq : q < l.length) (hp : p (l.getD q z26) = true) (hn : ∀ j, j < q → p (l.getD j z26) = false) : ∀ (d i : Nat), i + d = q → idxP26 p (l.drop i) (i : Int) = (q : Int) := by
  intro d
  induction d with
  | zero =>
    intro i h
    obtain rfl : i = q := by omega
    rw [drop_at' l i z26 hq, idxP26, if_pos hp]
  | succ d ih =>
    intro i h
    rw [drop_at' l i z26 (by omega), idxP26, if_neg (by rw [hn i (by omega)]; decide)]
    exact ih (i + 1) (by omega)
theorem idxQ_at0 (p : S26 → Bool) (l : List S26) (q : Nat) (hq : q < l.length) (hp : p (l.getD q z26) = true) (hn : ∀ j, j < q → p (l.getD j z26) = false) : idxP26 p l 0 = (q : Int) := idxQ_at p l q hq hp hn q 0 (by omega)
theorem idxQ_find (p : S26 → Bool) : ∀ (l : List S26) (i : Int), 0 ≤ i → 0 ≤ idxP26 p l i → ∃ q : Nat, idxP26 p l i = i + q ∧ q < l.length ∧ p (l.getD q z26) = true := by
  intro l
  induction l with
  | nil => intro i _ h; exact absurd h (by show ¬ (0 : Int) ≤ -1; decide)
  | cons x l ih =>
    intro i h0 h
    rw [idxP26] at h ⊢
    by_cases c : p x = true
    · rw [if_pos c]; exact ⟨0, by omega, by simp, by simpa using c⟩
    · rw [if_neg c] at h ⊢
      obtain ⟨q, e, hq, hp⟩ := ih (i + 1) (by omega) h
      exact ⟨q + 1, by omega, by simp; omega, by simpa using hp⟩
theorem idxQ_not (p : S26 → Bool) (l : List S26) (hn : ∀ j, j < l.length → p (l.getD j z26) = false) : idxP26 p l 0 = -1 := by
  rcases Int.lt_or_le (idxP26 p l 0) 0 with h | h
  · rcases idxQ_range p l 0 (by omega) with e | e
    · exact e
    · omega
  · obtain ⟨q, _, hq, hp⟩ := idxQ_find p l 0 (by omega) h
    rw [hn q hq] at hp
    cases hp
theorem ids_lt {xs : List S26} (h : goodPs xs = true) : ∀ (d i : Nat), i + d + 1 < xs.length → (xs.getD i z26).f0 < (xs.getD (i + d + 1) z26).f0 := by
  intro d
  induction d with
  | zero =>
    intro i hi
    have := (((goodPs_iff xs).1 h).2 (i + 1) (by omega)).2.1
    rcases this with e | e
    · omega
    · simpa using e
  | succ d ih =>
    intro i hi
    have h1 := ih i (by omega)
    have := (((goodPs_iff xs).1 h).2 (i + d + 1 + 1) (by omega)).2.1
    rcases this with e | e
    · omega
    · rw [Nat.add_sub_cancel] at e
      have : i + (d + 1) + 1 = i + d + 1 + 1 := by omega
      rw [this]
      omega
theorem ids_inj {xs : List S26} (h : goodPs xs = true) (i j : Nat) (hi : i < xs.length) (hj : j < xs.length) (e : (xs.getD i z26).f0 = (xs.getD j z26).f0) : i = j := by
  rcases Nat.lt_trichotomy i j with c | c | c
  · have := ids_lt h (j - i - 1) i (by omega)
    rw [show i + (j - i - 1) + 1 = j by omega] at this
    omega
  · exact c
  · have := ids_lt h (i - j - 1) j (by omega)
    rw [show j + (i - j - 1) + 1 = i by omega] at this
    omega
theorem no_conf {xs : List S26} (h : goodPs xs = true) (i j : Nat) (hi : i < xs.length) (hj : j < xs.length) (hne : i ≠ j) : confP (xs.getD i z26) (xs.getD j z26) = false := by
  rcases Nat.lt_or_ge i j with c | c
  · exact (((goodPs_iff xs).1 h).2 j hj).2.2 i c
  · rw [confP_comm]
    exact (((goodPs_iff xs).1 h).2 i hi).2.2 j (by omega)
theorem conf_of (a b : S26) (hb : holdsP b.f5 = true) (n : Int) (h1 : b.f2 ≤ n) (h2 : n ≤ b.f3) (ha : onDay b.f1 n a = true) : confP a b = true := by
  unfold onDay at ha
  rw [Bool.and_eq_true, Bool.and_eq_true] at ha
  obtain ⟨a1, a2, a3⟩ := ha
  have a3 := of_decide_eq_true a3
  unfold confP
  rw [Bool.and_eq_true, Bool.and_eq_true, Bool.and_eq_true, Bool.and_eq_true]
  exact ⟨⟨a1, hb⟩, a2, decide_eq_true (by omega), decide_eq_true (by omega)⟩
theorem getD_set (xs : List S26) (q : Nat) (y : S26) (hq : q < xs.length) (j : Nat) : (xs.set q y).getD j z26 = if j = q then y else xs.getD j z26 := by
  rw [List.getD_eq_getElem?_getD, List.getElem?_set, List.getD_eq_getElem?_getD]
  by_cases h : j = q
  · subst h
    rw [if_pos rfl, if_pos rfl, if_pos hq]
    rfl
  · rw [if_neg (fun e => h e.symm), if_neg h]
theorem setP_getD (xs : List S26) (q : Nat) (s : Int) (hq : q < xs.length) (j : Nat) : (setP xs (q : Int) s).getD j z26 = if j = q then setSt (xs.getD q z26) s else xs.getD j z26 := by
  unfold setP
  rw [Int.toNat_natCast, getD_set xs q _ hq j]
  unfold rd_T26
  rw [Int.toNat_natCast]

/-! A permit that is given: what may be done with it, and that it lapses. -/
theorem lapL_getD (day : Int) : ∀ (d i : Nat) (xs : List S26) (n : Int), i + d = xs.length → ∀ j, (lapL day d i xs n).1.getD j z26 = if i ≤ j ∧ j < xs.length ∧ holdsP (xs.getD j z26).f5 = true ∧ (xs.getD j z26).f3 < day then setSt (xs.getD j z26) 4 else xs.getD j z26 := by
  intro d
  induction d with
  | zero =>
    intro i xs n h j
    rw [lapL, if_neg (by omega)]
  | succ d ih =>
    intro i xs n h j
    have hr : rd_T26 xs (i : Int) = xs.getD i z26 := by unfold rd_T26; rw [Int.toNat_natCast]
    rw [lapL, hr]
    by_cases c1 : holdsP (xs.getD i z26).f5 = true
    · rw [if_pos c1]
      by_cases c2 : (xs.getD i z26).f3 < day
      · rw [if_pos c2, ih (i + 1) _ _ (by rw [setP_len]; omega) j, setP_len, setP_getD xs i 4 (by omega) j]
        by_cases e : j = i
        · subst e
          rw [if_pos rfl, if_neg (by omega), if_pos ⟨Nat.le_refl _, by omega, c1, c2⟩]
        · rw [if_neg e]
          by_cases g : i + 1 ≤ j ∧ j < xs.length ∧ holdsP (xs.getD j z26).f5 = true ∧ (xs.getD j z26).f3 < day
          · rw [if_pos g, if_pos ⟨by omega, g.2⟩]
          · rw [if_neg g, if_neg (fun g' => g ⟨by omega, g'.2⟩)]
      · rw [if_neg c2, ih (i + 1) xs n (by omega) j]
        by_cases g : i + 1 ≤ j ∧ j < xs.length ∧ holdsP (xs.getD j z26).f5 = true ∧ (xs.getD j z26).f3 < day
        · rw [if_pos g, if_pos ⟨by omega, g.2⟩]
        · rw [if_neg g, if_neg (fun g' => g ⟨by rcases Nat.eq_or_lt_of_le g'.1 with e | e; { subst e; exact absurd g'.2.2.2 c2 }; exact e, g'.2⟩)]
    · rw [if_neg c1, ih (i + 1) xs n (by omega) j]
      by_cases g : i + 1 ≤ j ∧ j < xs.length ∧ holdsP (xs.getD j z26).f5 = true ∧ (xs.getD j z26).f3 < day
      · rw [if_pos g, if_pos ⟨by omega, g.2⟩]
      · rw [if_neg g, if_neg (fun g' => g ⟨by rcases Nat.eq_or_lt_of_le g'.1 with e | e; { subst e; exact absurd g'.2.2.1 c1 }; exact e, g'.2⟩)]
theorem lapL_up (day : Int) : ∀ (d i : Nat) (xs : List S26) (n : Int), n ≤ (lapL day d i xs n).2 := by
  intro d
  induction d with
  | zero => intro i xs n; exact Int.le_refl _
  | succ d ih =>
    intro i xs n
    rw [lapL]
    split
    · split
      · have := ih (i + 1) (setP xs (i : Int) 4) (n + 1); omega
      · exact ih ..
    · exact ih ..
theorem lapL_one (day : Int) (q : Nat) : ∀ (d i : Nat) (xs : List S26) (n : Int), i + d = xs.length → i ≤ q → q < xs.length → holdsP (xs.getD q z26).f5 = true → (xs.getD q z26).f3 < day → n + 1 ≤ (lapL day d i xs n).2 := by
  intro d
  induction d with
  | zero => intro i xs n h h1 h2; omega
  | succ d ih =>
    intro i xs n h h1 h2 h3 h4
    have hr : rd_T26 xs (i : Int) = xs.getD i z26 := by unfold rd_T26; rw [Int.toNat_natCast]
    rw [lapL, hr]
    rcases Nat.eq_or_lt_of_le h1 with e | e
    · subst e
      rw [if_pos h3, if_pos h4]
      exact lapL_up ..
    · split
      · split
        · have hg := setP_getD xs i 4 (by omega) q
          rw [if_neg (by omega)] at hg
          have := ih (i + 1) (setP xs (i : Int) 4) (n + 1) (by rw [setP_len]; omega) (by omega) (by rw [setP_len]; exact h2) (by rw [hg]; exact h3) (by rw [hg]; exact h4)
          omega
        · exact ih (i + 1) xs n (by omega) (by omega) h2 h3 h4
      · exact ih (i + 1) xs n (by omega) (by omega) h2 h3 h4
/-! What deciding gives. -/
theorem given {xs : List S26} {n : Int} (h : (decM xs n true).2 = true) : ∃ q : Nat, q < (decM xs n true).1.length ∧ goodPs (decM xs n true).1 = true ∧ ((decM xs n true).1.getD q z26).f0 = n ∧ ((decM xs n true).1.getD q z26).f5 = 1 := by
  unfold decM at h ⊢
  by_cases c : goodPs xs = true ∧ 0 ≤ idxP26 (fun x => x.f0 == n) xs 0 ∧ (rd_T26 xs (idxP26 (fun x => x.f0 == n) xs 0)).f5 = 0
  · rw [if_pos c] at h ⊢
    obtain ⟨q, e, hq, hp⟩ := idxQ_find (fun x => x.f0 == n) xs 0 (by omega) c.2.1
    rw [Int.zero_add] at e
    rw [e, if_pos rfl] at h ⊢
    unfold withM at h ⊢
    by_cases g : goodPs (setP xs (q : Int) 1) = true
    · rw [if_pos g] at h ⊢
      have hg := setP_getD xs q 1 hq q
      rw [if_pos rfl] at hg
      refine ⟨q, by rw [setP_len]; exact hq, g, ?_, ?_⟩
      · rw [hg]; exact eq_of_beq hp
      · rw [hg]; rfl
    · rw [if_neg g] at h; cases h
  · rw [if_neg c] at h; cases h
theorem given_id {xs : List S26} (g : goodPs xs = true) {q : Nat} (hq : q < xs.length) : idxP26 (fun x => x.f0 == (xs.getD q z26).f0) xs 0 = (q : Int) :=
  idxQ_at0 _ xs q hq (by simp) fun j hj => by
    rw [beq_eq_false_iff_ne]
    intro e
    have := ids_inj g j q (by omega) hq e
    omega
theorem given_allowed {xs : List S26} (g : goodPs xs = true) {q : Nat} (hq : q < xs.length) (hs : holdsP (xs.getD q z26).f5 = true) : allowedM xs (xs.getD q z26).f1 (xs.getD q z26).f2 = ((xs.getD q z26).f0, true) := by
  have ok := okP_parts (((goodPs_iff xs).1 g).2 q hq).1
  have hi : idxP26 (onDay (xs.getD q z26).f1 (xs.getD q z26).f2) xs 0 = (q : Int) := by
    refine idxQ_at0 _ xs q hq ?_ fun j hj => ?_
    · unfold onDay
      rw [Bool.and_eq_true, Bool.and_eq_true]
      exact ⟨hs, decide_eq_true rfl, decide_eq_true ⟨by omega, by omega⟩⟩
    · cases c : onDay (xs.getD q z26).f1 (xs.getD q z26).f2 (xs.getD j z26) with
      | false => rfl
      | true =>
        have := conf_of _ _ hs _ (Int.le_refl _) ok.2.1.1 c
        rw [no_conf g j q (by omega) hq (by omega)] at this
        cases this
  unfold allowedM
  rw [if_pos g, if_pos ⟨ok.1.1, ok.1.2⟩, hi, if_neg (by omega)]
  unfold rd_T26
  rw [Int.toNat_natCast]
theorem given_use {xs : List S26} (g : goodPs xs = true) {q : Nat} (hq : q < xs.length) (hs : holdsP (xs.getD q z26).f5 = true) : useM xs (xs.getD q z26).f0 (xs.getD q z26).f3 (xs.getD q z26).f4 = (setP xs (q : Int) 3, true) := by
  have ok := okP_parts (((goodPs_iff xs).1 g).2 q hq).1
  unfold useM
  rw [given_id g hq, if_pos]
  refine ⟨g, by omega, ?_⟩
  unfold rd_T26 useOk
  rw [Int.toNat_natCast, hs, decide_eq_true (show _ ∧ _ from ⟨ok.2.1.1, Int.le_refl _⟩), decide_eq_true (show _ ∧ _ from ⟨ok.2.2.1, Int.le_refl _⟩)]
  rfl
theorem given_lapse {xs : List S26} (g : goodPs xs = true) {q : Nat} (hq : q < xs.length) (hs : (xs.getD q z26).f5 = 1) (hl : (xs.getD q z26).f3 < 999) :
    ∃ m, (lapM (setP xs (q : Int) 3) ((xs.getD q z26).f3 + 1)).2 = (m, true) ∧ 1 ≤ m ∧ (lapM (setP xs (q : Int) 3) ((xs.getD q z26).f3 + 1)).1.length = xs.length ∧ ((lapM (setP xs (q : Int) 3) ((xs.getD q z26).f3 + 1)).1.getD q z26).f5 = 4 ∧ allowedM (lapM (setP xs (q : Int) 3) ((xs.getD q z26).f3 + 1)).1 (xs.getD q z26).f1 (xs.getD q z26).f2 = (0, false) := by
  have ok := okP_parts (((goodPs_iff xs).1 g).2 q hq).1
  have hh : holdsP (xs.getD q z26).f5 = true := by rw [hs]; decide
  have hrq : rd_T26 xs (q : Int) = xs.getD q z26 := by unfold rd_T26; rw [Int.toNat_natCast]
  have g3 : goodPs (setP xs (q : Int) 3) = true := goodPs_set xs q 3 g (by omega) (by omega) (by rw [hrq, hh]; decide) (by decide)
  have hz := setP_getD xs q 3 hq q
  rw [if_pos rfl] at hz
  have hd : 0 ≤ (xs.getD q z26).f3 + 1 ∧ (xs.getD q z26).f3 + 1 ≤ 999 := by omega
  have hlp : lapM (setP xs (q : Int) 3) ((xs.getD q z26).f3 + 1) = ((lapL ((xs.getD q z26).f3 + 1) xs.length 0 (setP xs (q : Int) 3) 0).1, (lapL ((xs.getD q z26).f3 + 1) xs.length 0 (setP xs (q : Int) 3) 0).2, true) := by
    unfold lapM
    rw [if_pos g3, if_pos hd, setP_len]
  have hG := lapL_getD ((xs.getD q z26).f3 + 1) xs.length 0 (setP xs (q : Int) 3) 0 (by rw [setP_len]; omega)
  have hN := lapL_one ((xs.getD q z26).f3 + 1) q xs.length 0 (setP xs (q : Int) 3) 0 (by rw [setP_len]; omega) (by omega) (by rw [setP_len]; exact hq) (by rw [hz]; rfl) (by rw [hz]; show (xs.getD q z26).f3 < _; omega)
  have hL := lapL_len ((xs.getD q z26).f3 + 1) xs.length 0 (setP xs (q : Int) 3) 0
  rw [setP_len] at hL
  rw [hlp]
  generalize lapL ((xs.getD q z26).f3 + 1) xs.length 0 (setP xs (q : Int) 3) 0 = L at hG hN hL
  have h4 : L.1.getD q z26 = setSt (setSt (xs.getD q z26) 3) 4 := by
    rw [hG q, hz, setP_len, if_pos]
    exact ⟨Nat.zero_le _, hq, rfl, by show (xs.getD q z26).f3 < _; omega⟩
  refine ⟨L.2, rfl, by omega, hL, by rw [h4]; rfl, ?_⟩
  have hi : idxP26 (onDay (xs.getD q z26).f1 (xs.getD q z26).f2) L.1 0 = -1 := by
    refine idxQ_not _ _ fun j hj => ?_
    by_cases e : j = q
    · subst e
      rw [h4]
      unfold onDay setSt
      rfl
    · rw [hG j, setP_len]
      have hx := setP_getD xs q 3 hq j
      rw [if_neg e] at hx
      rw [hx]
      split
      · unfold onDay setSt
        rfl
      · cases c : onDay (xs.getD q z26).f1 (xs.getD q z26).f2 (xs.getD j z26) with
        | false => rfl
        | true =>
          have := conf_of _ _ hh _ (Int.le_refl _) ok.2.1.1 c
          rw [no_conf g j q (by omega) hq e] at this
          cases this
  unfold allowedM
  by_cases gg : goodPs L.1 = true
  · rw [if_pos gg, if_pos ⟨ok.1.1, ok.1.2⟩, hi, if_pos (by decide)]
  · rw [if_neg gg]

theorem byts_of {l : List Int} (h : ∀ x ∈ l, (Lit.int .u8 x).wf = true) : Byts l := by
  intro x hx
  have h1 := h x hx
  simp [Lit.wf, IntKind.min, IntKind.max, IntKind.signed, IntKind.bits] at h1
  omega

theorem useM_len (xs : List S26) (n d p : Int) : (useM xs n d p).1.length ≤ xs.length := by
  unfold useM
  split
  · rw [setP_len]; exact Nat.le_refl _
  · exact Nat.zero_le _
theorem decM_len (xs : List S26) (n : Int) (g : Bool) : (decM xs n g).1.length ≤ 10 := by
  unfold decM
  split
  · exact withM_len ..
  · exact Nat.zero_le _
theorem FnPermits : ∀ l0, l0.length ≤ maxLen → (∀ x ∈ l0, (Lit.int .u8 x).wf = true) → ∃ k, laws_FnPermits.f k l0 = some true := by
  intro l hl hb
  apply Evn.get
  have hB : Byts l := byts_of hb
  have j5 : Evn (fun k => laws_FnPermits.j5 k l false) true := by
    refine Evn.step ?_
    simp only [laws_FnPermits.j5, Bool.false_eq_true, if_false]
    obtain ⟨t, ht, t1, t2⟩ := dw_DrawAllowedOn hB
    refine Evn.bind ht (Evn.bind (im_AllowedOn t.1 (by omega) t.2.1 t.2.2) (Evn.bind (sp_AllowedOn t.1 (by omega) (okW_big t2) t.2.1 t.2.2) ?_))
    simp only [if_true, beq_self_eq_true]
    exact Evn.done _
  have j4 : Evn (fun k => laws_FnPermits.j4 k l false) true := by
    refine Evn.step ?_
    simp only [laws_FnPermits.j4, Bool.false_eq_true, if_false]
    obtain ⟨t, ht, t1, t2⟩ := dw_DrawLapsePermits hB
    refine Evn.bind ht (Evn.bind (im_LapsePermits t.1 (by omega) t.2) (Evn.bind (sp_LapsePermits t.1 (by omega) (okW_big t2) t.2) ?_))
    simp only [bne_self_eq_false, Bool.false_eq_true, if_false, if_true]
    refine Evn.bind (ev_rPermits _ (by have := lapM_len t.1 t.2; omega)) ?_
    simp only [Bool.not_true]
    exact j5
  have j2 : ∀ (n : Int) (g : Bool) (O : List S26) (ok : Bool) (i : Int), Evn (fun k => laws_FnPermits.j2 k l n g O ok i false) true := by
    intro n g O ok i
    refine Evn.step ?_
    simp only [laws_FnPermits.j2, Bool.false_eq_true, if_false]
    obtain ⟨t, ht, t1, t2⟩ := dw_DrawUsePermit hB
    refine Evn.bind ht (Evn.bind (im_UsePermit t.1 (by omega) t.2.1 t.2.2.1 t.2.2.2) (Evn.bind (sp_UsePermit t.1 (by omega) (okW_big t2) t.2.1 t.2.2.1 t.2.2.2) ?_))
    simp only [bne_self_eq_false, Bool.false_eq_true, if_false]
    refine Evn.bind (ev_rPermits _ (by have := useM_len t.1 t.2.1 t.2.2.1 t.2.2.2; omega)) ?_
    simp only [if_true]
    refine Evn.bind (im_ArePermits t.1 (by omega)) (Evn.bind (sp_ArePermits t.1 (by omega) (okW_big t2)) ?_)
    simp only [bne_self_eq_false]
    exact j4
  have run : ∀ (O : List S26) (n : Int) (q : Nat), q < O.length → goodPs O = true → (O.getD q z26).f0 = n → (O.getD q z26).f5 = 1 → ∀ (D i : Nat), i + D = O.length → Evn (fun k => laws_FnPermits.l0 k l n true O true (i : Int)) true := by
    intro O n q hq g h0 h5 D
    have hO := goodPs_len g
    induction D with
    | zero =>
      intro i h
      refine Evn.step ?_
      have h1 : ¬ (i : Int) < (O.length : Int) := by omega
      simp only [laws_FnPermits.l0, if_neg h1]
      exact j2 _ _ _ _ _
    | succ D ih =>
      intro i h
      have h1 : (i : Int) < (O.length : Int) := by omega
      have h2 : 0 ≤ (i : Int) := by omega
      have hw : wrap64 ((i : Int) + 1) = ((i + 1 : Nat) : Int) := wrap_succ (by omega)
      have next := ih (i + 1) (by omega)
      have hr : rd_T26 O (i : Int) = O.getD i z26 := by unfold rd_T26; rw [Int.toNat_natCast]
      refine Evn.step ?_
      simp only [laws_FnPermits.l0, if_pos h1, if_true]
      refine Evn.step ?_
      simp only [laws_FnPermits.j2, if_true, if_pos h2, if_pos h1, hw, hr]
      by_cases c : (O.getD i z26).f0 = n
      · simp only [if_pos c]
        obtain rfl : i = q := ids_inj g i q (by omega) hq (c.trans h0.symm)
        obtain rfl := c
        have hs : holdsP (O.getD i z26).f5 = true := by rw [h5]; decide
        have ha := im_AllowedOn O (by omega) (O.getD i z26).f1 (O.getD i z26).f2
        rw [given_allowed g hq hs] at ha
        have hu := im_UsePermit O (by omega) (O.getD i z26).f0 (O.getD i z26).f3 (O.getD i z26).f4
        rw [given_use g hq hs] at hu
        refine Evn.bind ha (Evn.bind hu ?_)
        have hl3 : ((setP O (i : Int) 3).length : Int) = (O.length : Int) := by rw [setP_len]
        have hi3 : (i : Int) < ((setP O (i : Int) 3).length : Int) := by rw [setP_len]; exact h1
        have hf3 : (rd_T26 (setP O (i : Int) 3) (i : Int)).f5 = 3 := by unfold rd_T26; rw [Int.toNat_natCast, setP_getD O i 3 hq i, if_pos rfl]; rfl
        simp only [if_true, if_pos hl3, if_pos hi3, hf3, bne_self_eq_false]
        refine Evn.step ?_
        simp only [laws_FnPermits.j3, Bool.false_eq_true, if_false, hw]
        refine Evn.ite (fun c9 => ?_) (fun _ => next)
        obtain ⟨m, l1, l2, l3, l4, l5⟩ := given_lapse g hq h5 c9
        have ok := okP_parts (((goodPs_iff O).1 g).2 i hq).1
        have hw3 : wrap64 ((O.getD i z26).f3 + 1) = (O.getD i z26).f3 + 1 := wrap_id (by omega) (by omega)
        rw [hw3]
        have hL := im_LapsePermits (setP O (i : Int) 3) (by rw [setP_len]; omega) ((O.getD i z26).f3 + 1)
        generalize lapM (setP O (i : Int) 3) ((O.getD i z26).f3 + 1) = G at l1 l3 l4 l5 hL
        obtain ⟨G1, G2⟩ := G
        dsimp only at l1 l3 l4 l5
        subst l1
        have hA := im_AllowedOn G1 (by omega) (O.getD i z26).f1 (O.getD i z26).f2
        rw [l5] at hA
        refine Evn.bind hL (Evn.bind hA ?_)
        have hm : ¬ m < 1 := by omega
        have e1 : (G1.length : Int) = (O.length : Int) := by omega
        have e2 : (i : Int) < (G1.length : Int) := by omega
        have e3 : (rd_T26 G1 (i : Int)).f5 = 4 := by unfold rd_T26; rw [Int.toNat_natCast]; exact l4
        simp only [if_true, if_neg hm, Bool.false_eq_true, if_false, if_pos e1, if_pos h2, if_pos e2, if_pos e3]
        exact next
      · simp only [if_neg c]
        exact next
  unfold laws_FnPermits.f laws_rBig.f
  simp only [Option.bind_some]
  refine Evn.ite (fun _ => Evn.done _) (fun _ => ?_)
  obtain ⟨t, ht, t1, t2⟩ := dw_DrawDecidePermit hB
  refine Evn.bind ht ?_
  obtain ⟨L, n, g⟩ := t
  dsimp only at t1 t2 ⊢
  have hd := decM_len L n g
  refine Evn.bind (im_DecidePermit L (by omega) n g) (Evn.bind (sp_DecidePermit L (by omega) (okW_big t2) n g) ?_)
  simp only [bne_self_eq_false, Bool.false_eq_true, if_false]
  refine Evn.bind (ev_rPermits _ (by omega)) ?_
  simp only [Bool.not_true]
  refine Evn.step ?_
  simp only [laws_FnPermits.j0, Bool.false_eq_true, if_false]
  cases hok : (decM L n g).2 with
  | false =>
    refine Evn.step ?_
    simp only [laws_FnPermits.l0, Bool.false_eq_true, if_false, ite_self]
    exact j2 _ _ _ _ _
  | true =>
    cases g with
    | false =>
      refine Evn.step ?_
      simp only [laws_FnPermits.l0, if_true, ite_self]
      exact j2 _ _ _ _ _
    | true =>
      obtain ⟨q, q1, q2, q3, q4⟩ := given hok
      exact run (decM L n true).1 n q q1 q2 q3 q4 (decM L n true).1.length 0 (by omega)

end Go.Proofs.YtgeioccfjgpijaaDoor.Pure
