/- The plain statement of FnPermitDays: its plain function returns true at every input. No condition beyond the arguments' own bounds. -/
import Derived.Test.YtgeioccfjgpijaaDoorQFnPermitDaysx11
import Derived.Test.YtgeioccfjgpijaaDoorVDAid
namespace Go.Proofs.YtgeioccfjgpijaaDoor.Pure
open Go.RowKit Go.Proofs.YtgeioccfjgpijaaDoorW.PrintWords Go.Proofs.YtgeioccfjgpijaaDoorW.PrintLast Go.Proofs.YtgeioccfjgpijaaDoor.Aid Go.Proofs.YtgeioccfjgpijaaDoor.QFnPermitDays
set_option linter.unusedVariables false
set_option linter.unusedSimpArgs false

theorem sp_l1In (x y z : Int) : spec_l1In.f x y z = some (decide (y ≤ x ∧ x ≤ z)) := by
  unfold spec_l1In.f
  by_cases h : x ≥ y <;> simp [h] <;> omega

/-! A permit's rules. -/
def wordB (s : ByteArray) : Bool := decide (1 ≤ s.size) && (decide (s.size ≤ 10) && s.data.toList.all (fun b => decide (97 ≤ b.toNat ∧ b.toNat ≤ 122)))
def goodP (a : Int) (b : ByteArray) (c d e f : Int) : Bool := decide (1 ≤ a ∧ a ≤ 99) && (wordB b && (decide (0 ≤ c ∧ c ≤ 999) && (decide (c ≤ d ∧ d ≤ 999) && (decide (1 ≤ e ∧ e ≤ 12) && decide (0 ≤ f ∧ f ≤ 4)))))
theorem ite_if (b c : Bool) : (if b = true then some c else some false) = some (b && c) := by cases b <;> rfl

theorem bt_at (s : ByteArray) (i : Nat) (h : i < s.data.toList.length) : bt s (i : Int) = ((s.data.toList[i]).toNat : Int) := by
  have h2 : i < s.size := by simpa using h
  unfold bt
  rw [Int.toNat_natCast, dif_pos h2]
  rfl
theorem sp_l2Word_l0 (s : ByteArray) (hs : s.size ≤ 1152921504606846976) : ∀ (d i : Nat), i + d = s.size → Evn (fun k => spec_l2Word.l0 k s (i : Int)) ((s.data.toList.drop i).all (fun b => decide (97 ≤ b.toNat ∧ b.toNat ≤ 122)) && decide (1 ≤ (s.size : Int) ∧ (s.size : Int) ≤ 10)) := by
  have hl : s.data.toList.length = s.size := by simp
  intro d
  induction d with
  | zero =>
    intro i h
    refine Evn.step ?_
    have h1 : ¬ (i : Int) < (s.size : Int) := by omega
    simp only [spec_l2Word.l0, if_neg h1, sp_l1In, Option.bind_some]
    rw [List.drop_eq_nil_of_le (by omega)]
    exact Evn.done _
  | succ d ih =>
    intro i h
    refine Evn.step ?_
    have h1 : (i : Int) < (s.size : Int) := by omega
    have h2 : 0 ≤ (i : Int) := by omega
    have hb := bt_at s i (by omega)
    simp only [spec_l2Word.l0, if_pos h1, if_pos h2, hb, wrap_succ (show i < 4611686018427387904 by omega)]
    rw [List.drop_eq_getElem_cons (by omega), List.all_cons]
    generalize s.data.toList[i] = x
    refine Evn.ite (fun h3 => ?_) (fun h3 => Evn.ite (fun h4 => ?_) (fun h4 => ?_))
    · rw [show decide (97 ≤ x.toNat ∧ x.toNat ≤ 122) = false from decide_eq_false (by omega)]
      exact Evn.done _
    · rw [show decide (97 ≤ x.toNat ∧ x.toNat ≤ 122) = false from decide_eq_false (by omega)]
      exact Evn.done _
    · rw [show decide (97 ≤ x.toNat ∧ x.toNat ≤ 122) = true from decide_eq_true (by omega), Bool.true_and]
      exact ih (i + 1) (by omega)
theorem sp_l2Word (s : ByteArray) (hs : s.size ≤ 1152921504606846976) : Evn (fun k => spec_l2Word.f k s) (wordB s) := by
  refine (sp_l2Word_l0 s hs s.size 0 (by omega)).eq_ ?_
  unfold wordB
  rw [List.drop_zero]
  generalize s.data.toList.all _ = t
  by_cases h1 : 1 ≤ s.size <;> by_cases h2 : s.size ≤ 10 <;> cases t <;> simp [h1, h2] <;> omega

theorem sp_l22Day (a : Int) : spec_l22Day.f a = some (decide (0 ≤ a ∧ a ≤ 999)) := by simp only [spec_l22Day.f, sp_l1In, Option.bind_some]
theorem sp_l22One (a : Int) (b : ByteArray) (c d e f : Int) (hb : b.size ≤ 1152921504606846976) : Evn (fun k => spec_l22One.f k a b c d e f) (goodP a b c d e f) := by
  unfold spec_l22One.f goodP
  simp only [sp_l22Day, sp_l1In, Option.bind_some, ite_if]
  by_cases h : 1 ≤ a ∧ a ≤ 99
  · simp only [decide_eq_true h, if_true, Bool.true_and]
    refine Evn.bind (sp_l2Word b hb) ?_
    exact Evn.done _
  · simp only [decide_eq_false h, Bool.false_and, Bool.false_eq_true, if_false]
    exact Evn.done _

theorem sp_IsPermit (a : Int) (b : ByteArray) (c d e f : Int) (hb : b.size ≤ 1152921504606846976) : Evn (fun k => spec_IsPermit.f k a b c d e f) (goodP a b c d e f) := by
  unfold spec_IsPermit.f
  exact Evn.bind (sp_l22One a b c d e f hb) (Evn.done _)

/-! A list of permits' rules. -/
def okP (x : S26) : Bool := goodP x.f0 x.f1 x.f2 x.f3 x.f4 x.f5
def holdsP (s : Int) : Bool := s == 1 || s == 3
def confP (a b : S26) : Bool := (holdsP a.f5 && holdsP b.f5) && (decide (a.f1.toList = b.f1.toList) && (decide (a.f2 ≤ b.f3) && decide (b.f2 ≤ a.f3)))
theorem confP_comm (a b : S26) : confP a b = confP b a := by
  unfold confP
  rw [Bool.and_comm (holdsP a.f5), show decide (a.f1.toList = b.f1.toList) = decide (b.f1.toList = a.f1.toList) from decide_eq_decide.2 eq_comm, Bool.and_comm (decide (a.f2 ≤ b.f3))]
def goodPl (xs : List S26) : Nat → Nat → Bool
  | 0, _ => decide ((xs.length : Int) ≤ 10)
  | d + 1, i => okP (xs.getD i z26) && ((decide (i = 0) || decide ((xs.getD (i - 1) z26).f0 < (xs.getD i z26).f0)) && (!((xs.take i).any fun y => confP y (xs.getD i z26)) && goodPl xs d (i + 1)))
def goodPs (xs : List S26) : Bool := goodPl xs xs.length 0
theorem getD_all {α : Type} (p : α → Prop) (xs : List α) (i : Nat) (z : α) (h : i < xs.length) (hp : ∀ x ∈ xs, p x) : p (xs.getD i z) := by
  rw [List.getD_eq_getElem?_getD, List.getElem?_eq_getElem h]
  exact hp _ (List.getElem_mem h)

theorem sp_l22Holds (a : Int) (b : ByteArray) (c d e f : Int) : spec_l22Holds.f a b c d e f = some (holdsP f) := by
  unfold spec_l22Holds.f holdsP
  by_cases h : f = 1 <;> simp [h]
theorem sp_l22Conflict (a b : S26) : spec_l22Conflict.f a.f0 a.f1 a.f2 a.f3 a.f4 a.f5 b.f0 b.f1 b.f2 b.f3 b.f4 b.f5 = some (confP a b) := by
  unfold spec_l22Conflict.f confP
  simp only [sp_l22Holds, Option.bind_some]
  by_cases h1 : a.f1.toList = b.f1.toList <;> by_cases h2 : a.f2 ≤ b.f3 <;> by_cases h3 : b.f2 ≤ a.f3 <;> cases holdsP a.f5 <;> cases holdsP b.f5 <;> simp [h1, h2, h3]
theorem sp_l22Good_l1 (xs : List S26) (hx : xs.length ≤ 4194304) (i : Nat) (hi : i < xs.length) (R : Bool) (hR : Evn (fun k => spec_l22Good.l0 k xs ((i + 1 : Nat) : Int)) R) : ∀ (d m : Nat), m + d = i → Evn (fun k => spec_l22Good.l1 k xs (i : Int) (m : Int)) (!(((xs.take i).drop m).any fun y => confP y (xs.getD i z26)) && R) := by
  intro d
  induction d with
  | zero =>
    intro m h
    refine Evn.step ?_
    have h1 : ¬ (m : Int) < (i : Int) := by omega
    simp only [spec_l22Good.l1, if_neg h1, wrap_succ (show i < 4611686018427387904 by omega)]
    rw [List.drop_eq_nil_of_le (by rw [List.length_take]; omega)]
    exact hR
  | succ d ih =>
    intro m h
    refine Evn.step ?_
    have h1 : (m : Int) < (i : Int) := by omega
    have h2 : 0 ≤ (m : Int) := by omega
    have h3 : (m : Int) < (xs.length : Int) := by omega
    have h4 : 0 ≤ (i : Int) := by omega
    have h5 : (i : Int) < (xs.length : Int) := by omega
    simp only [spec_l22Good.l1, if_pos h1, if_pos h2, if_pos h3, if_pos h4, if_pos h5, sp_l22Conflict, Option.bind_some, wrap_succ (show m < 4611686018427387904 by omega), rd_T26, Int.toNat_natCast]
    rw [getD_drop (xs.take i) m z26 (by rw [List.length_take]; omega), List.any_cons]
    have e : (xs.take i).getD m z26 = xs.getD m z26 := by
      rw [List.getD_eq_getElem?_getD, List.getD_eq_getElem?_getD, List.getElem?_take_of_lt (by omega)]
    rw [e]
    exact Evn.ite (fun c => (Evn.done _).eq_ (by rw [c]; simp)) (fun c => (ih (m + 1) (by omega)).eq_ (by rw [Bool.eq_false_iff.mpr c]; simp))
theorem sp_l22Good_l0 (xs : List S26) (hx : xs.length ≤ 4194304) (hw : ∀ x ∈ xs, x.f1.size ≤ 1152921504606846976) : ∀ (d i : Nat), i + d = xs.length → Evn (fun k => spec_l22Good.l0 k xs (i : Int)) (goodPl xs d i) := by
  intro d
  induction d with
  | zero =>
    intro i h
    refine Evn.step ?_
    have h1 : ¬ (i : Int) < (xs.length : Int) := by omega
    simp only [spec_l22Good.l0, if_neg h1, goodPl]
    exact Evn.done _
  | succ d ih =>
    intro i h
    refine Evn.step ?_
    have h1 : (i : Int) < (xs.length : Int) := by omega
    have h2 : 0 ≤ (i : Int) := by omega
    have hin := sp_l22Good_l1 xs hx i (by omega) _ (ih (i + 1) (by omega)) i 0 (by omega)
    rw [List.drop_zero] at hin
    have hb := getD_all (fun x => x.f1.size ≤ 1152921504606846976) xs i z26 (by omega) hw
    simp only [spec_l22Good.l0, if_pos h1, if_pos h2, rd_T26, Int.toNat_natCast, goodPl]
    refine Evn.bind (sp_l22One _ _ _ _ _ _ hb) ?_
    change Evn _ (okP (xs.getD i z26) && _)
    refine Evn.ite (fun c1 => ?_) (fun c1 => ?_)
    · rw [show okP (xs.getD i z26) = true from c1, Bool.true_and]
      rcases Nat.eq_zero_or_pos i with h0 | h0
      · subst h0
        have h3 : ¬ ((0 : Nat) : Int) > 0 := by omega
        simp only [if_neg h3, decide_true, Bool.true_or, Bool.true_and]
        refine Evn.step ?_
        simp only [spec_l22Good.j1, Bool.false_eq_true, if_false]
        exact hin
      · obtain ⟨j, rfl⟩ : ∃ j, i = j + 1 := ⟨i - 1, by omega⟩
        have h3 : ((j + 1 : Nat) : Int) > 0 := by omega
        have h4 : 0 ≤ (j : Int) := by omega
        have h5 : (j : Int) < (xs.length : Int) := by omega
        simp only [if_pos h3, wrap_pred (show j < 4611686018427387904 by omega), if_pos h4, if_pos h5, Int.toNat_natCast, Nat.add_sub_cancel]
        refine Evn.step ?_
        simp only [spec_l22Good.j1]
        refine Evn.ite (fun c3 => (Evn.done _).eq_ ?_) (fun c3 => hin.eq_ ?_)
        · have e1 : decide ((xs.getD j z26).f0 < (xs.getD (j + 1) z26).f0) = false := decide_eq_false (by have := of_decide_eq_true c3; omega)
          simp only [e1, show decide (j + 1 = 0) = false from by simp, Bool.or_false, Bool.false_and]
        · have e1 : decide ((xs.getD j z26).f0 < (xs.getD (j + 1) z26).f0) = true := decide_eq_true (by have : ¬ _ := fun h => c3 (decide_eq_true h); omega)
          simp only [e1, Bool.or_true, Bool.true_and]
    · rw [show okP (xs.getD i z26) = false from Bool.eq_false_iff.2 c1, Bool.false_and]
      refine Evn.step ?_
      simp only [spec_l22Good.j1, if_true]
      exact Evn.done _
theorem sp_l22Good (xs : List S26) (hx : xs.length ≤ 4194304) (hw : ∀ x ∈ xs, x.f1.size ≤ 1152921504606846976) : Evn (fun k => spec_l22Good.f k xs) (goodPs xs) := sp_l22Good_l0 xs hx hw xs.length 0 (by omega)

theorem idxQ_range (p : S26 → Bool) : ∀ (l : List S26) (i : Int), 0 ≤ i → idxP26 p l i = -1 ∨ (i ≤ idxP26 p l i ∧ idxP26 p l i < i + l.length) := by
  intro l
  induction l with
  | nil => intro i _; exact Or.inl rfl
  | cons x l ih =>
    intro i h
    rw [idxP26, List.length_cons]
    by_cases c : p x = true
    · rw [if_pos c]; right; omega
    · rw [if_neg c]
      rcases ih (i + 1) (by omega) with e | e
      · exact Or.inl e
      · right; omega

/-! The first permit for a cave on a day. -/
theorem idxQ_none (p : S26 → Bool) : ∀ (l : List S26) (i : Int), (∀ x ∈ l, p x = false) → idxP26 p l i = -1 := by
  intro l
  induction l with
  | nil => intro i _; rfl
  | cons x l ih =>
    intro i h
    rw [idxP26, if_neg (by rw [h x (List.mem_cons_self ..)]; decide)]
    exact ih (i + 1) fun y hy => h y (List.mem_cons_of_mem _ hy)
theorem goodPl_all (xs : List S26) : ∀ (d i : Nat), i + d = xs.length → goodPl xs d i = true → ∀ j, i ≤ j → j < xs.length → okP (xs.getD j z26) = true := by
  intro d
  induction d with
  | zero => intro i h _ j h1 h2; omega
  | succ d ih =>
    intro i h hg j h1 h2
    rw [goodPl, Bool.and_eq_true, Bool.and_eq_true, Bool.and_eq_true] at hg
    obtain ⟨g1, g2, g3, g4⟩ := hg
    rcases Nat.eq_or_lt_of_le h1 with e | e
    · subst e; exact g1
    · exact ih (i + 1) (by omega) g4 j (by omega) h2
theorem goodPs_all (xs : List S26) (h : goodPs xs = true) : ∀ x ∈ xs, okP x = true := by
  intro x hx
  obtain ⟨n, hn, he⟩ := List.mem_iff_getElem.1 hx
  have := goodPl_all xs xs.length 0 (by omega) h n (by omega) hn
  rwa [List.getD_eq_getElem?_getD, List.getElem?_eq_getElem hn, Option.getD_some, he] at this
theorem wordB_of_okP {x : S26} (h : okP x = true) : wordB x.f1 = true := by
  unfold okP goodP at h
  rw [Bool.and_eq_true, Bool.and_eq_true] at h
  exact h.2.1
theorem wordB_same {a b : ByteArray} (h : a.toList = b.toList) : wordB a = wordB b := by
  rw [Lib.toList_data, Lib.toList_data] at h
  have hs : a.size = b.size := by
    have := congrArg List.length h
    simpa using this
  unfold wordB
  rw [h, hs]
theorem noWord_none (xs : List S26) (q : ByteArray) (n : Int) (h : goodPs xs = true) (hw : ¬ wordB q = true) : idxP26 (onDay q n) xs 0 = -1 := by
  refine idxQ_none _ _ _ fun x hx => ?_
  have h1 := wordB_of_okP (goodPs_all xs h x hx)
  cases hc : onDay q n x with
  | false => rfl
  | true =>
    unfold onDay at hc
    rw [Bool.and_eq_true, Bool.and_eq_true] at hc
    have := wordB_same (of_decide_eq_true hc.2.1)
    rw [this] at h1
    exact absurd h1 hw

theorem sp_l22On_l0 (xs : List S26) (hx : xs.length ≤ 4194304) (q : ByteArray) (n : Int) : ∀ (d i : Nat), i + d = xs.length → Evn (fun k => spec_l22On.l0 k xs q n (i : Int)) (idxP26 (onDay q n) (xs.drop i) i) := by
  intro d
  induction d with
  | zero =>
    intro i h
    refine Evn.step ?_
    have h1 : ¬ (i : Int) < (xs.length : Int) := by omega
    simp only [spec_l22On.l0, if_neg h1]
    rw [List.drop_eq_nil_of_le (by omega)]
    exact Evn.done _
  | succ d ih =>
    intro i h
    refine Evn.step ?_
    have h1 : (i : Int) < (xs.length : Int) := by omega
    have h2 : 0 ≤ (i : Int) := by omega
    have hih := ih (i + 1) (by omega)
    simp only [spec_l22On.l0, if_pos h1, if_pos h2, sp_l22Holds, sp_l1In, Option.bind_some, wrap_succ (show i < 4611686018427387904 by omega), rd_T26, Int.toNat_natCast]
    rw [getD_drop xs i z26 (by omega), idxP26]
    generalize xs.getD i z26 = x
    have e : onDay q n x = (holdsP x.f5 && (decide (x.f1.toList = q.toList) && decide (x.f2 ≤ n ∧ n ≤ x.f3))) := rfl
    rw [e]
    have hih' : Evn (fun k => spec_l22On.l0 k xs q n ((i + 1 : Nat) : Int)) (idxP26 (onDay q n) (xs.drop (i + 1)) ((i : Int) + 1)) := hih
    refine Evn.ite (fun c1 => ?_) (fun c1 => hih'.eq_ (by rw [Bool.eq_false_iff.mpr c1]; rfl))
    rw [c1, Bool.true_and]
    refine Evn.ite (fun c2 => ?_) (fun c2 => hih'.eq_ (by rw [decide_eq_false c2]; rfl))
    rw [decide_eq_true c2, Bool.true_and]
    exact Evn.ite (fun c3 => (Evn.done _).eq_ (by rw [c3]; rfl)) (fun c3 => hih'.eq_ (by rw [Bool.eq_false_iff.mpr c3]; rfl))
theorem sp_l22On (xs : List S26) (hx : xs.length ≤ 4194304) (q : ByteArray) (n : Int) : Evn (fun k => spec_l22On.f k xs q n) (idxP26 (onDay q n) xs 0) := sp_l22On_l0 xs hx q n xs.length 0 (by omega)

/-! Spans of free days, the last one first. -/
def freeD (xs : List S26) (q : ByteArray) (x : Int) : Bool := decide (idxP26 (onDay q x) xs 0 < 0)
def toL (p : Int × Int) : List Int := [p.1, p.2]
def stepR (x : Int) : List (Int × Int) → List (Int × Int)
  | p :: t => if p.2 = x - 1 then (p.1, x) :: t else (x, x) :: p :: t
  | [] => [(x, x)]
def spR (fr : Int → Bool) : Nat → Int → List (Int × Int) → List (Int × Int)
  | 0, _, rs => rs
  | d + 1, x, rs => spR fr d (x + 1) (if fr x = true then stepR x rs else rs)
def outR (rs : List (Int × Int)) : List (List Int) := (rs.map toL).reverse
theorem outR_cons (p : Int × Int) (t : List (Int × Int)) : outR (p :: t) = outR t ++ [toL p] := by unfold outR; rw [List.map_cons, List.reverse_cons]
theorem outR_len (rs : List (Int × Int)) : (outR rs).length = rs.length := by unfold outR; rw [List.length_reverse, List.length_map]
theorem outR_last (p : Int × Int) (t : List (Int × Int)) : rd_L5 (outR (p :: t)) (t.length : Int) = toL p := by
  rw [outR_cons]
  unfold rd_L5
  rw [Int.toNat_natCast, List.getD_eq_getElem?_getD, List.getElem?_append_right (by rw [outR_len]; omega), outR_len, Nat.sub_self]
  rfl
theorem outR_set (p : Int × Int) (t : List (Int × Int)) (l : List Int) : (outR (p :: t)).set t.length l = outR t ++ [l] := by
  rw [outR_cons, List.set_append_right _ _ (by rw [outR_len]; omega), outR_len, Nat.sub_self]
  rfl
def bdP (p : Int × Int) : Prop := 0 ≤ p.1 ∧ p.1 ≤ p.2 ∧ p.2 ≤ 999
theorem stepR_bd (x : Int) (h0 : 0 ≤ x) (h1 : x ≤ 999) (rs : List (Int × Int)) (h : ∀ p ∈ rs, bdP p) : ∀ p ∈ stepR x rs, bdP p := by
  cases rs with
  | nil => intro p hp; rw [List.mem_singleton.1 hp]; exact ⟨h0, Int.le_refl _, h1⟩
  | cons p0 t =>
    intro p hp
    rw [stepR] at hp
    split at hp
    · rename_i c
      rcases List.mem_cons.1 hp with rfl | hp
      · have := h p0 (List.mem_cons_self ..); exact ⟨this.1, by have := this.2.1; show p0.1 ≤ x; omega, h1⟩
      · exact h p (List.mem_cons_of_mem _ hp)
    · rcases List.mem_cons.1 hp with rfl | hp
      · exact ⟨h0, Int.le_refl _, h1⟩
      · exact h p hp
theorem spR_bd (fr : Int → Bool) : ∀ (d : Nat) (x : Int) (rs : List (Int × Int)), 0 ≤ x → x + d ≤ 1000 → (∀ p ∈ rs, bdP p) → ∀ p ∈ spR fr d x rs, bdP p := by
  intro d
  induction d with
  | zero => intro x rs _ _ h; exact h
  | succ d ih =>
    intro x rs h0 h1 h
    refine ih (x + 1) _ (by omega) (by omega) ?_
    split
    · exact stepR_bd x h0 (by omega) rs h
    · exact h
theorem stepR_len (x : Int) (rs : List (Int × Int)) : (stepR x rs).length ≤ rs.length + 1 := by
  cases rs with
  | nil => simp [stepR]
  | cons p t =>
    rw [stepR]
    split <;> simp
theorem spR_len (fr : Int → Bool) : ∀ (d : Nat) (x : Int) (rs : List (Int × Int)), (spR fr d x rs).length ≤ rs.length + d := by
  intro d
  induction d with
  | zero => intro x rs; exact Nat.le_refl _
  | succ d ih =>
    intro x rs
    rw [spR]
    have h1 := ih (x + 1) (if fr x = true then stepR x rs else rs)
    have h2 : (if fr x = true then stepR x rs else rs).length ≤ rs.length + 1 := by
      split
      · exact stepR_len x rs
      · omega
    omega

def slotR (fr : Int → Bool) (days : Int) : Nat → Int → Int → Int × Bool
  | 0, _, _ => (0, false)
  | d + 1, x, r => if fr x = true then (if r + 1 = days then (x - days + 1, true) else slotR fr days d (x + 1) (r + 1)) else (if 0 = days then (x - days + 1, true) else slotR fr days d (x + 1) 0)
def slotM (xs : List S26) (q : ByteArray) (a days : Int) : Int × Bool := if goodPs xs = true ∧ wordB q = true ∧ (0 ≤ a ∧ a ≤ 999) ∧ (1 ≤ days ∧ days ≤ 100) then slotR (freeD xs q) days (1000 - a).toNat a 0 else (0, false)
theorem sp_FirstSlot_l0 (xs : List S26) (hx : xs.length ≤ 4194304) (q : ByteArray) (days : Int) (hd : 1 ≤ days ∧ days ≤ 100) : ∀ (d : Nat) (x r : Int), x + d = 1000 → 0 ≤ x → 0 ≤ r → r + d ≤ 4000 → Evn (fun k => spec_FirstSlot.l0 k xs q days r x) (slotR (freeD xs q) days d x r) := by
  intro d
  induction d with
  | zero =>
    intro x r h h0 hr hr2
    refine Evn.step ?_
    simp only [spec_FirstSlot.l0, if_neg (show ¬ x ≤ 999 by omega)]
    exact Evn.done _
  | succ d ih =>
    intro x r h h0 hr hr2
    refine Evn.step ?_
    have hw1 : wrap64 (x + 1) = x + 1 := wrap_id (by omega) (by omega)
    have hw2 : wrap64 (r + 1) = r + 1 := wrap_id (by omega) (by omega)
    have hw3 : wrap64 (wrap64 (x - days) + 1) = x - days + 1 := by rw [wrap_id (x := x - days) (by omega) (by omega)]; exact wrap_id (by omega) (by omega)
    simp only [spec_FirstSlot.l0, if_pos (show x ≤ 999 by omega), hw1, hw2, hw3]
    rw [slotR]
    refine Evn.bind (sp_l22On xs hx q x) ?_
    have e : freeD xs q x = decide (idxP26 (onDay q x) xs 0 < 0) := rfl
    rw [e]
    refine Evn.ite (fun c => ?_) (fun c => ?_)
    · rw [if_neg (fun h => absurd (of_decide_eq_true h) (by omega))]
      exact Evn.ite (fun c2 => (Evn.done _).eq_ (by rw [if_pos c2])) (fun c2 => (ih (x + 1) 0 (by omega) (by omega) (by omega) (by omega)).eq_ (by rw [if_neg c2]))
    · rw [if_pos (decide_eq_true (by omega))]
      exact Evn.ite (fun c2 => (Evn.done _).eq_ (by rw [if_pos c2])) (fun c2 => (ih (x + 1) (r + 1) (by omega) (by omega) (by omega) (by omega)).eq_ (by rw [if_neg c2]))
theorem sp_FirstSlot (xs : List S26) (hx : xs.length ≤ 4194304) (hw : ∀ x ∈ xs, x.f1.size ≤ 1152921504606846976) (q : ByteArray) (hq : q.size ≤ 1152921504606846976) (a days : Int) : Evn (fun k => spec_FirstSlot.f k xs q a days) (slotM xs q a days) := by
  unfold spec_FirstSlot.f slotM
  have no : Evn (fun k => spec_FirstSlot.j0 k xs q a days true) (0, false) := by
    refine Evn.step ?_
    simp only [spec_FirstSlot.j0, if_true]
    exact Evn.done _
  refine Evn.bind (sp_l22Good xs hx hw) ?_
  refine Evn.ite (fun c1 => ?_) (fun c1 => no.eq_ (by rw [if_neg (fun h => c1 h.1)]))
  refine Evn.bind (sp_l2Word q hq) ?_
  refine Evn.ite (fun c2 => ?_) (fun c2 => no.eq_ (by rw [if_neg (fun h => c2 h.2.1)]))
  simp only [sp_l22Day, sp_l1In, Option.bind_some]
  refine Evn.ite (fun c3 => ?_) (fun c3 => no.eq_ (by rw [if_neg (fun h => c3 (decide_eq_true h.2.2.1))]))
  have g3 := of_decide_eq_true c3
  by_cases c4 : 1 ≤ days ∧ days ≤ 100
  · rw [if_pos ⟨c1, c2, g3, c4⟩, decide_eq_true c4]
    refine Evn.step ?_
    simp only [spec_FirstSlot.j0, Bool.not_true, Bool.false_eq_true, if_false]
    exact sp_FirstSlot_l0 xs hx q days c4 (1000 - a).toNat a 0 (by omega) g3.1 (by omega) (by omega)
  · rw [if_neg (fun h => c4 h.2.2.2), decide_eq_false c4]
    exact no

/-! A list with a permit in another state. -/
def setSt (x : S26) (s : Int) : S26 := ⟨x.f0, x.f1, x.f2, x.f3, x.f4, s⟩
def setP (xs : List S26) (i s : Int) : List S26 := xs.set i.toNat (setSt (rd_T26 xs i) s)
def withM (xs : List S26) (i s : Int) : List S26 × Bool := if goodPs (setP xs i s) = true then (setP xs i s, true) else ([], false)
theorem takeAny (xs : List S26) (p : S26 → Bool) (i : Nat) (hi : i ≤ xs.length) : (!((xs.take i).any p)) = true ↔ ∀ m, m < i → p (xs.getD m z26) = false := by
  rw [Bool.not_eq_true', ← Bool.not_eq_true, List.any_eq_true]
  constructor
  · intro h m hm
    cases hp : p (xs.getD m z26) with
    | false => rfl
    | true =>
      refine absurd ⟨xs.getD m z26, ?_, hp⟩ h
      rw [List.getD_eq_getElem?_getD, List.getElem?_eq_getElem (by omega), Option.getD_some]
      exact List.mem_take_iff_getElem.2 ⟨m, by omega, rfl⟩
  · rintro h ⟨x, hx, hp⟩
    obtain ⟨m, hm, rfl⟩ := List.mem_take_iff_getElem.1 hx
    have := h m (by omega)
    rw [List.getD_eq_getElem?_getD, List.getElem?_eq_getElem (by omega), Option.getD_some] at this
    rw [this] at hp
    cases hp
def atP (xs : List S26) (j : Nat) : Prop := okP (xs.getD j z26) = true ∧ (j = 0 ∨ (xs.getD (j - 1) z26).f0 < (xs.getD j z26).f0) ∧ ∀ m, m < j → confP (xs.getD m z26) (xs.getD j z26) = false
theorem goodPl_iff (xs : List S26) : ∀ (d i : Nat), i + d = xs.length → (goodPl xs d i = true ↔ xs.length ≤ 10 ∧ ∀ j, i ≤ j → j < xs.length → atP xs j) := by
  intro d
  induction d with
  | zero =>
    intro i h
    rw [goodPl, decide_eq_true_iff]
    exact ⟨fun h => ⟨by omega, fun j h1 h2 => by omega⟩, fun h => by omega⟩
  | succ d ih =>
    intro i h
    have e := ih (i + 1) (by omega)
    have t := takeAny xs (fun y => confP y (xs.getD i z26)) i (by omega)
    rw [goodPl, Bool.and_eq_true, Bool.and_eq_true, Bool.and_eq_true, e, t, Bool.or_eq_true, decide_eq_true_iff, decide_eq_true_iff]
    constructor
    · rintro ⟨g1, g2, g3, g4, g5⟩
      refine ⟨g4, fun j h1 h2 => ?_⟩
      rcases Nat.eq_or_lt_of_le h1 with e | e
      · subst e; exact ⟨g1, g2, g3⟩
      · exact g5 j (by omega) h2
    · rintro ⟨g4, g5⟩
      obtain ⟨g1, g2, g3⟩ := g5 i (Nat.le_refl _) (by omega)
      exact ⟨g1, g2, g3, g4, fun j h1 h2 => g5 j (by omega) h2⟩
theorem goodPs_iff (xs : List S26) : goodPs xs = true ↔ xs.length ≤ 10 ∧ ∀ j, j < xs.length → atP xs j := by
  have := goodPl_iff xs xs.length 0 (by omega)
  unfold goodPs
  rw [this]
  exact ⟨fun h => ⟨h.1, fun j hj => h.2 j (by omega) hj⟩, fun h => ⟨h.1, fun j _ hj => h.2 j hj⟩⟩
theorem goodPs_len {xs : List S26} (h : goodPs xs = true) : xs.length ≤ 10 := ((goodPs_iff xs).1 h).1
theorem withM_len (xs : List S26) (i s : Int) : (withM xs i s).1.length ≤ 10 := by
  unfold withM
  split
  · rename_i h; exact goodPs_len h
  · simp
theorem setP_word (xs : List S26) (hw : ∀ x ∈ xs, x.f1.size ≤ 1152921504606846976) (i s : Int) (h : i.toNat < xs.length) : ∀ x ∈ setP xs i s, x.f1.size ≤ 1152921504606846976 := by
  intro x hx
  rcases List.mem_or_eq_of_mem_set hx with hx | rfl
  · exact hw x hx
  · show (rd_T26 xs i).f1.size ≤ _
    unfold rd_T26
    rw [List.getD_eq_getElem?_getD, List.getElem?_eq_getElem h]
    exact hw _ (List.getElem_mem h)
theorem setP_len (xs : List S26) (i s : Int) : (setP xs i s).length = xs.length := by unfold setP; rw [List.length_set]

def askId (xs : List S26) : Int := if (xs.length : Int) > 0 then wrap64 ((rd_T26 xs ((xs.length : Int) - 1)).f0 + 1) else 1
def askP (xs : List S26) (q : ByteArray) (a b c : Int) : List S26 := xs ++ [(⟨askId xs, q, a, b, c, 0⟩ : S26)]
def askM (xs : List S26) (q : ByteArray) (a b c : Int) : List S26 × Int × Bool := if goodPs xs = true then (if goodPs (askP xs q a b c) = true then (askP xs q a b c, askId xs, true) else ([], 0, false)) else ([], 0, false)
theorem askM_len (xs : List S26) (q : ByteArray) (a b c : Int) : (askM xs q a b c).1.length ≤ 10 := by
  unfold askM
  split
  · split
    · rename_i h; exact goodPs_len h
    · simp
  · simp
theorem sp_AskPermit (xs : List S26) (hx : xs.length ≤ 2097152) (hw : ∀ x ∈ xs, x.f1.size ≤ 1152921504606846976) (q : ByteArray) (hq : q.size ≤ 1152921504606846976) (a b c : Int) : Evn (fun k => spec_AskPermit.f k xs q a b c) (askM xs q a b c) := by
  have fin : ∀ i, i = askId xs → Evn (fun k => spec_AskPermit.j0 k xs q a b c i) (askM xs q a b c) := fun i hi => by
    subst hi
    refine Evn.step ?_
    unfold askM
    simp only [spec_AskPermit.j0, Option.bind_some, List.nil_append, List.length_nil, if_pos (show 0 + xs.length < 2513169434916 by omega), if_pos (show xs.length < 2513169434916 by omega)]
    change Evn (fun k => (spec_l22Good.f k xs).bind fun t => if t = true then (spec_l22Good.f k (askP xs q a b c)).bind fun u => if u = true then some (askP xs q a b c, askId xs, true) else some ([], 0, false) else some ([], 0, false)) _
    refine Evn.bind (sp_l22Good xs (by omega) hw) ?_
    refine Evn.ite (fun c1 => ?_) (fun c1 => (Evn.done _).eq_ (by rw [if_neg c1]))
    rw [if_pos c1]
    refine Evn.bind (sp_l22Good (askP xs q a b c) (by unfold askP; rw [List.length_append, List.length_singleton]; omega) (fun x hx => ?_)) ?_
    · rcases List.mem_append.1 hx with hx | hx
      · exact hw x hx
      · rw [List.mem_singleton.1 hx]; exact hq
    exact Evn.ite (fun c2 => (Evn.done _).eq_ (by rw [if_pos c2])) (fun c2 => (Evn.done _).eq_ (by rw [if_neg c2]))
  unfold spec_AskPermit.f
  refine Evn.ite (fun c1 => ?_) (fun c1 => fin 1 (by unfold askId; rw [if_neg c1]))
  have hwr : wrap64 ((xs.length : Int) - 1) = (xs.length : Int) - 1 := wrap_id (by omega) (by omega)
  simp only [hwr, if_pos (show 0 ≤ (xs.length : Int) - 1 by omega), if_pos (show (xs.length : Int) - 1 < (xs.length : Int) by omega)]
  exact fin _ (by unfold askId; rw [if_pos c1])

def freeM (xs : List S26) (q : ByteArray) (a tt : Int) : List (List Int) × Bool := if goodPs xs = true ∧ wordB q = true ∧ (0 ≤ a ∧ a ≤ 999) ∧ (a ≤ tt ∧ tt ≤ 999) then (outR (spR (freeD xs q) (tt + 1 - a).toNat a []), true) else ([], false)

theorem sp_FreeDays_l0 (xs : List S26) (hx : xs.length ≤ 4194304) (q : ByteArray) (tt : Int) (hto : tt ≤ 999) : ∀ (d : Nat) (x : Int) (rs : List (Int × Int)), x + d = tt + 1 → 0 ≤ x → rs.length + d ≤ 1048576 → Evn (fun k => spec_FreeDays.l0 k xs q tt (outR rs) x) (outR (spR (freeD xs q) d x rs), true) := by
  intro d
  induction d with
  | zero =>
    intro x rs h h0 hl
    refine Evn.step ?_
    have h1 : ¬ x ≤ tt := by omega
    simp only [spec_FreeDays.l0, if_neg h1]
    exact Evn.done _
  | succ d ih =>
    intro x rs h h0 hl
    refine Evn.step ?_
    have h1 : x ≤ tt := by omega
    have hw1 : wrap64 (x + 1) = x + 1 := wrap_id (by omega) (by omega)
    have hw2 : wrap64 (x - 1) = x - 1 := wrap_id (by omega) (by omega)
    simp only [spec_FreeDays.l0, if_pos h1, hw1, hw2]
    rw [spR]
    refine Evn.bind (sp_l22On xs hx q x) ?_
    have e : freeD xs q x = decide (idxP26 (onDay q x) xs 0 < 0) := rfl
    rw [e]
    refine Evn.ite (fun c => ?_) (fun c => ?_)
    · rw [if_neg (fun h => absurd (of_decide_eq_true h) (by omega))]
      exact ih (x + 1) rs (by omega) (by omega) (by omega)
    rw [if_pos (decide_eq_true (by omega))]
    have push : Evn (fun k => if (outR rs).length < 5864062014805 then spec_FreeDays.l0 k xs q tt (outR rs ++ [[x, x]]) (x + 1) else none) (outR (spR (freeD xs q) d (x + 1) ((x, x) :: rs)), true) := by
      refine Evn.ite (fun _ => ?_) (fun hn => absurd (by rw [outR_len]; omega) hn)
      have := ih (x + 1) ((x, x) :: rs) (by omega) (by omega) (by rw [List.length_cons]; omega)
      rw [outR_cons] at this
      exact this
    cases rs with
    | nil =>
      have hz : ¬ (((outR []).length : Int)) > 0 := by show ¬ (0 : Int) > 0; decide
      simp only [if_neg hz]
      exact push
    | cons p t =>
      have hlen : ((outR (p :: t)).length : Int) = (t.length : Int) + 1 := by rw [outR_len, List.length_cons]; rfl
      have ht : t.length + 1 + (d + 1) ≤ 1048576 := by rw [List.length_cons] at hl; omega
      have hw : wrap64 (((outR (p :: t)).length : Int) - 1) = (t.length : Int) := by rw [hlen, wrap_id (by omega) (by omega)]; omega
      have hr1 : rd (toL p) 1 = p.2 := rfl
      have hr0 : rd (toL p) 0 = p.1 := rfl
      have hl1 : 1 < ((toL p).length : Int) := by show (1 : Int) < 2; omega
      have hl0 : 0 < ((toL p).length : Int) := by show (0 : Int) < 2; omega
      simp only [if_pos (show ((outR (p :: t)).length : Int) > 0 by omega), hw, if_pos (show (0 : Int) ≤ (t.length : Int) by omega), if_pos (show (t.length : Int) < ((outR (p :: t)).length : Int) by omega), outR_last, if_pos hl1, if_pos hl0, hr1, hr0, Int.toNat_natCast, outR_set]
      rw [stepR]
      refine Evn.ite (fun c2 => ?_) (fun c2 => by rw [if_neg c2]; exact push)
      rw [if_pos c2]
      have := ih (x + 1) ((p.1, x) :: t) (by omega) (by omega) (by rw [List.length_cons]; omega)
      rw [outR_cons] at this
      exact this
theorem sp_FreeDays (xs : List S26) (hx : xs.length ≤ 4194304) (hw : ∀ x ∈ xs, x.f1.size ≤ 1152921504606846976) (q : ByteArray) (hq : q.size ≤ 1152921504606846976) (a tt : Int) : Evn (fun k => spec_FreeDays.f k xs q a tt) (freeM xs q a tt) := by
  unfold spec_FreeDays.f freeM
  have no : Evn (fun k => spec_FreeDays.j0 k xs q a tt [] true) ([], false) := by
    refine Evn.step ?_
    simp only [spec_FreeDays.j0, if_true]
    exact Evn.done _
  simp only [Option.bind_some]
  refine Evn.bind (sp_l22Good xs hx hw) ?_
  refine Evn.ite (fun c1 => ?_) (fun c1 => no.eq_ (by rw [if_neg (fun h => c1 h.1)]))
  refine Evn.bind (sp_l2Word q hq) ?_
  refine Evn.ite (fun c2 => ?_) (fun c2 => no.eq_ (by rw [if_neg (fun h => c2 h.2.1)]))
  simp only [sp_l22Day, sp_l1In, Option.bind_some]
  refine Evn.ite (fun c3 => ?_) (fun c3 => no.eq_ (by rw [if_neg (fun h => c3 (decide_eq_true h.2.2.1))]))
  have g3 := of_decide_eq_true c3
  by_cases c4 : a ≤ tt ∧ tt ≤ 999
  · rw [decide_eq_true c4, if_pos ⟨c1, c2, g3, c4⟩]
    refine Evn.step ?_
    simp only [spec_FreeDays.j0, Bool.not_true, Bool.false_eq_true, if_false]
    exact sp_FreeDays_l0 xs hx q tt c4.2 (tt + 1 - a).toNat a [] (by omega) g3.1 (by simp only [List.length_nil]; omega)
  · rw [decide_eq_false c4, if_neg (fun h => c4 h.2.2.2)]
    exact no

/-! The draws: a cursor over bytes. -/
def Byts (l : List Int) : Prop := ∀ x ∈ l, 0 ≤ x ∧ x ≤ 255
theorem bits255 (x : Int) : 0 ≤ Go.bits .and .u64 x 255 ∧ Go.bits .and .u64 x 255 ≤ 255 := by
  have h : (BitVec.ofInt 64 x &&& BitVec.ofInt 64 255).toNat ≤ 255 := by rw [BitVec.toNat_and]; exact Nat.le_trans Nat.and_le_right (by decide)
  have e : Go.bits .and .u64 x 255 = IntKind.u64.wrap ((BitVec.ofInt 64 x &&& BitVec.ofInt 64 255).toNat : Int) := rfl
  rw [e, IntKind.wrap_u64]
  omega
theorem Byts.at_ {l : List Int} (h : Byts l) (p : Int) : 0 ≤ rd l p ∧ rd l p ≤ 255 := by
  unfold rd
  by_cases g : p.toNat < l.length
  · rw [List.getD_eq_getElem?_getD, List.getElem?_eq_getElem g, Option.getD_some]
    exact h _ (List.getElem_mem g)
  · rw [List.getD_eq_getElem?_getD, List.getElem?_eq_none (by omega), Option.getD_none]
    omega
theorem dw_next {l : List Int} {p : Int} (hl : Byts l) (h0 : 0 ≤ p) (h1 : p ≤ 2000000000) (s : Int) : ∃ r, spec_l1Cur_next.f l p s = some r ∧ 0 ≤ r.1 ∧ r.1 ≤ 255 ∧ r.2.1 = p + 1 := by
  have hr := hl.at_ p
  have e : wrap64 (rd l p) = rd l p := wrap_id (by omega) (by omega)
  have e2 : wrap64 (p + 1) = p + 1 := wrap_id (by omega) (by omega)
  unfold spec_l1Cur_next.f
  rw [e, e2]
  split
  · (try rw [if_pos h0])
    split
    · exact ⟨_, rfl, hr.1, hr.2, rfl⟩
    · refine ⟨_, rfl, ?_, ?_, rfl⟩
      · dsimp only; rw [wrap_id (by have := bits255; exact Int.le_trans (by decide) (this _).1) (Int.le_trans (bits255 _).2 (by decide))]; exact (bits255 _).1
      · dsimp only; rw [wrap_id (by have := bits255; exact Int.le_trans (by decide) (this _).1) (Int.le_trans (bits255 _).2 (by decide))]; exact (bits255 _).2
  · split
    · exact ⟨_, rfl, by dsimp only; omega, by dsimp only; omega, rfl⟩
    · refine ⟨_, rfl, ?_, ?_, rfl⟩
      · dsimp only; rw [wrap_id (by have := bits255; exact Int.le_trans (by decide) (this _).1) (Int.le_trans (bits255 _).2 (by decide))]; exact (bits255 _).1
      · dsimp only; rw [wrap_id (by have := bits255; exact Int.le_trans (by decide) (this _).1) (Int.le_trans (bits255 _).2 (by decide))]; exact (bits255 _).2

theorem tmod_in {x n : Int} (hx : 0 ≤ x) (hn : 1 < n) : 0 ≤ Int.tmod x n ∧ Int.tmod x n < n := by
  rw [Int.tmod_eq_emod_of_nonneg hx]
  exact ⟨Int.emod_nonneg _ (by omega), Int.emod_lt_of_pos _ (by omega)⟩
theorem dw_pick {l : List Int} {p : Int} (hl : Byts l) (h0 : 0 ≤ p) (h1 : p ≤ 1000000000) (s n : Int) : ∃ r, spec_l1Cur_pick.f l p s n = some r ∧ 0 ≤ r.1 ∧ (r.1 < n ∨ r.1 = 0) ∧ p ≤ r.2.1 ∧ r.2.1 ≤ p + 2 := by
  unfold spec_l1Cur_pick.f
  by_cases c : n ≤ 1
  · rw [if_pos c]
    exact ⟨_, rfl, by dsimp only; omega, Or.inr rfl, Int.le_refl _, by dsimp only; omega⟩
  · rw [if_neg c]
    obtain ⟨a, ha, a0, a1, a2⟩ := dw_next hl h0 (by omega) s
    rw [ha, Option.bind_some]
    split
    · obtain ⟨b, hb, b0, b1, b2⟩ := dw_next hl (p := a.2.1) (by omega) (by omega) a.2.2
      rw [hb, Option.bind_some, if_neg (by omega)]
      have t := tmod_in (x := wrap64 (wrap64 (a.1 * 256) + b.1)) (n := n) (by rw [wrap_id (x := a.1 * 256) (by omega) (by omega), wrap_id (by omega) (by omega)]; omega) (by omega)
      exact ⟨_, rfl, t.1, Or.inl t.2, by dsimp only; omega, by dsimp only; omega⟩
    · rw [if_neg (by omega)]
      have t := tmod_in (x := a.1) (n := n) a0 (by omega)
      exact ⟨_, rfl, t.1, Or.inl t.2, by dsimp only; omega, by dsimp only; omega⟩

theorem dw_one {l : List Int} {p : Int} (hl : Byts l) (h0 : 0 ≤ p) (h1 : p ≤ 1000000000) (s n : Int) : ∃ r, spec_l1Cur_one.f l p s n = some r ∧ p ≤ r.2.1 ∧ r.2.1 ≤ p + 2 := by
  unfold spec_l1Cur_one.f
  obtain ⟨a, ha, a0, a1, a2, a3⟩ := dw_pick hl h0 h1 s n
  rw [ha, Option.bind_some]
  exact ⟨_, rfl, a2, a3⟩

theorem rd_mem {L : List Int} {i : Int} (h0 : 0 ≤ i) (h1 : i < L.length) : rd L i ∈ L := by
  unfold rd
  rw [List.getD_eq_getElem?_getD, List.getElem?_eq_getElem (by omega), Option.getD_some]
  exact List.getElem_mem _
theorem dw_among {l : List Int} {p : Int} (hl : Byts l) (h0 : 0 ≤ p) (h1 : p ≤ 1000000000) (s : Int) (L : List Int) (hL : 0 < L.length) : ∃ r, spec_l1Cur_among.f l p s L = some r ∧ r.1 ∈ L ∧ p ≤ r.2.1 ∧ r.2.1 ≤ p + 2 := by
  unfold spec_l1Cur_among.f
  obtain ⟨a, ha, a0, a1, a2, a3⟩ := dw_pick hl h0 h1 s (L.length : Int)
  have a4 : a.1 < (L.length : Int) := by omega
  rw [ha, Option.bind_some, if_pos a0, if_pos a4]
  exact ⟨_, rfl, rd_mem a0 a4, a2, a3⟩

theorem rdOf_mem {L : List ByteArray} {i : Int} (h0 : 0 ≤ i) (h1 : i < L.length) : rdOf ByteArray.empty L i ∈ L := by
  unfold rdOf
  rw [List.getD_eq_getElem?_getD, List.getElem?_eq_getElem (by omega), Option.getD_some]
  exact List.getElem_mem _
theorem dw_of {l : List Int} {p : Int} (hl : Byts l) (h0 : 0 ≤ p) (h1 : p ≤ 1000000000) (s : Int) (L : List ByteArray) (hL : 0 < L.length) : ∃ r, spec_l1Cur_of.f l p s L = some r ∧ r.1 ∈ L ∧ p ≤ r.2.1 ∧ r.2.1 ≤ p + 2 := by
  unfold spec_l1Cur_of.f
  obtain ⟨a, ha, a0, a1, a2, a3⟩ := dw_pick hl h0 h1 s (L.length : Int)
  have a4 : a.1 < (L.length : Int) := by omega
  rw [ha, Option.bind_some, if_pos a0, if_pos a4]
  exact ⟨_, rfl, rdOf_mem a0 a4, a2, a3⟩

theorem dw_cave22 {l : List Int} {p : Int} (hl : Byts l) (h0 : 0 ≤ p) (h1 : p ≤ 1000000000) (s : Int) : ∃ r, spec_l1Cur_cave22.f l p s = some r ∧ r.1.size ≤ 11 ∧ p ≤ r.2.1 ∧ r.2.1 ≤ p + 2 := by
  unfold spec_l1Cur_cave22.f
  obtain ⟨a, ha, am, a2, a3⟩ := dw_of hl h0 h1 s [(⟨#[98, 108, 117, 102, 102]⟩ : ByteArray), (⟨#[98, 108, 117, 102, 102]⟩ : ByteArray), (⟨#[107, 97, 114, 115, 116]⟩ : ByteArray), (⟨#[120]⟩ : ByteArray)] (by simp)
  simp only [ha, Option.bind_some]
  refine ⟨_, rfl, ?_, a2, a3⟩
  simp only [List.mem_cons, List.not_mem_nil, or_false] at am
  rcases am with e | e | e | e <;> rw [e] <;> decide

theorem dw_least (a b : Int) : ∃ t, spec_l1Least.f a b = some t := by
  unfold spec_l1Least.f
  split
  · exact ⟨_, rfl⟩
  · exact ⟨_, rfl⟩
theorem dw_permit {l : List Int} {p : Int} (hl : Byts l) (h0 : 0 ≤ p) (h1 : p ≤ 900000000) (s q : Int) : ∃ r, spec_l1Cur_permit.f l p s q = some r ∧ r.2.1.size ≤ 11 ∧ p ≤ r.2.2.2.2.2.2.1 ∧ r.2.2.2.2.2.2.1 ≤ p + 14 := by
  unfold spec_l1Cur_permit.f
  obtain ⟨a, ha, _, a2, a3⟩ := dw_among hl h0 (by omega) s [0, 3, 10, 20, 990] (by simp)
  obtain ⟨b, hb, b1, b2, b3⟩ := dw_cave22 hl (p := a.2.1) (by omega) (by omega) a.2.2
  obtain ⟨c, hc, _, c2, c3⟩ := dw_among hl (p := b.2.1) (by omega) (by omega) b.2.2 [0, 1, 5, 9] (by simp)
  obtain ⟨t, ht⟩ := dw_least 999 (wrap64 (a.1 + c.1))
  obtain ⟨d, hd, _, d2, d3⟩ := dw_among hl (p := c.2.1) (by omega) (by omega) c.2.2 [1, 4, 12] (by simp)
  obtain ⟨e, he, _, e2, e3⟩ := dw_among hl (p := d.2.1) (by omega) (by omega) d.2.2 [0, 0, 1, 1, 2, 3, 4] (by simp)
  obtain ⟨u, hu, u0, u1, u2, u3⟩ := dw_pick hl (p := e.2.1) (by omega) (by omega) e.2.2 70
  simp only [ha, hb, hc, ht, hd, he, hu, Option.bind_some]
  by_cases c0 : u.1 = 0
  · obtain ⟨v, hv, _, v2, v3⟩ := dw_among hl (p := u.2.1) (by omega) (by omega) u.2.2 [0, 99, 100] (by simp)
    simp only [if_pos c0, hv, Option.bind_some]
    exact ⟨_, rfl, b1, by dsimp only; omega, by dsimp only; omega⟩
  by_cases c1 : u.1 = 1
  · obtain ⟨v, hv, vm, v2, v3⟩ := dw_of hl (p := u.2.1) (by omega) (by omega) u.2.2 [(⟨#[]⟩ : ByteArray), (⟨#[65]⟩ : ByteArray), (⟨#[97, 98, 99, 100, 101, 102, 103, 104, 105, 106, 107]⟩ : ByteArray)] (by simp)
    simp only [if_neg c0, if_pos c1, hv, Option.bind_some]
    refine ⟨_, rfl, ?_, by dsimp only; omega, by dsimp only; omega⟩
    simp only [List.mem_cons, List.not_mem_nil, or_false] at vm
    rcases vm with e | e | e <;> rw [e] <;> decide
  by_cases c2 : u.1 = 2
  · obtain ⟨v, hv, _, v2, v3⟩ := dw_among hl (p := u.2.1) (by omega) (by omega) u.2.2 [wrap64 (a.1 - 1), 1000] (by simp)
    simp only [if_neg c0, if_neg c1, if_pos c2, hv, Option.bind_some]
    exact ⟨_, rfl, b1, by dsimp only; omega, by dsimp only; omega⟩
  by_cases c3 : u.1 = 3
  · obtain ⟨v, hv, _, v2, v3⟩ := dw_among hl (p := u.2.1) (by omega) (by omega) u.2.2 [0, 13] (by simp)
    simp only [if_neg c0, if_neg c1, if_neg c2, if_pos c3, hv, Option.bind_some]
    exact ⟨_, rfl, b1, by dsimp only; omega, by dsimp only; omega⟩
  by_cases c4 : u.1 = 4
  · obtain ⟨v, hv, _, v2, v3⟩ := dw_among hl (p := u.2.1) (by omega) (by omega) u.2.2 [-1, 5] (by simp)
    simp only [if_neg c0, if_neg c1, if_neg c2, if_neg c3, if_pos c4, hv, Option.bind_some]
    exact ⟨_, rfl, b1, by dsimp only; omega, by dsimp only; omega⟩
  simp only [if_neg c0, if_neg c1, if_neg c2, if_neg c3, if_neg c4]
  exact ⟨_, rfl, b1, by dsimp only; omega, by dsimp only; omega⟩

def okW (xs : List S26) : Prop := ∀ x ∈ xs, x.f1.size ≤ 11
theorem okW_nil : okW [] := fun x hx => absurd hx (by simp)
theorem okW_snoc {xs : List S26} (h : okW xs) (y : S26) (hy : y.f1.size ≤ 11) : okW (xs ++ [y]) := by
  intro x hx
  rcases List.mem_append.1 hx with hx | hx
  · exact h x hx
  · rw [List.mem_singleton.1 hx]; exact hy
theorem okW_big {xs : List S26} (h : okW xs) : ∀ x ∈ xs, x.f1.size ≤ 1152921504606846976 := fun x hx => Nat.le_trans (h x hx) (by decide)
theorem dw_permits_l1 {l : List Int} (hl : Byts l) : ∀ (D : Nat) (zs : List S26) (i p s : Int), i + (D : Int) = 11 → 0 ≤ i → zs.length + D ≤ 20 → okW zs → 0 ≤ p → p ≤ 900000000 - 2 * (D : Int) → ∃ r, Evn (fun k => spec_l1Cur_permits.l1 k zs i l p s) r ∧ r.1.length ≤ 20 ∧ okW r.1 ∧ p ≤ r.2.1 ∧ r.2.1 ≤ p + 2 * (D : Int) + 2 := by
  intro D
  induction D with
  | zero =>
    intro zs i p s hi i0 hz hw h0 h1
    obtain ⟨u, hu, u0, u1, u2, u3⟩ := dw_pick hl h0 (by omega) s 2
    have c2 : ¬ i < wrap64 (10 + u.1) := by rw [wrap_id (by omega) (by omega)]; omega
    refine ⟨(zs, u.2.1, u.2.2), Evn.step ?_, by dsimp only; omega, hw, by dsimp only; omega, by dsimp only; omega⟩
    simp only [spec_l1Cur_permits.l1, hu, Option.bind_some, if_neg c2]
    exact Evn.done _
  | succ D ih =>
    intro zs i p s hi i0 hz hw h0 h1
    obtain ⟨u, hu, u0, u1, u2, u3⟩ := dw_pick hl h0 (by omega) s 2
    by_cases c1 : i < wrap64 (10 + u.1)
    · have hwr : wrap64 (i + 1) = i + 1 := wrap_id (by omega) (by omega)
      have hq : zs.length < 2513169434916 := by omega
      obtain ⟨r, hr, r1, r2, r3, r4⟩ := ih (zs ++ [⟨wrap64 (i + 1), (⟨#[120]⟩ : ByteArray), i, i, 1, 0⟩]) (i + 1) u.2.1 u.2.2 (by omega) (by omega) (by rw [List.length_append, List.length_singleton]; omega) (okW_snoc hw _ (show (⟨#[120]⟩ : ByteArray).size ≤ 11 by decide)) (by omega) (by omega)
      rw [hwr] at hr
      refine ⟨r, Evn.step ?_, r1, r2, by omega, by omega⟩
      simp only [spec_l1Cur_permits.l1, hu, Option.bind_some, if_pos c1, if_pos hq, hwr]
      exact hr
    · refine ⟨(zs, u.2.1, u.2.2), Evn.step ?_, by dsimp only; omega, hw, by dsimp only; omega, by dsimp only; omega⟩
      simp only [spec_l1Cur_permits.l1, hu, Option.bind_some, if_neg c1]
      exact Evn.done _
theorem dw_permits_l0 {l : List Int} (hl : Byts l) : ∀ (D : Nat) (zs : List S26) (j p s : Int), zs.length + D ≤ 8 → okW zs → 0 ≤ p → p ≤ 800000000 - 20 * (D : Int) → ∃ r, Evn (fun k => spec_l1Cur_permits.l0 k zs j (D : Int) l p s) r ∧ r.1.length ≤ 20 ∧ okW r.1 ∧ p ≤ r.2.1 ∧ r.2.1 ≤ p + 20 * (D : Int) + 40 := by
  intro D
  induction D with
  | zero =>
    intro zs j p s hz hw h0 h1
    have hn : ¬ ((0 : Nat) : Int) > 0 := by decide
    obtain ⟨u, hu, u2, u3⟩ := dw_one hl h0 (by omega) s 24
    by_cases c1 : u.1 = true
    · obtain ⟨r, hr, r1, r2, r3, r4⟩ := dw_permits_l1 hl 11 [] 0 u.2.1 u.2.2 (by decide) (by decide) (by decide) okW_nil (by omega) (by omega)
      refine ⟨r, Evn.step ?_, r1, r2, by omega, by omega⟩
      simp only [spec_l1Cur_permits.l0, if_neg hn, hu, Option.bind_some, if_pos c1]
      exact hr
    · refine ⟨(zs, u.2.1, u.2.2), Evn.step ?_, by dsimp only; omega, hw, by dsimp only; omega, by dsimp only; omega⟩
      simp only [spec_l1Cur_permits.l0, if_neg hn, hu, Option.bind_some, if_neg c1]
      exact Evn.done _
  | succ D ih =>
    intro zs j p s hz hw h0 h1
    obtain ⟨u, hu, u0, u1, u2, u3⟩ := dw_pick hl h0 (by omega) s 3
    obtain ⟨v, hv, v1, v2, v3⟩ := dw_permit hl (p := u.2.1) (by omega) (by omega) u.2.2 (wrap64 ((wrap64 (j + 1)) + u.1))
    have hp : ((D + 1 : Nat) : Int) > 0 := by omega
    have hwr : wrap64 (((D + 1 : Nat) : Int) - 1) = (D : Int) := wrap_pred (by omega)
    have hq : zs.length < 2513169434916 := by omega
    have hq2 : ([] : List S26).length + zs.length < 2513169434916 := by simp only [List.length_nil]; omega
    have hy := okW_snoc hw ⟨v.1, v.2.1, v.2.2.1, v.2.2.2.1, v.2.2.2.2.1, v.2.2.2.2.2.1⟩ v1
    have hyl : (zs ++ [(⟨v.1, v.2.1, v.2.2.1, v.2.2.2.1, v.2.2.2.2.1, v.2.2.2.2.2.1⟩ : S26)]).length = zs.length + 1 := by rw [List.length_append, List.length_singleton]
    have hg := sp_l22Good _ (by omega) (okW_big hy)
    by_cases g : goodPs (zs ++ [(⟨v.1, v.2.1, v.2.2.1, v.2.2.2.1, v.2.2.2.2.1, v.2.2.2.2.2.1⟩ : S26)]) = true
    · obtain ⟨r, hr, r1, r2, r3, r4⟩ := ih _ (wrap64 ((wrap64 (j + 1)) + u.1)) v.2.2.2.2.2.2.1 v.2.2.2.2.2.2.2 (by omega) hy (by omega) (by omega)
      refine ⟨r, Evn.step ?_, r1, r2, by omega, by omega⟩
      simp only [spec_l1Cur_permits.l0, if_pos hp, hu, Option.bind_some, if_pos hq2, List.nil_append, hv, if_pos hq, hwr]
      refine Evn.bind hg ?_
      simp only [if_pos g]
      exact hr
    · obtain ⟨o, ho, o2, o3⟩ := dw_one hl (p := v.2.2.2.2.2.2.1) (by omega) (by omega) v.2.2.2.2.2.2.2 60
      by_cases c1 : o.1 = true
      · obtain ⟨r, hr, r1, r2, r3, r4⟩ := ih _ (wrap64 ((wrap64 (j + 1)) + u.1)) o.2.1 o.2.2 (by omega) hy (by omega) (by omega)
        refine ⟨r, Evn.step ?_, r1, r2, by omega, by omega⟩
        simp only [spec_l1Cur_permits.l0, if_pos hp, hu, Option.bind_some, if_pos hq2, List.nil_append, hv, if_pos hq, hwr]
        refine Evn.bind hg ?_
        simp only [if_neg g, ho, Option.bind_some, if_pos c1]
        exact hr
      · obtain ⟨r, hr, r1, r2, r3, r4⟩ := ih zs (wrap64 ((wrap64 (j + 1)) + u.1)) o.2.1 o.2.2 (by omega) hw (by omega) (by omega)
        refine ⟨r, Evn.step ?_, r1, r2, by omega, by omega⟩
        simp only [spec_l1Cur_permits.l0, if_pos hp, hu, Option.bind_some, if_pos hq2, List.nil_append, hv, if_pos hq, hwr]
        refine Evn.bind hg ?_
        simp only [if_neg g, ho, Option.bind_some, if_neg c1]
        exact hr
theorem dw_permits {l : List Int} {p : Int} (hl : Byts l) (h0 : 0 ≤ p) (h1 : p ≤ 700000000) (s : Int) : ∃ r, Evn (fun k => spec_l1Cur_permits.f k l p s) r ∧ r.1.length ≤ 20 ∧ okW r.1 ∧ p ≤ r.2.1 ∧ r.2.1 ≤ p + 300 := by
  unfold spec_l1Cur_permits.f
  obtain ⟨a, ha, a0, a1, a2, a3⟩ := dw_pick hl h0 (by omega) s 9
  obtain ⟨D, hD⟩ : ∃ D : Nat, a.1 = D := ⟨a.1.toNat, by omega⟩
  simp only [ha, Option.bind_some, hD]
  obtain ⟨r, hr, r1, r2, r3, r4⟩ := dw_permits_l0 hl D [] 0 a.2.1 a.2.2 (by simp only [List.length_nil]; omega) okW_nil (by omega) (by omega)
  exact ⟨r, hr, r1, r2, by omega, by omega⟩

theorem cut_n {x c : Int} (h0 : 0 ≤ x) (h1 : x < 24) (hc : 0 ≤ c) (hc2 : c ≤ 100) : ∃ n : Nat, wrap64 (c + wrap64 (Int.tdiv x 11)) = (n : Int) ∧ c ≤ (n : Int) ∧ (n : Int) ≤ c + 2 := by
  have e : Int.tdiv x 11 = x / 11 := Int.tdiv_eq_ediv_of_nonneg h0
  rw [e, wrap_id (x := x / 11) (by omega) (by omega), wrap_id (by omega) (by omega)]
  exact ⟨(c + x / 11).toNat, by omega, by omega, by omega⟩

theorem dw_day22 {l : List Int} {p : Int} (hl : Byts l) (h0 : 0 ≤ p) (h1 : p ≤ 900000000) (s : Int) : ∃ r, spec_l1Cur_day22.f l p s = some r ∧ r.1 ∈ ([0, 3, 4, 10, 14, 20, 999, (-1), 1000] : List Int) ∧ p ≤ r.2.1 ∧ r.2.1 ≤ p + 4 := by
  unfold spec_l1Cur_day22.f
  obtain ⟨b, hb, b0, b1, b2, b3⟩ := dw_pick hl h0 (by omega) s 24
  obtain ⟨n, hn, n1, n2⟩ := cut_n (c := 7) b0 (by omega) (by decide) (by decide)
  have l1 : ([0, 3, 4, 10, 14, 20, 999, (-1), 1000] : List Int).length = 9 := rfl
  obtain ⟨c, hc, cm, c2, c3⟩ := dw_among hl (p := b.2.1) (by omega) (by omega) b.2.2 (([0, 3, 4, 10, 14, 20, 999, (-1), 1000] : List Int).take n) (by rw [List.length_take, l1]; omega)
  have q1 : 0 ≤ (n : Int) := by omega
  have q2 : (n : Int) ≤ ((9 : Nat) : Int) := by omega
  simp only [Option.bind_some, hb, hn, if_pos q1, l1, if_pos q2, Int.toNat_natCast, hc]
  exact ⟨_, rfl, List.mem_of_mem_take cm, by dsimp only; omega, by dsimp only; omega⟩

theorem dw_DrawFreeDays {l : List Int} (hl : Byts l) : ∃ r, Evn (fun k => spec_DrawFreeDays.f k l) r ∧ r.1.length ≤ 20 ∧ okW r.1 ∧ r.2.1.size ≤ 11 := by
  unfold spec_DrawFreeDays.f
  obtain ⟨a, ha, a1, a2, a3, a4⟩ := dw_permits hl (p := 0) (by decide) (by decide) 0
  obtain ⟨b, hb, _, b2, b3⟩ := dw_day22 hl (p := a.2.1) (by omega) (by omega) a.2.2
  obtain ⟨c, hc, c1, c2, c3⟩ := dw_cave22 hl (p := b.2.1) (by omega) (by omega) b.2.2
  obtain ⟨d, hd, d0, d1, d2, d3⟩ := dw_pick hl (p := c.2.1) (by omega) (by omega) c.2.2 24
  obtain ⟨n, hn, n1, n2⟩ := cut_n (c := 3) d0 (by omega) (by decide) (by decide)
  have l1 : ([0, 5, 30, (-1), 1000] : List Int).length = 5 := rfl
  obtain ⟨e, he, _, e2, e3⟩ := dw_among hl (p := d.2.1) (by omega) (by omega) d.2.2 (([0, 5, 30, (-1), 1000] : List Int).take n) (by rw [List.length_take, l1]; omega)
  have q1 : 0 ≤ (n : Int) := by omega
  have q2 : (n : Int) ≤ ((5 : Nat) : Int) := by omega
  refine ⟨(a.1, c.1, b.1, wrap64 (b.1 + e.1)), Evn.bind ha (Evn.of fun _ => ?_), a1, a2, c1⟩
  simp only [hb, hc, Option.bind_some, hd, hn, if_pos q1, l1, if_pos q2, Int.toNat_natCast, he]

theorem dw_DrawFirstSlot {l : List Int} (hl : Byts l) : ∃ r, Evn (fun k => spec_DrawFirstSlot.f k l) r ∧ r.1.length ≤ 20 ∧ okW r.1 ∧ r.2.1.size ≤ 11 := by
  unfold spec_DrawFirstSlot.f
  obtain ⟨a, ha, a1, a2, a3, a4⟩ := dw_permits hl (p := 0) (by decide) (by decide) 0
  obtain ⟨c, hc, c1, c2, c3⟩ := dw_cave22 hl (p := a.2.1) (by omega) (by omega) a.2.2
  obtain ⟨b, hb, _, b2, b3⟩ := dw_day22 hl (p := c.2.1) (by omega) (by omega) c.2.2
  obtain ⟨d, hd, d0, d1, d2, d3⟩ := dw_pick hl (p := b.2.1) (by omega) (by omega) b.2.2 24
  obtain ⟨n, hn, n1, n2⟩ := cut_n (c := 4) d0 (by omega) (by decide) (by decide)
  have l1 : ([1, 3, 10, 100, 0, 101] : List Int).length = 6 := rfl
  obtain ⟨e, he, _, e2, e3⟩ := dw_among hl (p := d.2.1) (by omega) (by omega) d.2.2 (([1, 3, 10, 100, 0, 101] : List Int).take n) (by rw [List.length_take, l1]; omega)
  have q1 : 0 ≤ (n : Int) := by omega
  have q2 : (n : Int) ≤ ((6 : Nat) : Int) := by omega
  refine ⟨(a.1, c.1, b.1, e.1), Evn.bind ha (Evn.of fun _ => ?_), a1, a2, c1⟩
  simp only [hc, hb, Option.bind_some, hd, hn, if_pos q1, l1, if_pos q2, Int.toNat_natCast, he]

theorem dw_DrawAskPermit {l : List Int} (hl : Byts l) : ∃ r, Evn (fun k => spec_DrawAskPermit.f k l) r ∧ r.1.length ≤ 20 ∧ okW r.1 ∧ r.2.1.size ≤ 11 := by
  unfold spec_DrawAskPermit.f
  obtain ⟨a, ha, a1, a2, a3, a4⟩ := dw_permits hl (p := 0) (by decide) (by decide) 0
  obtain ⟨b, hb, b1, b2, b3⟩ := dw_permit hl (p := a.2.1) (by omega) (by omega) a.2.2 1
  refine ⟨(a.1, b.2.1, b.2.2.1, b.2.2.2.1, b.2.2.2.2.1), Evn.bind ha (Evn.of fun _ => ?_), a1, a2, b1⟩
  simp only [hb, Option.bind_some]

theorem dw_DrawIsPermit {l : List Int} (hl : Byts l) : ∃ r, spec_DrawIsPermit.f l = some r ∧ r.2.1.size ≤ 11 := by
  unfold spec_DrawIsPermit.f
  obtain ⟨a, ha, _, a2, a3⟩ := dw_among hl (p := 0) (by decide) (by decide) 0 [1, 12, 99] (by simp)
  obtain ⟨b, hb, b1, b2, b3⟩ := dw_permit hl (p := a.2.1) (by omega) (by omega) a.2.2 a.1
  refine ⟨(b.1, b.2.1, b.2.2.1, b.2.2.2.1, b.2.2.2.2.1, b.2.2.2.2.2.1), ?_, b1⟩
  simp only [ha, hb, Option.bind_some]

theorem im_within (x y z : Int) : impl_within.f x y z = some (decide (y ≤ x ∧ x ≤ z)) := by
  unfold impl_within.f
  by_cases h : x ≥ y <;> simp [h] <;> omega

theorem im_isWord (b : ByteArray) : impl_isWord.f b = some (wordB b) := rfl
theorem im_isId (a : Int) : impl_isId.f a = some (decide (1 ≤ a ∧ a ≤ 99)) := by simp only [impl_isId.f, im_within, Option.bind_some]
theorem im_isDay (a : Int) : impl_isDay.f a = some (decide (0 ≤ a ∧ a ≤ 999)) := by simp only [impl_isDay.f, im_within, Option.bind_some]
theorem im_IsPermit (a : Int) (b : ByteArray) (c d e f : Int) : impl_IsPermit.f a b c d e f = some (goodP a b c d e f) := by
  unfold impl_IsPermit.f goodP
  simp only [im_isId, im_isDay, im_isWord, im_within, Option.bind_some, ite_if]

theorem im_counts (a : Int) (b : ByteArray) (c d e f : Int) : impl_Permit_counts.f a b c d e f = some (holdsP f) := by
  unfold impl_Permit_counts.f holdsP
  by_cases h : f = 1 <;> simp [h]
theorem im_conflict (a b : S26) : impl_conflict.f a.f0 a.f1 a.f2 a.f3 a.f4 a.f5 b.f0 b.f1 b.f2 b.f3 b.f4 b.f5 = some (confP a b) := by
  unfold impl_conflict.f confP
  simp only [im_counts, Option.bind_some]
  by_cases h1 : a.f1.toList = b.f1.toList <;> by_cases h2 : a.f2 ≤ b.f3 <;> by_cases h3 : b.f2 ≤ a.f3 <;> cases holdsP a.f5 <;> cases holdsP b.f5 <;> simp [h1, h2, h3]
theorem im_xConflicts (ys : List S26) (a : S26) : impl_xConflicts.f ys a.f0 a.f1 a.f2 a.f3 a.f4 a.f5 = some (ys.any fun y => confP y a) := by
  unfold impl_xConflicts.f
  congr 2
  funext x
  rw [im_conflict, confP_comm a x]
  cases confP x a <;> rfl
theorem im_ArePermits_l0 (xs : List S26) (hx : xs.length ≤ 4194304) : ∀ (d i : Nat), i + d = xs.length → Evn (fun k => impl_ArePermits.l0 k xs xs (xs.length : Int) (i : Int)) (goodPl xs d i) := by
  intro d
  induction d with
  | zero =>
    intro i h
    refine Evn.step ?_
    have h1 : ¬ (i : Int) < (xs.length : Int) := by omega
    simp only [impl_ArePermits.l0, if_neg h1, goodPl]
    exact Evn.done _
  | succ d ih =>
    intro i h
    refine Evn.step ?_
    have h1 : (i : Int) < (xs.length : Int) := by omega
    have h2 : 0 ≤ (i : Int) := by omega
    have h6 : (i : Int) ≤ (xs.length : Int) := by omega
    have hih := ih (i + 1) (by omega)
    simp only [impl_ArePermits.l0, if_pos h1, if_pos h2, if_pos h6, im_IsPermit, im_xConflicts, Option.bind_some, wrap_succ (show i < 4611686018427387904 by omega), rd_T26, Int.toNat_natCast, goodPl]
    change Evn _ (okP (xs.getD i z26) && _)
    have fin : Evn (fun k => if ((xs.take i).any fun y => confP y (xs.getD i z26)) = true then some false else impl_ArePermits.l0 k xs xs (xs.length : Int) ((i + 1 : Nat) : Int)) (!((xs.take i).any fun y => confP y (xs.getD i z26)) && goodPl xs d (i + 1)) :=
      Evn.ite (fun c => (Evn.done _).eq_ (by rw [c]; rfl)) (fun c => hih.eq_ (by rw [Bool.eq_false_iff.mpr c]; rfl))
    refine Evn.ite (fun c1 => ?_) (fun c1 => ?_)
    · rw [show okP (xs.getD i z26) = true from c1, Bool.true_and]
      rcases Nat.eq_zero_or_pos i with h0 | h0
      · subst h0
        have h3 : ¬ ((0 : Nat) : Int) > 0 := by omega
        simp only [if_neg h3, decide_true, Bool.true_or, Bool.true_and]
        exact fin
      · obtain ⟨j, rfl⟩ : ∃ j, i = j + 1 := ⟨i - 1, by omega⟩
        have h3 : ((j + 1 : Nat) : Int) > 0 := by omega
        have h4 : 0 ≤ (j : Int) := by omega
        have h5 : (j : Int) < (xs.length : Int) := by omega
        simp only [if_pos h3, wrap_pred (show j < 4611686018427387904 by omega), if_pos h4, if_pos h5, Int.toNat_natCast, Nat.add_sub_cancel]
        refine Evn.ite (fun c3 => (Evn.done _).eq_ ?_) (fun c3 => fin.eq_ ?_)
        · have e1 : decide ((xs.getD j z26).f0 < (xs.getD (j + 1) z26).f0) = false := decide_eq_false (by omega)
          simp only [e1, show decide (j + 1 = 0) = false from by simp, Bool.or_false, Bool.false_and]
        · have e1 : decide ((xs.getD j z26).f0 < (xs.getD (j + 1) z26).f0) = true := decide_eq_true (by omega)
          simp only [e1, Bool.or_true, Bool.true_and]
    · rw [show okP (xs.getD i z26) = false from Bool.eq_false_iff.2 c1, Bool.false_and]
      exact Evn.done _
theorem im_ArePermits (xs : List S26) (hx : xs.length ≤ 4194304) : Evn (fun k => impl_ArePermits.f k xs) (goodPs xs) := im_ArePermits_l0 xs hx xs.length 0 (by omega)

def allowedM (xs : List S26) (q : ByteArray) (n : Int) : Int × Bool := if goodPs xs = true then (if 0 ≤ n ∧ n ≤ 999 then (if idxP26 (onDay q n) xs 0 < 0 then (0, false) else ((rd_T26 xs (idxP26 (onDay q n) xs 0)).f0, true)) else (0, false)) else (0, false)

theorem im_xAllowed (xs : List S26) (q : ByteArray) (n : Int) : impl_xAllowed.f xs q n = some (idxP26 (onDay q n) xs 0) := rfl
theorem im_AllowedOn (xs : List S26) (hx : xs.length ≤ 4194304) (q : ByteArray) (n : Int) : Evn (fun k => impl_AllowedOn.f k xs q n) (allowedM xs q n) := by
  unfold impl_AllowedOn.f allowedM
  refine Evn.bind (im_ArePermits xs hx) ?_
  by_cases c : goodPs xs = true
  · simp only [if_pos c, im_isDay, im_isWord, impl_allowed.f, im_xAllowed, Option.bind_some]
    have hr := idxQ_range (onDay q n) xs 0 (by omega)
    by_cases cw : wordB q = true
    · simp only [if_pos cw]
      by_cases c2 : 0 ≤ n ∧ n ≤ 999
      · simp only [decide_eq_true c2, if_true, if_pos c2]
        by_cases c3 : idxP26 (onDay q n) xs 0 < 0
        · simp only [if_pos c3, Option.bind_some]
          exact Evn.done _
        · simp only [if_neg c3, if_pos (show 0 ≤ idxP26 (onDay q n) xs 0 by omega), if_pos (show idxP26 (onDay q n) xs 0 < (xs.length : Int) by omega), Option.bind_some]
          exact Evn.done _
      · simp only [decide_eq_false c2, Bool.false_eq_true, if_false, if_neg c2]
        exact Evn.done _
    · simp only [if_neg cw, noWord_none xs q n c cw]
      by_cases c2 : 0 ≤ n ∧ n ≤ 999
      · simp only [if_pos c2]
        exact Evn.done _
      · simp only [if_neg c2]
        exact Evn.done _
  · simp only [if_neg c]
    exact Evn.done _

theorem im_spans_l0 (xs : List S26) (q : ByteArray) (tt : Int) (hto : tt ≤ 999) : ∀ (d : Nat) (x : Int) (rs : List (Int × Int)), x + d = tt + 1 → 0 ≤ x → rs.length + d ≤ 1048576 → Evn (fun k => impl_spans.l0 k tt xs q (outR rs) x) (outR (spR (freeD xs q) d x rs)) := by
  intro d
  induction d with
  | zero =>
    intro x rs h h0 hl
    refine Evn.step ?_
    have h1 : ¬ x ≤ tt := by omega
    simp only [impl_spans.l0, if_neg h1]
    exact Evn.done _
  | succ d ih =>
    intro x rs h h0 hl
    refine Evn.step ?_
    have h1 : x ≤ tt := by omega
    have hw1 : wrap64 (x + 1) = x + 1 := wrap_id (by omega) (by omega)
    have hw2 : wrap64 (x - 1) = x - 1 := wrap_id (by omega) (by omega)
    have e : impl_xFree.f xs q x = some (freeD xs q x) := rfl
    simp only [impl_spans.l0, if_pos h1, e, Option.bind_some, hw1, hw2]
    rw [spR]
    refine Evn.ite (fun c => ?_) (fun c => by rw [if_neg c]; exact ih (x + 1) rs (by omega) (by omega) (by omega))
    rw [if_pos c]
    have push : Evn (fun k => if (outR rs).length < 5864062014805 then impl_spans.l0 k tt xs q (outR rs ++ [[x, x]]) (x + 1) else none) (outR (spR (freeD xs q) d (x + 1) ((x, x) :: rs))) := by
      refine Evn.ite (fun _ => ?_) (fun hn => absurd (by rw [outR_len]; omega) hn)
      have := ih (x + 1) ((x, x) :: rs) (by omega) (by omega) (by rw [List.length_cons]; omega)
      rw [outR_cons] at this
      exact this
    cases rs with
    | nil =>
      have hw : wrap64 (((outR []).length : Int) - 1) = -1 := (wrap_id (x := (0 : Int) - 1) (by omega) (by omega)).trans (by omega)
      simp only [hw, if_neg (show ¬ (-1 : Int) ≥ 0 by omega)]
      exact push
    | cons p t =>
      have hlen : ((outR (p :: t)).length : Int) = (t.length : Int) + 1 := by rw [outR_len, List.length_cons]; rfl
      have ht : t.length + 1 + (d + 1) ≤ 1048576 := by rw [List.length_cons] at hl; omega
      have hw : wrap64 (((outR (p :: t)).length : Int) - 1) = (t.length : Int) := by rw [hlen, wrap_id (by omega) (by omega)]; omega
      have hr1 : rd (toL p) 1 = p.2 := rfl
      have hl1 : 1 < ((toL p).length : Int) := by show (1 : Int) < 2; omega
      have hs : (toL p).set (1 : Int).toNat x = toL (p.1, x) := rfl
      simp only [hw, if_pos (show (t.length : Int) ≥ 0 by omega), if_pos (show (0 : Int) ≤ (t.length : Int) by omega), if_pos (show (t.length : Int) < ((outR (p :: t)).length : Int) by omega), outR_last, if_pos hl1, hr1, hs, Int.toNat_natCast, outR_set]
      rw [stepR]
      refine Evn.ite (fun c2 => ?_) (fun c2 => by rw [if_neg c2]; exact push)
      rw [if_pos c2]
      have := ih (x + 1) ((p.1, x) :: t) (by omega) (by omega) (by rw [List.length_cons]; omega)
      rw [outR_cons] at this
      exact this
theorem im_spans (xs : List S26) (q : ByteArray) (a tt : Int) (h0 : 0 ≤ a) (h1 : a ≤ tt) (hto : tt ≤ 999) : Evn (fun k => impl_spans.f k a tt xs q) (outR (spR (freeD xs q) (tt + 1 - a).toNat a [])) := im_spans_l0 xs q tt hto (tt + 1 - a).toNat a [] (by omega) h0 (by simp; omega)
theorem im_FreeDays (xs : List S26) (hx : xs.length ≤ 4194304) (q : ByteArray) (a tt : Int) : Evn (fun k => impl_FreeDays.f k xs q a tt) (freeM xs q a tt) := by
  unfold impl_FreeDays.f freeM
  refine Evn.bind (im_ArePermits xs hx) ?_
  refine Evn.ite (fun c1 => ?_) (fun c1 => (Evn.done _).eq_ (by rw [if_neg (fun h => c1 h.1)]))
  simp only [im_isWord, im_isDay, im_within, Option.bind_some]
  refine Evn.ite (fun c2 => ?_) (fun c2 => (Evn.done _).eq_ (by rw [if_neg (fun h => c2 h.2.1)]))
  refine Evn.ite (fun c3 => ?_) (fun c3 => (Evn.done _).eq_ (by rw [if_neg (fun h => c3 (decide_eq_true h.2.2.1))]))
  refine Evn.ite (fun c4 => ?_) (fun c4 => (Evn.done _).eq_ (by rw [if_neg (fun h => c4 (decide_eq_true h.2.2.2))]))
  have g3 := of_decide_eq_true c3
  have g4 := of_decide_eq_true c4
  rw [if_pos ⟨c1, c2, g3, g4⟩]
  exact Evn.bind (im_spans xs q a tt g3.1 g4.1 g4.2) (Evn.done _)

/-! The first span that is long enough is where the run of free days first is. -/
def longP (days : Int) (p : Int × Int) : Bool := decide (days ≤ p.2 - p.1 + 1)
def firstL (days : Int) (o : List (Int × Int)) : Int × Bool := match o.find? (longP days) with
  | some p => (p.1, true)
  | none => (0, false)
theorem im_FirstSlot_l0 (days : Int) (o : List (Int × Int)) (ho : o.length ≤ 4194304) (hb : ∀ p ∈ o, bdP p) : ∀ (d i : Nat), i + d = o.length → Evn (fun k => impl_FirstSlot.l0 k days (o.map toL) ((o.map toL).length : Int) (i : Int)) (firstL days (o.drop i)) := by
  intro d
  induction d with
  | zero =>
    intro i h
    refine Evn.step ?_
    have h1 : ¬ (i : Int) < ((o.map toL).length : Int) := by rw [List.length_map]; omega
    simp only [impl_FirstSlot.l0, if_neg h1]
    rw [List.drop_eq_nil_of_le (by omega)]
    exact Evn.done _
  | succ d ih =>
    intro i h
    refine Evn.step ?_
    have h1 : (i : Int) < ((o.map toL).length : Int) := by rw [List.length_map]; omega
    have h2 : 0 ≤ (i : Int) := by omega
    have hi : i < o.length := by omega
    have hp := hb _ (List.getElem_mem hi)
    have e : rd_L5 (o.map toL) (i : Int) = toL o[i] := by
      unfold rd_L5
      rw [Int.toNat_natCast, List.getD_eq_getElem?_getD, List.getElem?_map, List.getElem?_eq_getElem hi]
      rfl
    rw [List.drop_eq_getElem_cons hi]
    generalize o[i] = p at hp e
    have hr0 : rd (toL p) 0 = p.1 := rfl
    have hr1 : rd (toL p) 1 = p.2 := rfl
    have hl0 : 0 < ((toL p).length : Int) := by show (0 : Int) < 2; omega
    have hl1 : 1 < ((toL p).length : Int) := by show (1 : Int) < 2; omega
    obtain ⟨b1, b2, b3⟩ := hp
    have hw : wrap64 (wrap64 (p.2 - p.1) + 1) = p.2 - p.1 + 1 := by rw [wrap_id (x := p.2 - p.1) (by omega) (by omega)]; exact wrap_id (by omega) (by omega)
    simp only [impl_FirstSlot.l0, if_pos h1, if_pos h2, e, if_pos hl0, if_pos hl1, hr0, hr1, hw, wrap_succ (show i < 4611686018427387904 by omega)]
    unfold firstL
    rw [List.find?_cons]
    refine Evn.ite (fun c => (Evn.done _).eq_ (by rw [show longP days p = true from decide_eq_true (by omega)])) (fun c => ?_)
    rw [show longP days p = false from decide_eq_false (by omega)]
    exact ih (i + 1) (by omega)
def fst? (days : Int) (rs : List (Int × Int)) : Option Int := (rs.reverse.find? (longP days)).map (·.1)
theorem fst_cons (days : Int) (p : Int × Int) (t : List (Int × Int)) : fst? days (p :: t) = (fst? days t).or (if longP days p = true then some p.1 else none) := by
  unfold fst?
  rw [List.reverse_cons, List.find?_append]
  cases t.reverse.find? (longP days) with
  | some y => rfl
  | none =>
    show (([p].find? (longP days)).map (·.1)) = _
    rw [List.find?_cons]
    cases longP days p <;> rfl
theorem fst_step (days x lo : Int) (rs : List (Int × Int)) (h : fst? days rs = some lo) : fst? days (stepR x rs) = some lo := by
  cases rs with
  | nil => cases h
  | cons p t =>
    rw [stepR]
    split
    · rename_i c
      rw [fst_cons] at h ⊢
      cases ht : fst? days t with
      | some y => rw [ht] at h; exact h
      | none =>
        rw [ht] at h
        change (if longP days p = true then some p.1 else none) = some lo at h
        show (if longP days (p.1, x) = true then some p.1 else none) = some lo
        split at h
        · rename_i hl
          rw [if_pos (show longP days (p.1, x) = true from decide_eq_true (by have := of_decide_eq_true hl; show days ≤ x - p.1 + 1; omega))]
          exact h
        · cases h
    · rw [fst_cons, h]; rfl
theorem fst_spR (fr : Int → Bool) (days lo : Int) : ∀ (d : Nat) (x : Int) (rs : List (Int × Int)), fst? days rs = some lo → fst? days (spR fr d x rs) = some lo := by
  intro d
  induction d with
  | zero => intro x rs h; exact h
  | succ d ih =>
    intro x rs h
    refine ih (x + 1) _ ?_
    split
    · exact fst_step days x lo rs h
    · exact h
theorem fst_none (days : Int) (rs : List (Int × Int)) (h : ∀ p ∈ rs, p.2 - p.1 + 1 < days) : fst? days rs = none := by
  induction rs with
  | nil => rfl
  | cons p t ih =>
    rw [fst_cons, ih (fun q hq => h q (List.mem_cons_of_mem _ hq))]
    have := h p (List.mem_cons_self ..)
    rw [show longP days p = false from decide_eq_false (by omega)]
    rfl
theorem firstL_of (days : Int) (rs : List (Int × Int)) : firstL days rs.reverse = match fst? days rs with
    | some lo => (lo, true)
    | none => (0, false) := by
  unfold firstL fst?
  cases rs.reverse.find? (longP days) <;> rfl
theorem slot_eq (fr : Int → Bool) (days : Int) (hd : 1 ≤ days) : ∀ (d : Nat) (x r : Int) (rs : List (Int × Int)), 0 ≤ r → r < days → (∀ p ∈ rs, p.2 - p.1 + 1 < days) → (∀ p ∈ rs, p.2 < x) → (r = 0 → ∀ p t, rs = p :: t → p.2 ≠ x - 1) → (0 < r → ∃ t, rs = (x - r, x - 1) :: t) → firstL days (spR fr d x rs).reverse = slotR fr days d x r := by
  intro d
  induction d with
  | zero =>
    intro x r rs h0 h1 hs hl hz hp
    rw [spR, firstL_of, fst_none days rs hs]
    rfl
  | succ d ih =>
    intro x r rs h0 h1 hs hl hz hp
    rw [spR, slotR]
    by_cases c : fr x = true
    · rw [if_pos c, if_pos c]
      rcases Int.lt_or_eq_of_le h0 with hr | hr
      · obtain ⟨t, rfl⟩ := hp hr
        have e : stepR x ((x - r, x - 1) :: t) = (x - r, x) :: t := by rw [stepR, if_pos rfl]
        rw [e]
        by_cases c2 : r + 1 = days
        · rw [if_pos c2]
          have : fst? days ((x - r, x) :: t) = some (x - r) := by
            rw [fst_cons, fst_none days t (fun q hq => hs q (List.mem_cons_of_mem _ hq)), if_pos (show longP days (x - r, x) = true from decide_eq_true (by show days ≤ x - (x - r) + 1; omega))]
            rfl
          rw [firstL_of, fst_spR fr days _ d (x + 1) _ this]
          show (x - r, true) = _
          rw [show x - r = x - days + 1 by omega]
        · rw [if_neg c2]
          refine ih (x + 1) (r + 1) _ (by omega) (by omega) (fun q hq => ?_) (fun q hq => ?_) (fun h => by omega) (fun _ => ⟨t, by rw [show x + 1 - (r + 1) = x - r by omega, show x + 1 - 1 = x by omega]⟩)
          · rcases List.mem_cons.1 hq with rfl | hq
            · show x - (x - r) + 1 < days; omega
            · exact hs q (List.mem_cons_of_mem _ hq)
          · rcases List.mem_cons.1 hq with rfl | hq
            · show x < x + 1; omega
            · have := hl q (List.mem_cons_of_mem _ hq); omega
      · have hr' : r = 0 := hr.symm
        subst hr'
        have e : stepR x rs = (x, x) :: rs := by
          cases rs with
          | nil => rfl
          | cons p t => rw [stepR, if_neg (hz rfl p t rfl)]
        rw [e]
        by_cases c2 : (0 : Int) + 1 = days
        · rw [if_pos c2]
          have : fst? days ((x, x) :: rs) = some x := by
            rw [fst_cons, fst_none days rs hs, if_pos (show longP days (x, x) = true from decide_eq_true (by show days ≤ x - x + 1; omega))]
            rfl
          rw [firstL_of, fst_spR fr days _ d (x + 1) _ this]
          show (x, true) = _
          rw [show x - days + 1 = x by omega]
        · rw [if_neg c2]
          refine ih (x + 1) (0 + 1) _ (by omega) (by omega) (fun q hq => ?_) (fun q hq => ?_) (fun h => by omega) (fun _ => ⟨rs, by rw [show x + 1 - (0 + 1) = x by omega, show x + 1 - 1 = x by omega]⟩)
          · rcases List.mem_cons.1 hq with rfl | hq
            · show x - x + 1 < days; omega
            · exact hs q hq
          · rcases List.mem_cons.1 hq with rfl | hq
            · show x < x + 1; omega
            · have := hl q hq; omega
    · rw [if_neg c, if_neg c, if_neg (show ¬ (0 : Int) = days by omega)]
      refine ih (x + 1) 0 rs (by omega) (by omega) hs (fun q hq => by have := hl q hq; omega) (fun _ p t h => ?_) (fun h => by omega)
      have := hl p (by rw [h]; exact List.mem_cons_self ..)
      omega
theorem im_FirstSlot (xs : List S26) (hx : xs.length ≤ 4194304) (q : ByteArray) (a days : Int) : Evn (fun k => impl_FirstSlot.f k xs q a days) (slotM xs q a days) := by
  unfold impl_FirstSlot.f
  refine Evn.bind (im_FreeDays xs hx q a 999) ?_
  have no : ∀ o, Evn (fun k => impl_FirstSlot.j0 k days o true) (0, false) := fun o => by
    refine Evn.step ?_
    simp only [impl_FirstSlot.j0, if_true]
    exact Evn.done _
  unfold freeM slotM
  by_cases c : goodPs xs = true ∧ wordB q = true ∧ (0 ≤ a ∧ a ≤ 999)
  · rw [if_pos (show goodPs xs = true ∧ wordB q = true ∧ (0 ≤ a ∧ a ≤ 999) ∧ (a ≤ (999 : Int) ∧ (999 : Int) ≤ 999) from ⟨c.1, c.2.1, c.2.2, c.2.2.2, by omega⟩)]
    simp only [if_true, im_within, Option.bind_some]
    by_cases c4 : 1 ≤ days ∧ days ≤ 100
    · rw [if_pos ⟨c.1, c.2.1, c.2.2, c4⟩, decide_eq_true c4]
      refine Evn.step ?_
      simp only [impl_FirstSlot.j0, Bool.not_true, Bool.false_eq_true, if_false]
      have hb := spR_bd (freeD xs q) (999 + 1 - a).toNat a [] c.2.2.1 (by omega) (fun p hp => by cases hp)
      have hl := spR_len (freeD xs q) (999 + 1 - a).toNat a []
      have he := slot_eq (freeD xs q) days c4.1 (999 + 1 - a).toNat a 0 [] (by omega) (by omega) (fun p hp => by cases hp) (fun p hp => by cases hp) (fun _ p t h => by cases h) (fun h => by omega)
      rw [show (1000 - a).toNat = (999 + 1 - a).toNat by omega, ← he]
      generalize spR (freeD xs q) (999 + 1 - a).toNat a [] = rs at hb hl
      have ho : outR rs = rs.reverse.map toL := by unfold outR; rw [List.map_reverse]
      rw [ho]
      have := im_FirstSlot_l0 days rs.reverse (by rw [List.length_reverse]; rw [List.length_nil] at hl; omega) (fun p hp => hb p (List.mem_reverse.1 hp)) rs.reverse.length 0 (by omega)
      rw [List.drop_zero] at this
      exact this
    · rw [if_neg (fun h => c4 h.2.2.2), decide_eq_false c4]
      exact no _
  · rw [if_neg (fun h => c ⟨h.1, h.2.1, h.2.2.1⟩), if_neg (fun h => c ⟨h.1, h.2.1, h.2.2.1⟩)]
    simp only [Bool.false_eq_true, if_false]
    exact no _

theorem im_Clone (xs : List S26) (hx : xs.length ≤ 4194304) : impl_Permit_68.f xs = some xs := by
  unfold impl_Permit_68.f
  rw [if_pos (by omega)]

theorem im_AskPermit (xs : List S26) (hx : xs.length ≤ 2097152) (q : ByteArray) (a b c : Int) : Evn (fun k => impl_AskPermit.f k xs q a b c) (askM xs q a b c) := by
  unfold impl_AskPermit.f askM
  refine Evn.bind (im_ArePermits xs (by omega)) ?_
  refine Evn.ite (fun c1 => ?_) (fun c1 => (Evn.done _).eq_ (by rw [if_neg c1]))
  rw [if_pos c1]
  have fin : ∀ i, i = askId xs → Evn (fun k => impl_AskPermit.j0 k xs q a b c i) (if goodPs (askP xs q a b c) = true then (askP xs q a b c, askId xs, true) else ([], 0, false)) := fun i hi => by
    subst hi
    refine Evn.step ?_
    simp only [impl_AskPermit.j0, im_Clone xs (by omega), Option.bind_some, if_pos (show xs.length < 2513169434916 by omega)]
    change Evn (fun k => (impl_ArePermits.f k (askP xs q a b c)).bind fun u => if u = true then some (askP xs q a b c, askId xs, true) else some ([], 0, false)) _
    refine Evn.bind (im_ArePermits (askP xs q a b c) (by unfold askP; rw [List.length_append, List.length_singleton]; omega)) ?_
    exact Evn.ite (fun c2 => (Evn.done _).eq_ (by rw [if_pos c2])) (fun c2 => (Evn.done _).eq_ (by rw [if_neg c2]))
  refine Evn.ite (fun c1 => ?_) (fun c1 => fin 1 (by unfold askId; rw [if_neg c1]))
  have hwr : wrap64 ((xs.length : Int) - 1) = (xs.length : Int) - 1 := wrap_id (by omega) (by omega)
  simp only [hwr, if_pos (show 0 ≤ (xs.length : Int) - 1 by omega), if_pos (show (xs.length : Int) - 1 < (xs.length : Int) by omega)]
  exact fin _ (by unfold askId; rw [if_pos c1])

def decM (xs : List S26) (n : Int) (g : Bool) : List S26 × Bool := if goodPs xs = true ∧ 0 ≤ idxP26 (fun x => x.f0 == n) xs 0 ∧ (rd_T26 xs (idxP26 (fun x => x.f0 == n) xs 0)).f5 = 0 then withM xs (idxP26 (fun x => x.f0 == n) xs 0) (if g = true then 1 else 2) else ([], false)

theorem im_permitAt (xs : List S26) (hx : xs.length ≤ 4194304) (n : Int) : Evn (fun k => impl_permitAt.f k xs n) (idxP26 (fun x => x.f0 == n) xs 0, decide (0 ≤ idxP26 (fun x => x.f0 == n) xs 0) && goodPs xs) := by
  unfold impl_permitAt.f impl_xPermitId.f
  simp only [Option.bind_some]
  refine Evn.ite (fun c => Evn.bind (im_ArePermits xs hx) ((Evn.done _).eq_ ?_)) (fun c => (Evn.done _).eq_ ?_)
  · rw [decide_eq_true (by omega), Bool.true_and]
  · rw [decide_eq_false (by omega), Bool.false_and]
theorem im_withState (xs : List S26) (hx : xs.length ≤ 4194304) (i s : Int) (h0 : 0 ≤ i) (h1 : i < (xs.length : Int)) : Evn (fun k => impl_withState.f k xs i s) (withM xs i s) := by
  unfold impl_withState.f
  simp only [im_Clone xs hx, Option.bind_some, if_pos h0, if_pos h1]
  refine Evn.bind (im_ArePermits (setP xs i s) (by rw [setP_len]; exact hx)) ?_
  exact Evn.ite (fun c => (Evn.done _).eq_ (by unfold withM; rw [if_pos c]; rfl)) (fun c => (Evn.done _).eq_ (by unfold withM; rw [if_neg c]))

theorem im_DecidePermit (xs : List S26) (hx : xs.length ≤ 4194304) (n : Int) (g : Bool) : Evn (fun k => impl_DecidePermit.f k xs n g) (decM xs n g) := by
  unfold impl_DecidePermit.f decM
  refine Evn.bind (im_permitAt xs hx n) ?_
  have hr := idxQ_range (fun x => x.f0 == n) xs 0 (by omega)
  generalize idxP26 (fun x => x.f0 == n) xs 0 = i at hr
  have no : ∀ i, Evn (fun k => impl_DecidePermit.j0 k xs g i true) ([], false) := fun i => by
    refine Evn.step ?_
    simp only [impl_DecidePermit.j0, if_true]
    exact Evn.done _
  refine Evn.ite (fun c => ?_) (fun c => (no i).eq_ (by rw [if_neg (fun h => c (by rw [h.1, decide_eq_true h.2.1]; rfl))]))
  have c' := (Bool.and_eq_true _ _ ▸ c : decide (0 ≤ i) = true ∧ goodPs xs = true)
  have h0 : 0 ≤ i := of_decide_eq_true c'.1
  have h1 : i < (xs.length : Int) := by omega
  simp only [if_pos h0, if_pos h1]
  by_cases c3 : (rd_T26 xs i).f5 = 0
  · rw [if_pos ⟨c'.2, h0, c3⟩]
    have e : ((rd_T26 xs i).f5 != 0) = false := by rw [c3]; rfl
    rw [e]
    refine Evn.step ?_
    simp only [impl_DecidePermit.j0, Bool.false_eq_true, if_false]
    cases g with
    | true => simp only [if_true]; exact Evn.bind (im_withState xs hx i 1 h0 h1) (Evn.done _)
    | false => simp only [Bool.false_eq_true, if_false]; exact Evn.bind (im_withState xs hx i 2 h0 h1) (Evn.done _)
  · have e : ((rd_T26 xs i).f5 != 0) = true := by simpa using c3
    rw [e, if_neg (fun h => c3 h.2.2)]
    exact no i

theorem ev_rPermits_l0 (xs : List S26) : ∀ (D i : Nat), i + D = xs.length → xs.length ≤ 4194304 → Evn (fun k => laws_rPermits.l0 k xs xs (i : Int)) true := by
  intro D
  induction D with
  | zero =>
    intro i h hx
    refine Evn.step ?_
    have h1 : ¬ (i : Int) < (xs.length : Int) := by omega
    simp only [laws_rPermits.l0, if_neg h1]
    exact Evn.done _
  | succ D ih =>
    intro i h hx
    refine Evn.step ?_
    have h1 : (i : Int) < (xs.length : Int) := by omega
    have h2 : 0 ≤ (i : Int) := by omega
    simp only [laws_rPermits.l0, if_pos h1, if_pos h2, beq_self_eq_true, Bool.not_true, Bool.or_self, Bool.false_eq_true, if_false, wrap_succ (show i < 4611686018427387904 by omega)]
    exact ih (i + 1) (by omega) hx
theorem ev_rPermits (xs : List S26) (hx : xs.length ≤ 4194304) : Evn (fun k => laws_rPermits.f k xs xs) true := by
  unfold laws_rPermits.f
  simp only [if_true]
  exact ev_rPermits_l0 xs xs.length 0 (by omega) hx

theorem ev_rInts_l0 (xs ys : List Int) (e : xs = ys) : ∀ (D i : Nat), i + D = xs.length → xs.length ≤ 4611686018427387904 → Evn (fun k => laws_rInts.l0 k xs ys (i : Int)) true := by
  subst e
  intro D
  induction D with
  | zero =>
    intro i h hx
    refine Evn.step ?_
    have h1 : ¬ (i : Int) < (xs.length : Int) := by omega
    simp only [laws_rInts.l0, if_neg h1]
    exact Evn.done _
  | succ D ih =>
    intro i h hx
    refine Evn.step ?_
    have h1 : (i : Int) < (xs.length : Int) := by omega
    have h2 : 0 ≤ (i : Int) := by omega
    simp only [laws_rInts.l0, if_pos h1, if_pos h2, if_true, wrap_succ (show i < 4611686018427387904 by omega)]
    exact ih (i + 1) (by omega) hx
theorem ev_rInts (xs : List Int) (hx : xs.length ≤ 4611686018427387904) : Evn (fun k => laws_rInts.f k xs xs) true := by
  unfold laws_rInts.f
  simp only [if_true]
  exact ev_rInts_l0 xs xs rfl xs.length 0 (by omega) hx

/-! A permit that is given or used may be used. -/
def alike (x y : S26) : Prop := y.f0 = x.f0 ∧ y.f1 = x.f1 ∧ y.f2 = x.f2 ∧ y.f3 = x.f3 ∧ holdsP y.f5 = holdsP x.f5 ∧ (okP x = true → okP y = true)
theorem alike.refl (x : S26) : alike x x := ⟨rfl, rfl, rfl, rfl, rfl, id⟩
theorem alike.conf {a a' b b' : S26} (h : alike a a') (h' : alike b b') : confP a' b' = confP a b := by
  unfold confP
  rw [h.2.2.2.2.1, h'.2.2.2.2.1, h.2.1, h'.2.1, h.2.2.1, h'.2.2.1, h.2.2.2.1, h'.2.2.2.1]
theorem goodPs_alike (xs ys : List S26) (hl : ys.length = xs.length) (ha : ∀ j, j < xs.length → alike (xs.getD j z26) (ys.getD j z26)) (h : goodPs xs = true) : goodPs ys = true := by
  rw [goodPs_iff] at h ⊢
  obtain ⟨h1, h2⟩ := h
  rw [hl]
  refine ⟨h1, fun j hj => ?_⟩
  obtain ⟨g1, g2, g3⟩ := h2 j hj
  refine ⟨(ha j hj).2.2.2.2.2 g1, ?_, fun m hm => ?_⟩
  · rcases g2 with g2 | g2
    · exact Or.inl g2
    · right
      rw [(ha j hj).1, (ha (j - 1) (by omega)).1]
      exact g2
  · rw [(ha m (by omega)).conf (ha j hj)]
    exact g3 m hm
theorem alike_set (x : S26) (s : Int) (h : holdsP s = holdsP x.f5) (hs : 0 ≤ s ∧ s ≤ 4) : alike x (setSt x s) := by
  refine ⟨rfl, rfl, rfl, rfl, h, fun ho => ?_⟩
  unfold okP goodP at ho ⊢
  unfold setSt
  simp only [Bool.and_eq_true] at ho ⊢
  exact ⟨ho.1, ho.2.1, ho.2.2.1, ho.2.2.2.1, ho.2.2.2.2.1, decide_eq_true hs⟩
theorem goodPs_set (xs : List S26) (i s : Int) (h : goodPs xs = true) (h0 : 0 ≤ i) (h1 : i < (xs.length : Int)) (hh : holdsP s = holdsP (rd_T26 xs i).f5) (hs : 0 ≤ s ∧ s ≤ 4) : goodPs (setP xs i s) = true := by
  refine goodPs_alike xs _ (setP_len ..) (fun j hj => ?_) h
  unfold setP
  by_cases c : i.toNat = j
  · subst c
    rw [List.getD_eq_getElem?_getD (l := xs.set _ _), List.getElem?_set_self (by omega), Option.getD_some]
    exact alike_set _ s hh hs
  · rw [List.getD_eq_getElem?_getD (l := xs.set _ _), List.getElem?_set_ne c, ← List.getD_eq_getElem?_getD]
    exact alike.refl _
theorem goodPs_at (xs : List S26) (i : Int) (h : goodPs xs = true) (h0 : 0 ≤ i) (h1 : i < (xs.length : Int)) : okP (rd_T26 xs i) = true := (((goodPs_iff xs).1 h).2 i.toNat (by omega)).1
theorem okP_parts {x : S26} (h : okP x = true) : (0 ≤ x.f2 ∧ x.f2 ≤ 999) ∧ (x.f2 ≤ x.f3 ∧ x.f3 ≤ 999) ∧ 1 ≤ x.f4 ∧ x.f4 ≤ 12 := by
  unfold okP goodP at h
  simp only [Bool.and_eq_true, decide_eq_true_eq] at h
  exact ⟨h.2.2.1, h.2.2.2.1, h.2.2.2.2.1⟩

/-! Permits of a good list: where they stand, and that they do not conflict. -/
theorem drop_at' {α : Type} (l : List α) (i : Nat) (z : α) (h : i < l.length) : l.drop i = l.getD i z :: l.drop (i + 1) := by
  have e : l.getD i z = l[i] := by rw [List.getD_eq_getElem?_getD, List.getElem?_eq_getElem h]; rfl
  rw [e]
  exact List.drop_eq_getElem_cons h
theorem idxQ_at (p : S26 → Bool) (l : List S26) (q : Nat) (hq : q < l.length) (hp : p (l.getD q z26) = true) (hn : ∀ j, j < q → p (l.getD j z26) = false) : ∀ (d i : Nat), i + d = q → idxP26 p (l.drop i) (i : Int) = (q : Int) := by
  intro d
  induction d with
  | zero =>
    intro i h
    obtain rfl : i = q := by omega
    rw [drop_at' l i z26 hq, idxP26, if_pos hp]
  | succ d ih =>
    intro i h
    rw [drop_at' l i z26 (by omega), idxP26, if_neg (by rw [hn i (by omega)]; decide)]
    exact ih (i + 1) (by omega)
theorem idxQ_at0 (p : S26 → Bool) (l : List S26) (q : Nat) (hq : q < l.length) (hp : p (l.getD q z26) = true) (hn : ∀ j, j < q → p (l.getD j z26) = false) : idxP26 p l 0 = (q : Int) := idxQ_at p l q hq hp hn q 0 (by omega)
theorem idxQ_find (p : S26 → Bool) : ∀ (l : List S26) (i : Int), 0 ≤ i → 0 ≤ idxP26 p l i → ∃ q : Nat, idxP26 p l i = i + q ∧ q < l.length ∧ p (l.getD q z26) = true := by
  intro l
  induction l with
  | nil => intro i _ h; exact absurd h (by show ¬ (0 : Int) ≤ -1; decide)
  | cons x l ih =>
    intro i h0 h
    rw [idxP26] at h ⊢
    by_cases c : p x = true
    · rw [if_pos c]; exact ⟨0, by omega, by simp, by simpa using c⟩
    · rw [if_neg c] at h ⊢
      obtain ⟨q, e, hq, hp⟩ := ih (i + 1) (by omega) h
      exact ⟨q + 1, by omega, by simp; omega, by simpa using hp⟩
theorem idxQ_not (p : S26 → Bool) (l : List S26) (hn : ∀ j, j < l.length → p (l.getD j z26) = false) : idxP26 p l 0 = -1 := by
  rcases Int.lt_or_le (idxP26 p l 0) 0 with h | h
  · rcases idxQ_range p l 0 (by omega) with e | e
    · exact e
    · omega
  · obtain ⟨q, _, hq, hp⟩ := idxQ_find p l 0 (by omega) h
    rw [hn q hq] at hp
    cases hp
theorem ids_lt {xs : List S26} (h : goodPs xs = true) : ∀ (d i : Nat), i + d + 1 < xs.length → (xs.getD i z26).f0 < (xs.getD (i + d + 1) z26).f0 := by
  intro d
  induction d with
  | zero =>
    intro i hi
    have := (((goodPs_iff xs).1 h).2 (i + 1) (by omega)).2.1
    rcases this with e | e
    · omega
    · simpa using e
  | succ d ih =>
    intro i hi
    have h1 := ih i (by omega)
    have := (((goodPs_iff xs).1 h).2 (i + d + 1 + 1) (by omega)).2.1
    rcases this with e | e
    · omega
    · rw [Nat.add_sub_cancel] at e
      have : i + (d + 1) + 1 = i + d + 1 + 1 := by omega
      rw [this]
      omega
theorem ids_inj {xs : List S26} (h : goodPs xs = true) (i j : Nat) (hi : i < xs.length) (hj : j < xs.length) (e : (xs.getD i z26).f0 = (xs.getD j z26).f0) : i = j := by
  rcases Nat.lt_trichotomy i j with c | c | c
  · have := ids_lt h (j - i - 1) i (by omega)
    rw [show i + (j - i - 1) + 1 = j by omega] at this
    omega
  · exact c
  · have := ids_lt h (i - j - 1) j (by omega)
    rw [show j + (i - j - 1) + 1 = i by omega] at this
    omega
theorem no_conf {xs : List S26} (h : goodPs xs = true) (i j : Nat) (hi : i < xs.length) (hj : j < xs.length) (hne : i ≠ j) : confP (xs.getD i z26) (xs.getD j z26) = false := by
  rcases Nat.lt_or_ge i j with c | c
  · exact (((goodPs_iff xs).1 h).2 j hj).2.2 i c
  · rw [confP_comm]
    exact (((goodPs_iff xs).1 h).2 i hi).2.2 j (by omega)
theorem conf_of (a b : S26) (hb : holdsP b.f5 = true) (n : Int) (h1 : b.f2 ≤ n) (h2 : n ≤ b.f3) (ha : onDay b.f1 n a = true) : confP a b = true := by
  unfold onDay at ha
  rw [Bool.and_eq_true, Bool.and_eq_true] at ha
  obtain ⟨a1, a2, a3⟩ := ha
  have a3 := of_decide_eq_true a3
  unfold confP
  rw [Bool.and_eq_true, Bool.and_eq_true, Bool.and_eq_true, Bool.and_eq_true]
  exact ⟨⟨a1, hb⟩, a2, decide_eq_true (by omega), decide_eq_true (by omega)⟩
theorem getD_set (xs : List S26) (q : Nat) (y : S26) (hq : q < xs.length) (j : Nat) : (xs.set q y).getD j z26 = if j = q then y else xs.getD j z26 := by
  rw [List.getD_eq_getElem?_getD, List.getElem?_set, List.getD_eq_getElem?_getD]
  by_cases h : j = q
  · subst h
    rw [if_pos rfl, if_pos rfl, if_pos hq]
    rfl
  · rw [if_neg (fun e => h e.symm), if_neg h]
theorem setP_getD (xs : List S26) (q : Nat) (s : Int) (hq : q < xs.length) (j : Nat) : (setP xs (q : Int) s).getD j z26 = if j = q then setSt (xs.getD q z26) s else xs.getD j z26 := by
  unfold setP
  rw [Int.toNat_natCast, getD_set xs q _ hq j]
  unfold rd_T26
  rw [Int.toNat_natCast]

/-! Spans of free days, and a slot that is asked for. -/
def gapR (rs : List (Int × Int)) : Prop := ∀ j, j + 1 < rs.length → (rs.getD (j + 1) (0, 0)).2 + 1 < (rs.getD j (0, 0)).1
theorem stepR_gap (x : Int) (rs : List (Int × Int)) (h : gapR rs) (hx : ∀ p t, rs = p :: t → p.2 < x) : gapR (stepR x rs) := by
  cases rs with
  | nil => intro j hj; simp [stepR] at hj
  | cons p t =>
    have h0 := hx p t rfl
    rw [stepR]
    by_cases c : p.2 = x - 1
    · rw [if_pos c]
      intro j hj
      cases j with
      | zero => exact h 0 hj
      | succ j => exact h (j + 1) hj
    · rw [if_neg c]
      intro j hj
      cases j with
      | zero => show p.2 + 1 < x; omega
      | succ j => exact h j (by rw [List.length_cons] at hj; omega)
theorem stepR_head (x : Int) (rs : List (Int × Int)) : ∀ p t, stepR x rs = p :: t → p.2 < x + 1 := by
  intro p t h
  cases rs with
  | nil => rw [stepR] at h; injection h with h _; rw [← h]; show x < x + 1; omega
  | cons p0 t0 =>
    rw [stepR] at h
    split at h
    · injection h with h _; rw [← h]; show x < x + 1; omega
    · injection h with h _; rw [← h]; show x < x + 1; omega
theorem stepR_fr (fr : Int → Bool) (x : Int) (hx : fr x = true) (rs : List (Int × Int)) (h : ∀ p ∈ rs, fr p.1 = true ∧ fr p.2 = true) : ∀ p ∈ stepR x rs, fr p.1 = true ∧ fr p.2 = true := by
  cases rs with
  | nil => intro p hp; rw [List.mem_singleton.1 hp]; exact ⟨hx, hx⟩
  | cons p0 t =>
    intro p hp
    rw [stepR] at hp
    split at hp
    · rcases List.mem_cons.1 hp with rfl | hp
      · exact ⟨(h p0 (List.mem_cons_self ..)).1, hx⟩
      · exact h p (List.mem_cons_of_mem _ hp)
    · rcases List.mem_cons.1 hp with rfl | hp
      · exact ⟨hx, hx⟩
      · exact h p hp
theorem spR_all (fr : Int → Bool) : ∀ (d : Nat) (x : Int) (rs : List (Int × Int)), gapR rs → (∀ p t, rs = p :: t → p.2 < x) → (∀ p ∈ rs, fr p.1 = true ∧ fr p.2 = true) → gapR (spR fr d x rs) ∧ ∀ p ∈ spR fr d x rs, fr p.1 = true ∧ fr p.2 = true := by
  intro d
  induction d with
  | zero => intro x rs h _ h2; exact ⟨h, h2⟩
  | succ d ih =>
    intro x rs h h1 h2
    rw [spR]
    by_cases c : fr x = true
    · rw [if_pos c]
      exact ih (x + 1) _ (stepR_gap x rs h h1) (stepR_head x rs) (stepR_fr fr x c rs h2)
    · rw [if_neg c]
      exact ih (x + 1) rs h (fun p t e => by have := h1 p t e; omega) h2
theorem outR_at (rs : List (Int × Int)) (i : Nat) (h : i < rs.length) : rd_L5 (outR rs) (i : Int) = toL (rs.getD (rs.length - 1 - i) (0, 0)) := by
  unfold rd_L5 outR
  rw [Int.toNat_natCast, List.getD_eq_getElem?_getD, List.getElem?_reverse (by rw [List.length_map]; exact h), List.length_map, List.getElem?_map, List.getD_eq_getElem?_getD, List.getElem?_eq_getElem (by omega)]
  rfl
theorem idxQ_neg (p : S26 → Bool) : ∀ (l : List S26) (i : Int), 0 ≤ i → idxP26 p l i < 0 → ∀ x ∈ l, p x = false := by
  intro l
  induction l with
  | nil => intro i _ _ x hx; exact absurd hx (by simp)
  | cons y l ih =>
    intro i h0 h x hx
    rw [idxP26] at h
    by_cases c : p y = true
    · rw [if_pos c] at h; omega
    · rw [if_neg c] at h
      rcases List.mem_cons.1 hx with rfl | hx
      · exact Bool.eq_false_iff.mpr c
      · exact ih (i + 1) (by omega) h x hx
theorem free_allowed {xs : List S26} {q : ByteArray} {n : Int} (h : freeD xs q n = true) : allowedM xs q n = (0, false) := by
  have h := of_decide_eq_true h
  unfold allowedM
  split
  · split
    · first | rfl | rw [if_pos h]
    · rfl
  · rfl
theorem slot_free (fr : Int → Bool) (days s : Int) (hd : 1 ≤ days) : ∀ (n : Nat) (x r : Int), 0 ≤ r → (∀ y, x - r ≤ y → y < x → fr y = true) → slotR fr days n x r = (s, true) → (∀ y, s ≤ y → y < s + days → fr y = true) ∧ x - r ≤ s ∧ s + days ≤ x + n := by
  intro n
  induction n with
  | zero => intro x r _ _ h; rw [slotR] at h; cases h
  | succ n ih =>
    intro x r hr h h'
    rw [slotR] at h'
    by_cases c : fr x = true
    · rw [if_pos c] at h'
      have hx : ∀ y, x - r ≤ y → y < x + 1 → fr y = true := by
        intro y h1 h2
        by_cases e : y = x
        · rw [e]; exact c
        · exact h y h1 (by omega)
      by_cases c2 : r + 1 = days
      · rw [if_pos c2] at h'
        injection h' with h' _
        refine ⟨fun y h1 h2 => hx y (by omega) (by omega), by omega, by omega⟩
      · rw [if_neg c2] at h'
        have := ih (x + 1) (r + 1) (by omega) (fun y h1 h2 => hx y (by omega) h2) h'
        exact ⟨this.1, by omega, by omega⟩
    · rw [if_neg c, if_neg (by omega)] at h'
      have := ih (x + 1) 0 (by omega) (fun y h1 h2 => by omega) h'
      exact ⟨this.1, by omega, by omega⟩
theorem okP_set {x : S26} (ho : okP x = true) (s : Int) (hs : 0 ≤ s ∧ s ≤ 4) : okP (setSt x s) = true := by
  unfold okP goodP at ho ⊢
  unfold setSt
  simp only [Bool.and_eq_true] at ho ⊢
  exact ⟨ho.1, ho.2.1, ho.2.2.1, ho.2.2.2.1, ho.2.2.2.2.1, decide_eq_true hs⟩
theorem askP_at (xs : List S26) (y : S26) : (xs ++ [y]).getD xs.length z26 = y := by
  rw [List.getD_eq_getElem?_getD, List.getElem?_append_right (Nat.le_refl _), Nat.sub_self]
  rfl
theorem askP_lo (xs : List S26) (y : S26) (j : Nat) (h : j < xs.length) : (xs ++ [y]).getD j z26 = xs.getD j z26 := by
  rw [List.getD_eq_getElem?_getD, List.getElem?_append_left h, ← List.getD_eq_getElem?_getD]
theorem asked_good {xs : List S26} {y : S26} (g : goodPs (xs ++ [y]) = true) (h : ∀ n, y.f2 ≤ n → n ≤ y.f3 → freeD xs y.f1 n = true) (hle : y.f2 ≤ y.f3) : goodPs (setP (xs ++ [y]) (xs.length : Int) 1) = true := by
  have hq : xs.length < (xs ++ [y]).length := by rw [List.length_append, List.length_singleton]; omega
  have hs := setP_getD (xs ++ [y]) xs.length 1 hq
  have hl : (xs ++ [y]).length = xs.length + 1 := by rw [List.length_append, List.length_singleton]
  have g0 := (goodPs_iff _).1 g
  rw [goodPs_iff, setP_len]
  refine ⟨g0.1, fun j hj => ?_⟩
  obtain ⟨a1, a2, a3⟩ := g0.2 j hj
  have hf : ∀ i, ((setP (xs ++ [y]) (xs.length : Int) 1).getD i z26).f0 = ((xs ++ [y]).getD i z26).f0 := by
    intro i
    rw [hs i]
    split
    · rename_i e; rw [e]; rfl
    · rfl
  refine ⟨?_, ?_, fun m hm => ?_⟩
  · rw [hs j]
    split
    · rename_i e; subst e; exact okP_set a1 1 (by decide)
    · exact a1
  · rw [hf, hf]; exact a2
  · rw [hs m, if_neg (by omega), hs j]
    split
    · rename_i e
      subst e
      rw [askP_at, askP_lo xs y m hm]
      cases c : confP (xs.getD m z26) (setSt y 1) with
      | false => rfl
      | true =>
        unfold confP setSt at c
        simp only [Bool.and_eq_true] at c
        obtain ⟨⟨c1, _⟩, c2, c3, c4⟩ := c
        have c2 := of_decide_eq_true c2
        have c3 := of_decide_eq_true c3
        have c4 := of_decide_eq_true c4
        have hmem : xs.getD m z26 ∈ xs := by rw [List.getD_eq_getElem?_getD, List.getElem?_eq_getElem hm, Option.getD_some]; exact List.getElem_mem _
        have mem_ok := okP_parts (g0.2 m (by omega)).1
        rw [askP_lo xs y m hm] at mem_ok
        have key : ∀ n, y.f2 ≤ n → n ≤ y.f3 → ¬ ((xs.getD m z26).f2 ≤ n ∧ n ≤ (xs.getD m z26).f3) := by
          intro n h1 h2 h3
          have h4 := idxQ_neg _ xs 0 (by omega) (of_decide_eq_true (h n h1 h2)) _ hmem
          unfold onDay at h4
          rw [decide_eq_true c2, decide_eq_true h3] at h4
          unfold holdsP at c1
          rw [c1] at h4
          cases h4
        rcases Int.lt_or_le y.f2 (xs.getD m z26).f2 with e | e
        · exact absurd ⟨Int.le_refl _, mem_ok.2.1.1⟩ (key (xs.getD m z26).f2 (by omega) c3)
        · exact absurd ⟨e, c4⟩ (key y.f2 (Int.le_refl _) hle)
    · exact a3 m hm
theorem asked {xs : List S26} {q : ByteArray} {a days d : Int} (h : slotM xs q a days = (d, true)) : 0 ≤ d ∧ d + days ≤ 1000 ∧ 1 ≤ days ∧ ((askM xs q d (d + days - 1) 1).2.2 = true → ∃ O, decM (askM xs q d (d + days - 1) 1).1 (askM xs q d (d + days - 1) 1).2.1 true = (O, true) ∧ goodPs O = true ∧ O.length ≤ 10) := by
  unfold slotM at h
  by_cases c : goodPs xs = true ∧ wordB q = true ∧ (0 ≤ a ∧ a ≤ 999) ∧ (1 ≤ days ∧ days ≤ 100)
  · rw [if_pos c] at h
    obtain ⟨s1, s2, s3⟩ := slot_free (freeD xs q) days d c.2.2.2.1 _ a 0 (by omega) (fun y h1 h2 => by omega) h
    refine ⟨by omega, by omega, by omega, fun h2 => ?_⟩
    unfold askM at h2 ⊢
    rw [if_pos c.1] at h2 ⊢
    by_cases g : goodPs (askP xs q d (d + days - 1) 1) = true
    · rw [if_pos g]
      dsimp only
      have hq : xs.length < (askP xs q d (d + days - 1) 1).length := by unfold askP; rw [List.length_append, List.length_singleton]; omega
      have hy : (askP xs q d (d + days - 1) 1).getD xs.length z26 = ⟨askId xs, q, d, d + days - 1, 1, 0⟩ := by unfold askP; exact askP_at xs _
      have hi : idxP26 (fun x => x.f0 == askId xs) (askP xs q d (d + days - 1) 1) 0 = (xs.length : Int) := by
        refine idxQ_at0 _ _ xs.length hq (by rw [hy]; exact beq_self_eq_true _) fun j hj => ?_
        rw [beq_eq_false_iff_ne]
        intro e
        have := ids_inj g j xs.length (by omega) hq (by rw [hy]; exact e)
        omega
      have g2 : goodPs (setP (askP xs q d (d + days - 1) 1) (xs.length : Int) 1) = true := by
        unfold askP at g ⊢
        exact asked_good g (fun n h1 h3 => s1 n h1 (by have : n ≤ d + days - 1 := h3; omega)) (by show d ≤ d + days - 1; omega)
      refine ⟨setP (askP xs q d (d + days - 1) 1) (xs.length : Int) 1, ?_, g2, goodPs_len g2⟩
      unfold decM
      rw [hi]
      have h5 : (rd_T26 (askP xs q d (d + days - 1) 1) (xs.length : Int)).f5 = 0 := by unfold rd_T26; rw [Int.toNat_natCast, hy]
      rw [if_pos ⟨g, by omega, h5⟩, if_pos rfl]
      unfold withM
      rw [if_pos g2]
    · rw [if_neg g] at h2; cases h2
  · rw [if_neg c] at h; cases h
theorem ask_last {xs : List S26} {q : ByteArray} {a b c : Int} (hx : xs.length ≤ 4194304) (h : (askM xs q a b c).2.2 = true) : ((askM xs q a b c).1.length : Int) = (xs.length : Int) + 1 ∧ (rd_T26 (askM xs q a b c).1 (xs.length : Int)).f0 = (askM xs q a b c).2.1 := by
  unfold askM at h ⊢
  by_cases g : goodPs xs = true
  · rw [if_pos g] at h ⊢
    by_cases g2 : goodPs (askP xs q a b c) = true
    · rw [if_pos g2]
      unfold askP
      refine ⟨by rw [List.length_append, List.length_singleton]; rfl, ?_⟩
      unfold rd_T26
      rw [Int.toNat_natCast, askP_at]
    · rw [if_neg g2] at h; cases h
  · rw [if_neg g] at h; cases h

theorem ev_rTable_l0 (rs : List (Int × Int)) (hx : rs.length ≤ 1048576) : ∀ (D i : Nat), i + D = rs.length → Evn (fun k => laws_rTable.l0 k (outR rs) (outR rs) (i : Int)) true := by
  intro D
  induction D with
  | zero =>
    intro i h
    refine Evn.step ?_
    have h1 : ¬ (i : Int) < ((outR rs).length : Int) := by rw [outR_len]; omega
    simp only [laws_rTable.l0, if_neg h1]
    exact Evn.done _
  | succ D ih =>
    intro i h
    refine Evn.step ?_
    have h1 : (i : Int) < ((outR rs).length : Int) := by rw [outR_len]; omega
    have h2 : 0 ≤ (i : Int) := by omega
    simp only [laws_rTable.l0, if_pos h1, if_pos h2, wrap_succ (show i < 4611686018427387904 by omega)]
    rw [outR_at rs i (by omega)]
    refine Evn.bind (ev_rInts _ (show (2 : Nat) ≤ _ by omega)) ?_
    simp only [if_true]
    exact ih (i + 1) (by omega)
theorem ev_rTable (rs : List (Int × Int)) (hx : rs.length ≤ 1048576) : Evn (fun k => laws_rTable.f k (outR rs) (outR rs)) true := by
  unfold laws_rTable.f
  simp only [if_true]
  exact ev_rTable_l0 rs hx rs.length 0 (by omega)

theorem byts_of {l : List Int} (h : ∀ x ∈ l, (Lit.int .u8 x).wf = true) : Byts l := by
  intro x hx
  have h1 := h x hx
  simp [Lit.wf, IntKind.min, IntKind.max, IntKind.signed, IntKind.bits] at h1
  omega

theorem FnPermitDays : ∀ l0, l0.length ≤ maxLen → (∀ x ∈ l0, (Lit.int .u8 x).wf = true) → ∃ k, laws_FnPermitDays.f k l0 = some true := by
  intro l hl hb
  apply Evn.get
  have hB : Byts l := byts_of hb
  have j3 : Evn (fun k => laws_FnPermitDays.j3 k l) true := by
    refine Evn.step ?_
    simp only [laws_FnPermitDays.j3]
    obtain ⟨t, ht, t1, t2, t3⟩ := dw_DrawAskPermit hB
    obtain ⟨L, q, a, b, m⟩ := t
    dsimp only at t1 t2 t3
    refine Evn.bind ht (Evn.bind (im_AskPermit L (by omega) q a b m) (Evn.bind (sp_AskPermit L (by omega) (okW_big t2) q (Nat.le_trans t3 (by decide)) a b m) ?_))
    simp only [bne_self_eq_false, Bool.false_eq_true, if_false, if_true]
    refine Evn.bind (ev_rPermits _ (by have := askM_len L q a b m; omega)) ?_
    simp only [Bool.not_true]
    refine Evn.step ?_
    simp only [laws_FnPermitDays.j4, Bool.false_eq_true, if_false]
    obtain ⟨p, hp, p1⟩ := dw_DrawIsPermit hB
    simp only [hp, Option.bind_some, im_IsPermit]
    refine Evn.bind (sp_IsPermit _ _ _ _ _ _ (Nat.le_trans p1 (by decide))) ?_
    simp only [beq_self_eq_true, if_true]
    refine Evn.ite (fun ok => ?_) (fun _ => Evn.done _)
    obtain ⟨k1, k2⟩ := ask_last (by omega) ok
    have hw : wrap64 (((askM L q a b m).1.length : Int) - 1) = (L.length : Int) := by rw [k1, wrap_id (by omega) (by omega)]; omega
    have hw2 : wrap64 ((L.length : Int) + 1) = (L.length : Int) + 1 := wrap_id (by omega) (by omega)
    simp only [hw, hw2]
    simp only [k1, k2, if_pos (show (0 : Int) ≤ (L.length : Int) by omega), if_pos (show (L.length : Int) < (L.length : Int) + 1 by omega), if_true, beq_self_eq_true]
    exact Evn.done _
  have fin : Evn (fun k => (spec_DrawFirstSlot.f k l).bind fun bt539 => ((impl_FirstSlot.f k bt539.1 bt539.2.1 bt539.2.2.1 bt539.2.2.2).bind fun bt545 => ((spec_FirstSlot.f k bt539.1 bt539.2.1 bt539.2.2.1 bt539.2.2.2).bind fun bt547 => (if bt545.1 = bt547.1 then (laws_FnPermitDays.j2 k l bt539.1 bt539.2.1 bt539.2.2.2 bt545.1 bt545.2 (bt545.2 != bt547.2)) else (laws_FnPermitDays.j2 k l bt539.1 bt539.2.1 bt539.2.2.2 bt545.1 bt545.2 true))))) true := by
    obtain ⟨t, ht, t1, t2, t3⟩ := dw_DrawFirstSlot hB
    obtain ⟨L, q, a, n⟩ := t
    dsimp only at t1 t2 t3
    refine Evn.bind ht (Evn.bind (im_FirstSlot L (by omega) q a n) (Evn.bind (sp_FirstSlot L (by omega) (okW_big t2) q (Nat.le_trans t3 (by decide)) a n) ?_))
    simp only [bne_self_eq_false, if_true]
    refine Evn.step ?_
    simp only [laws_FnPermitDays.j2, Bool.false_eq_true, if_false]
    cases hs : slotM L q a n with
    | mk d ok =>
      cases ok with
      | false =>
        simp only [Bool.false_eq_true, if_false]
        exact j3
      | true =>
        obtain ⟨d0, d1, n1, hask⟩ := asked hs
        have hw : wrap64 (wrap64 (d + n) - 1) = d + n - 1 := by rw [wrap_id (x := d + n) (by omega) (by omega), wrap_id (by omega) (by omega)]
        simp only [if_true, hw]
        refine Evn.bind (im_AskPermit L (by omega) q d (d + n - 1) 1) ?_
        refine Evn.ite (fun ok => ?_) (fun _ => j3)
        obtain ⟨O, h1, h2, h3⟩ := hask ok
        have hd := im_DecidePermit (askM L q d (d + n - 1) 1).1 (by have := askM_len L q d (d + n - 1) 1; omega) (askM L q d (d + n - 1) 1).2.1 true
        rw [h1] at hd
        refine Evn.bind hd ?_
        simp only [if_true]
        refine Evn.bind (im_ArePermits O (by omega)) ?_
        simp only [h2, if_true]
        exact j3
  have loop : ∀ (L : List S26) (q : ByteArray) (rs : List (Int × Int)), L.length ≤ 20 → rs.length ≤ 1048576 → gapR rs → (∀ p ∈ rs, freeD L q p.1 = true ∧ freeD L q p.2 = true) → (∀ p ∈ rs, bdP p) → ∀ (D i : Nat), i + D = rs.length → Evn (fun k => laws_FnPermitDays.l0 k l L q (outR rs) (i : Int)) true := by
    intro L q rs hL hr hg hf hbd D
    have mem : ∀ j, j < rs.length → rs.getD j (0, 0) ∈ rs := by
      intro j hj
      rw [List.getD_eq_getElem?_getD, List.getElem?_eq_getElem hj, Option.getD_some]
      exact List.getElem_mem _
    induction D with
    | zero =>
      intro i h
      refine Evn.step ?_
      have h1 : ¬ (i : Int) < ((outR rs).length : Int) := by rw [outR_len]; omega
      simp only [laws_FnPermitDays.l0, if_neg h1]
      exact fin
    | succ D ih =>
      intro i h
      refine Evn.step ?_
      have h1 : (i : Int) < ((outR rs).length : Int) := by rw [outR_len]; omega
      have h2 : 0 ≤ (i : Int) := by omega
      have hm := mem (rs.length - 1 - i) (by omega)
      have hv := outR_at rs i (by omega)
      have hgap : ∀ i', i = i' + 1 → (rs.getD (rs.length - 1 - i') (0, 0)).2 + 1 < (rs.getD (rs.length - 1 - i) (0, 0)).1 := by
        intro i' e
        have := hg (rs.length - 1 - i) (by omega)
        rw [show rs.length - 1 - i + 1 = rs.length - 1 - i' by omega] at this
        exact this
      generalize rs.getD (rs.length - 1 - i) (0, 0) = p at hm hv hgap
      have hf1 := free_allowed (hf p hm).1
      have hf2 := free_allowed (hf p hm).2
      have ha1 := im_AllowedOn L (by omega) q p.1
      have ha2 := im_AllowedOn L (by omega) q p.2
      rw [hf1] at ha1
      rw [hf2] at ha2
      have hl1 : 1 < ((toL p).length : Int) := by show (1 : Int) < 2; omega
      have hl0 : 0 < ((toL p).length : Int) := by show (0 : Int) < 2; omega
      have hr1 : rd (toL p) 1 = p.2 := rfl
      have hr0 : rd (toL p) 0 = p.1 := rfl
      have hle : ¬ p.1 > p.2 := by have := (hbd p hm).2.1; omega
      have next := ih (i + 1) (by omega)
      have hw : wrap64 ((i : Int) + 1) = ((i + 1 : Nat) : Int) := wrap_succ (by omega)
      simp only [laws_FnPermitDays.l0, if_pos h1, if_pos h2, hv, if_pos hl0, hr0, hw]
      clear hw
      refine Evn.bind ha1 ?_
      simp only [if_pos hl1, hr1]
      refine Evn.bind ha2 ?_
      simp only [Bool.false_eq_true, if_false, if_neg hle]
      cases i with
      | zero =>
        simp only [if_neg (show ¬ ((0 : Nat) : Int) > 0 by decide)]
        exact next
      | succ i' =>
        have hv' := outR_at rs i' (by omega)
        have hm' := mem (rs.length - 1 - i') (by omega)
        have hgap := hgap i' rfl
        generalize rs.getD (rs.length - 1 - i') (0, 0) = p' at hv' hm' hgap
        have hb' := hbd p' hm'
        have hl1' : 1 < ((toL p').length : Int) := by show (1 : Int) < 2; omega
        have hr1' : rd (toL p') 1 = p'.2 := rfl
        have h5 : ¬ p.1 ≤ p'.2 + 1 := by omega
        have h6 : (i' : Int) < ((outR rs).length : Int) := by rw [outR_len]; omega
        have h7 : (((i' + 1 : Nat)) : Int) > 0 := by omega
        have h8 : (0 : Int) ≤ (i' : Int) := by omega
        have h9 : i' < 4611686018427387904 := by omega
        have hw2 : wrap64 (p'.2 + 1) = p'.2 + 1 := wrap_id (by have := hb'.1; have := hb'.2.1; omega) (by have := hb'.2.2; omega)
        have hw1 : wrap64 (((i' + 1 : Nat) : Int) - 1) = (i' : Int) := wrap_pred h9
        simp only [if_pos h7, hw1, if_pos h8, if_pos h6, hv', if_pos hl1', hr1', hw2, if_neg h5]
        exact next
  unfold laws_FnPermitDays.f laws_rBig.f
  simp only [Option.bind_some]
  refine Evn.ite (fun _ => Evn.done _) (fun _ => ?_)
  obtain ⟨t, ht, t1, t2, t3⟩ := dw_DrawFreeDays hB
  refine Evn.bind ht ?_
  obtain ⟨L, q, a, b⟩ := t
  dsimp only at t1 t2 t3 ⊢
  refine Evn.bind (im_FreeDays L (by omega) q a b) (Evn.bind (sp_FreeDays L (by omega) (okW_big t2) q (Nat.le_trans t3 (by decide)) a b) ?_)
  simp only [bne_self_eq_false, Bool.false_eq_true, if_false]
  obtain ⟨rs, e, r1, r2, r3, r4⟩ : ∃ rs, (freeM L q a b).1 = outR rs ∧ rs.length ≤ 1048576 ∧ gapR rs ∧ (∀ p ∈ rs, freeD L q p.1 = true ∧ freeD L q p.2 = true) ∧ (∀ p ∈ rs, bdP p) := by
    unfold freeM
    split
    · rename_i c
      have g := spR_all (freeD L q) (b + 1 - a).toNat a [] (fun j hj => by simp at hj) (fun p t h => by cases h) (fun p hp => by cases hp)
      have g2 := spR_len (freeD L q) (b + 1 - a).toNat a []
      have g3 := spR_bd (freeD L q) (b + 1 - a).toNat a [] c.2.2.1.1 (by omega) (fun p hp => by cases hp)
      exact ⟨_, rfl, by rw [List.length_nil] at g2; omega, g.1, g.2, g3⟩
    · exact ⟨[], rfl, by simp, fun j hj => by simp at hj, fun p hp => (by cases hp), fun p hp => (by cases hp)⟩
  rw [e]
  refine Evn.bind (ev_rTable rs r1) ?_
  simp only [Bool.not_true]
  refine Evn.step ?_
  simp only [laws_FnPermitDays.j0, Bool.false_eq_true, if_false]
  exact loop L q rs t1 r1 r2 r3 r4 rs.length 0 (by omega)

end Go.Proofs.YtgeioccfjgpijaaDoor.Pure
