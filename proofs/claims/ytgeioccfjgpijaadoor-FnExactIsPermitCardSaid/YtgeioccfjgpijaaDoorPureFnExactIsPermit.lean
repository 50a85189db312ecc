/- The plain statement of FnExactIsPermit: its plain function returns true at every input. No condition beyond the arguments' own bounds. -/
import Derived.Test.YtgeioccfjgpijaaDoorQFnExactIsPermitx1
import Derived.Test.YtgeioccfjgpijaaDoorAid
namespace Go.Proofs.YtgeioccfjgpijaaDoor.Pure
open Go.RowKit Go.Proofs.YtgeioccfjgpijaaDoorW.PrintWords Go.Proofs.YtgeioccfjgpijaaDoorW.PrintLast Go.Proofs.YtgeioccfjgpijaaDoor.Aid Go.Proofs.YtgeioccfjgpijaaDoor.QFnExactIsPermit
set_option linter.unusedVariables false
set_option linter.unusedSimpArgs false

theorem sp_l1In (x y z : Int) : spec_l1In.f x y z = some (decide (y ≤ x ∧ x ≤ z)) := by
  unfold spec_l1In.f
  by_cases h : x ≥ y <;> simp [h] <;> omega

/-! A permit's rules. -/
def wordB (s : ByteArray) : Bool := decide (1 ≤ s.size) && (decide (s.size ≤ 10) && s.data.toList.all (fun b => decide (97 ≤ b.toNat ∧ b.toNat ≤ 122)))
def goodP (a : Int) (b : ByteArray) (c d e f : Int) : Bool := decide (1 ≤ a ∧ a ≤ 99) && (wordB b && (decide (0 ≤ c ∧ c ≤ 999) && (decide (c ≤ d ∧ d ≤ 999) && (decide (1 ≤ e ∧ e ≤ 12) && decide (0 ≤ f ∧ f ≤ 4)))))
theorem ite_if (b c : Bool) : (if b = true then some c else some false) = some (b && c) := by cases b <;> rfl

theorem bt_at (s : ByteArray) (i : Nat) (h : i < s.data.toList.length) : bt s (i : Int) = ((s.data.toList[i]).toNat : Int) := by
  have h2 : i < s.size := by simpa using h
  unfold bt
  rw [Int.toNat_natCast, dif_pos h2]
  rfl
theorem sp_l2Word_l0 (s : ByteArray) (hs : s.size ≤ 4194304) : ∀ (d i : Nat), i + d = s.size → Evn (fun k => spec_l2Word.l0 k s (i : Int)) ((s.data.toList.drop i).all (fun b => decide (97 ≤ b.toNat ∧ b.toNat ≤ 122)) && decide (1 ≤ (s.size : Int) ∧ (s.size : Int) ≤ 10)) := by
  have hl : s.data.toList.length = s.size := by simp
  intro d
  induction d with
  | zero =>
    intro i h
    refine Evn.step ?_
    have h1 : ¬ (i : Int) < (s.size : Int) := by omega
    simp only [spec_l2Word.l0, if_neg h1, sp_l1In, Option.bind_some]
    rw [List.drop_eq_nil_of_le (by omega)]
    exact Evn.done _
  | succ d ih =>
    intro i h
    refine Evn.step ?_
    have h1 : (i : Int) < (s.size : Int) := by omega
    have h2 : 0 ≤ (i : Int) := by omega
    have hb := bt_at s i (by omega)
    simp only [spec_l2Word.l0, if_pos h1, if_pos h2, hb, wrap_succ (show i < 4611686018427387904 by omega)]
    rw [List.drop_eq_getElem_cons (by omega), List.all_cons]
    generalize s.data.toList[i] = x
    refine Evn.ite (fun h3 => ?_) (fun h3 => Evn.ite (fun h4 => ?_) (fun h4 => ?_))
    · rw [show decide (97 ≤ x.toNat ∧ x.toNat ≤ 122) = false from decide_eq_false (by omega)]
      exact Evn.done _
    · rw [show decide (97 ≤ x.toNat ∧ x.toNat ≤ 122) = false from decide_eq_false (by omega)]
      exact Evn.done _
    · rw [show decide (97 ≤ x.toNat ∧ x.toNat ≤ 122) = true from decide_eq_true (by omega), Bool.true_and]
      exact ih (i + 1) (by omega)
theorem sp_l2Word (s : ByteArray) (hs : s.size ≤ 4194304) : Evn (fun k => spec_l2Word.f k s) (wordB s) := by
  refine (sp_l2Word_l0 s hs s.size 0 (by omega)).eq_ ?_
  unfold wordB
  rw [List.drop_zero]
  generalize s.data.toList.all _ = t
  by_cases h1 : 1 ≤ s.size <;> by_cases h2 : s.size ≤ 10 <;> cases t <;> simp [h1, h2] <;> omega

theorem sp_l22Day (a : Int) : spec_l22Day.f a = some (decide (0 ≤ a ∧ a ≤ 999)) := by simp only [spec_l22Day.f, sp_l1In, Option.bind_some]
theorem sp_l22One (a : Int) (b : ByteArray) (c d e f : Int) (hb : b.size ≤ 4194304) : Evn (fun k => spec_l22One.f k a b c d e f) (goodP a b c d e f) := by
  unfold spec_l22One.f goodP
  simp only [sp_l22Day, sp_l1In, Option.bind_some, ite_if]
  by_cases h : 1 ≤ a ∧ a ≤ 99
  · simp only [decide_eq_true h, if_true, Bool.true_and]
    refine Evn.bind (sp_l2Word b hb) ?_
    exact Evn.done _
  · simp only [decide_eq_false h, Bool.false_and, Bool.false_eq_true, if_false]
    exact Evn.done _

-- laws_toPermit: as it stands

theorem im_within (x y z : Int) : impl_within.f x y z = some (decide (y ≤ x ∧ x ≤ z)) := by
  unfold impl_within.f
  by_cases h : x ≥ y <;> simp [h] <;> omega

theorem im_isWord (b : ByteArray) : impl_isWord.f b = some (wordB b) := rfl
theorem im_isId (a : Int) : impl_isId.f a = some (decide (1 ≤ a ∧ a ≤ 99)) := by simp only [impl_isId.f, im_within, Option.bind_some]
theorem im_isDay (a : Int) : impl_isDay.f a = some (decide (0 ≤ a ∧ a ≤ 999)) := by simp only [impl_isDay.f, im_within, Option.bind_some]
theorem im_IsPermit (a : Int) (b : ByteArray) (c d e f : Int) : impl_IsPermit.f a b c d e f = some (goodP a b c d e f) := by
  unfold impl_IsPermit.f goodP
  simp only [im_isId, im_isDay, im_isWord, im_within, Option.bind_some, ite_if]

theorem FnExactIsPermit : ∀ (a0_0 : Int) (a0_1 : ByteArray) (a0_2 : Int) (a0_3 : Int) (a0_4 : Int) (a0_5 : Int), (Lit.int .i64 a0_0).wf = true → a0_1.size ≤ maxLen → (Lit.int .i64 a0_2).wf = true → (Lit.int .i64 a0_3).wf = true → (Lit.int .i64 a0_4).wf = true → (Lit.int .i64 a0_5).wf = true → ∃ k, laws_FnExactIsPermit.f k a0_0 a0_1 a0_2 a0_3 a0_4 a0_5 = some true := by
  intro a b c d e f _ hb _ _ _ _
  apply Evn.get
  simp only [laws_FnExactIsPermit.f, laws_szPermit.f, laws_toPermit.f, Option.bind_some]
  by_cases h : wrap64 (1048576 - (b.size : Int)) < 0
  · simp only [if_pos h, Option.bind_some]
    exact Evn.done _
  · have hz : b.size ≤ 4194304 := by
      unfold maxLen at hb
      rw [wrap_id (by omega) (by omega)] at h
      omega
    simp only [if_neg h, Option.bind_some, spec_IsPermit.f]
    refine Evn.bind (Evn.bind (sp_l22One a b c d e f hz) (Evn.done _)) ?_
    simp only [im_IsPermit, Option.bind_some, bne_self_eq_false, Bool.false_eq_true, if_false]
    exact Evn.done _

end Go.Proofs.YtgeioccfjgpijaaDoor.Pure
