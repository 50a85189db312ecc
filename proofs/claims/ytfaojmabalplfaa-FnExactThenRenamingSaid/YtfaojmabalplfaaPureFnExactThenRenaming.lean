/- The plain statement of FnExactThenRenaming: its plain function returns true at every input. No condition beyond the arguments' own bounds. -/
import Derived.Test.YtfaojmabalplfaaQFnExactThenRenamingx3
import Derived.Test.YtfaojmabalplfaaAid
namespace Go.Proofs.Ytfaojmabalplfaa.Pure
open Go.RowKit Go.Proofs.YtfaojmabalplfaaW.PrintWords Go.Proofs.YtfaojmabalplfaaW.PrintLast Go.Proofs.Ytfaojmabalplfaa.Aid Go.Proofs.Ytfaojmabalplfaa.QFnExactThenRenaming
set_option linter.unusedVariables false
set_option linter.unusedSimpArgs false

theorem ev_toIntS_l0 (xs : List Int) (hx : xs.length ≤ 1048576) : ∀ (d i : Nat) (ys : List Int), i + d = xs.length → ys.length = xs.length → Evn (fun k => laws_toIntS.l0 k xs ys (i : Int)) (ys.take i ++ xs.drop i) := by
  intro d
  induction d with
  | zero =>
    intro i ys h hy
    refine Evn.step ?_
    have h1 : ¬ (i : Int) < (xs.length : Int) := by omega
    simp only [laws_toIntS.l0, if_neg h1]
    have e : ys.take i ++ xs.drop i = ys := by rw [List.take_of_length_le (by omega), List.drop_eq_nil_of_le (by omega)]; simp
    rw [e]
    exact Evn.done _
  | succ d ih =>
    intro i ys h hy
    refine Evn.step ?_
    have h1 : (i : Int) < (xs.length : Int) := by omega
    have h2 : 0 ≤ (i : Int) := by omega
    have h3 : (i : Int) < (ys.length : Int) := by omega
    simp only [laws_toIntS.l0, if_pos h1, if_pos h2, if_pos h3, Int.toNat_natCast, wrap_succ (show i < 4611686018427387904 by omega)]
    refine (ih (i + 1) _ (by omega) (by simpa using hy)).eq_ ?_
    rw [set_take _ _ _ (by omega), getD_drop xs i 0 (by omega)]
    simp [rd]
theorem ev_toIntS (xs : List Int) (hx : xs.length ≤ 1048576) : Evn (fun k => laws_toIntS.f k xs) xs := by
  unfold laws_toIntS.f
  refine Evn.ite (fun _ => Evn.ite (fun _ => ?_) (fun h => (h (by omega)).elim)) (fun h => (h (by omega)).elim)
  have h := ev_toIntS_l0 xs hx xs.length 0 (List.replicate (xs.length : Int).toNat 0) (by omega) (by simp)
  simpa using h

theorem ev_eqIntS_l0 (xs : List Int) (hx : xs.length ≤ 4194304) : ∀ (d i : Nat), i + d = xs.length → Evn (fun k => laws_eqIntS.l0 k xs xs (i : Int)) true := by
  intro d
  induction d with
  | zero =>
    intro i h
    refine Evn.step ?_
    have h1 : ¬ (i : Int) < (xs.length : Int) := by omega
    simp only [laws_eqIntS.l0, if_neg h1]
    exact Evn.done _
  | succ d ih =>
    intro i h
    refine Evn.step ?_
    have h1 : (i : Int) < (xs.length : Int) := by omega
    have h2 : 0 ≤ (i : Int) := by omega
    simp only [laws_eqIntS.l0, if_pos h1, if_pos h2, if_true, wrap_succ (show i < 4611686018427387904 by omega)]
    exact ih (i + 1) (by omega)
theorem ev_eqIntS (xs : List Int) (hx : xs.length ≤ 4194304) : Evn (fun k => laws_eqIntS.f k xs xs) true := by
  simp only [laws_eqIntS.f, if_true]
  exact ev_eqIntS_l0 xs hx xs.length 0 (by omega)

/-! The marks: a, a + 1, .. -/
def marksI (a : Int) : Nat → List Int
  | 0 => []
  | n + 1 => marksI a n ++ [a + n]
theorem marksI_len (a : Int) (n : Nat) : (marksI a n).length = n := by
  induction n with
  | zero => rfl
  | succ n ih => simp [marksI, ih]
theorem marksI_get (a : Int) (n : Nat) : ∀ i, i < n → (marksI a n).getD i 0 = a + i := by
  induction n with
  | zero => intro i h; omega
  | succ n ih =>
    intro i h
    rw [marksI, List.getD_eq_getElem?_getD]
    rcases Nat.lt_or_ge i n with hi | hi
    · rw [List.getElem?_append_left (by rw [marksI_len]; exact hi), ← List.getD_eq_getElem?_getD]
      exact ih i hi
    · obtain rfl : i = n := by omega
      rw [List.getElem?_append_right (by rw [marksI_len]; omega), marksI_len]
      simp
theorem ev_markIntS_l0 (a : Int) (ha : 0 ≤ a) (ha2 : a ≤ 1099511627776) (n : Nat) (hn : n ≤ 4194304) : ∀ (d i : Nat) (ys : List Int), i + d = n → ys.length = n → ys.take i = marksI a i → Evn (fun k => laws_markIntS.l0 k ys (a + i) (i : Int)) (a + n, marksI a n) := by
  intro d
  induction d with
  | zero =>
    intro i ys h hy ht
    refine Evn.step ?_
    have h1 : ¬ (i : Int) < (ys.length : Int) := by omega
    simp only [laws_markIntS.l0, if_neg h1]
    obtain rfl : i = n := by omega
    rw [List.take_of_length_le (by omega)] at ht
    rw [ht]
    exact Evn.done _
  | succ d ih =>
    intro i ys h hy ht
    refine Evn.step ?_
    have h1 : (i : Int) < (ys.length : Int) := by omega
    have h2 : 0 ≤ (i : Int) := by omega
    have e : wrap64 (a + i + 1) = a + ((i + 1 : Nat) : Int) := by rw [wrap_id (by omega) (by omega)]; omega
    simp only [laws_markIntS.l0, if_pos h1, if_pos h2, Int.toNat_natCast, e, wrap_succ (show i < 4611686018427387904 by omega)]
    exact ih (i + 1) _ (by omega) (by simpa using hy) (by rw [set_take _ _ _ (by omega), ht, marksI])
theorem ev_markIntS (ys : List Int) (a : Int) (ha : 0 ≤ a) (ha2 : a ≤ 1099511627776) (hn : ys.length ≤ 4194304) : Evn (fun k => laws_markIntS.f k ys a) (a + ys.length, marksI a ys.length) := by
  have h := ev_markIntS_l0 a ha ha2 ys.length hn ys.length 0 ys (by omega) rfl rfl
  simpa [laws_markIntS.f] using h

theorem ev_heldIntS_l0 (a : Int) (ha : 0 ≤ a) (ha2 : a ≤ 1099511627776) (n : Nat) (hn : n ≤ 4194304) : ∀ (d i : Nat), i + d = n → Evn (fun k => laws_heldIntS.l0 k (marksI a n) (a + i) (i : Int)) (a + n) := by
  intro d
  induction d with
  | zero =>
    intro i h
    refine Evn.step ?_
    have h1 : ¬ (i : Int) < ((marksI a n).length : Int) := by rw [marksI_len]; omega
    simp only [laws_heldIntS.l0, if_neg h1]
    obtain rfl : i = n := by omega
    exact Evn.done _
  | succ d ih =>
    intro i h
    refine Evn.step ?_
    have h1 : (i : Int) < ((marksI a n).length : Int) := by rw [marksI_len]; omega
    have h2 : 0 ≤ (i : Int) := by omega
    have h3 : rd (marksI a n) (i : Int) = a + i := by unfold rd; rw [Int.toNat_natCast]; exact marksI_get a n i (by omega)
    have e : wrap64 (a + i + 1) = a + ((i + 1 : Nat) : Int) := by rw [wrap_id (by omega) (by omega)]; omega
    simp only [laws_heldIntS.l0, if_pos h1, if_pos h2, if_pos h3, e, wrap_succ (show i < 4611686018427387904 by omega)]
    exact ih (i + 1) (by omega)
theorem ev_heldIntS (n : Nat) (a : Int) (ha : 0 ≤ a) (ha2 : a ≤ 1099511627776) (hn : n ≤ 4194304) : Evn (fun k => laws_heldIntS.f k (marksI a n) a) (a + n) := by
  have h := ev_heldIntS_l0 a ha ha2 n hn n 0 (by omega)
  simpa [laws_heldIntS.f] using h

theorem sp_l1In (x y z : Int) : spec_l1In.f x y z = some (decide (y ≤ x ∧ x ≤ z)) := by
  unfold spec_l1In.f
  by_cases h : x ≥ y <;> simp [h] <;> omega

theorem sp_l4Station (x : Int) : spec_l4Station.f x = some (decide (0 ≤ x ∧ x ≤ 7)) := by
  simp only [spec_l4Station.f, sp_l1In, Option.bind_some]

theorem sp_l1Has_l0 (xs : List Int) (v : Int) (hx : xs.length ≤ 4194304) : ∀ (d i : Nat), i + d = xs.length → Evn (fun k => spec_l1Has.l0 k xs v (i : Int)) ((xs.drop i).contains v) := by
  intro d
  induction d with
  | zero =>
    intro i h
    refine Evn.step ?_
    have h1 : ¬ (i : Int) < (xs.length : Int) := by omega
    simp only [spec_l1Has.l0, if_neg h1]
    rw [List.drop_eq_nil_of_le (by omega)]
    exact Evn.done _
  | succ d ih =>
    intro i h
    refine Evn.step ?_
    have h1 : (i : Int) < (xs.length : Int) := by omega
    have h2 : 0 ≤ (i : Int) := by omega
    simp only [spec_l1Has.l0, if_pos h1, if_pos h2, rd, Int.toNat_natCast, wrap_succ (show i < 4611686018427387904 by omega)]
    rw [getD_drop xs i 0 (by omega)]
    refine Evn.ite (fun c => (Evn.done _).eq_ ?_) (fun c => (ih (i + 1) (by omega)).eq_ ?_)
    · rw [List.contains_cons, c]; simp
    · rw [List.contains_cons, show (v == xs.getD i 0) = false from by simpa using fun h => c h.symm]; simp
theorem sp_l1Has (xs : List Int) (v : Int) (hx : xs.length ≤ 4194304) : Evn (fun k => spec_l1Has.f k xs v) (xs.contains v) := by
  have h := sp_l1Has_l0 xs v hx xs.length 0 (by omega)
  simpa [spec_l1Has.f] using h

def goodN (xs : List Int) : Nat → Nat → Bool
  | 0, _ => (xs.length : Int) == 8
  | d + 1, i => (decide (0 ≤ xs.getD i 0 ∧ xs.getD i 0 ≤ 7) && !(xs.take i).contains (xs.getD i 0)) && goodN xs d (i + 1)
def goodNs (xs : List Int) : Bool := goodN xs xs.length 0
theorem goodN_facts (xs : List Int) : ∀ (d i : Nat), i + d = xs.length → goodN xs d i = true → (∀ j, i ≤ j → j < xs.length → (0 ≤ xs.getD j 0 ∧ xs.getD j 0 ≤ 7) ∧ (xs.take j).contains (xs.getD j 0) = false) ∧ xs.length = 8 := by
  intro d
  induction d with
  | zero =>
    intro i h hg
    refine ⟨fun j h1 h2 => by omega, ?_⟩
    simp only [goodN, beq_iff_eq] at hg
    omega
  | succ d ih =>
    intro i h hg
    simp only [goodN, Bool.and_eq_true, decide_eq_true_eq, Bool.not_eq_true'] at hg
    obtain ⟨⟨g1, g2⟩, g3⟩ := hg
    obtain ⟨h1, h2⟩ := ih (i + 1) (by omega) g3
    refine ⟨fun j hj hl => ?_, h2⟩
    rcases Nat.lt_or_ge i j with hc | hc
    · exact h1 j hc hl
    · obtain rfl : j = i := by omega
      exact ⟨g1, g2⟩
theorem goodNs_len {xs : List Int} (h : goodNs xs = true) : xs.length = 8 := (goodN_facts xs xs.length 0 (by omega) h).2
theorem goodNs_in {xs : List Int} (h : goodNs xs = true) (j : Nat) (hj : j < xs.length) : 0 ≤ xs.getD j 0 ∧ xs.getD j 0 ≤ 7 := ((goodN_facts xs xs.length 0 (by omega) h).1 j (by omega) hj).1
theorem goodNs_new {xs : List Int} (h : goodNs xs = true) (j : Nat) (hj : j < xs.length) : (xs.take j).contains (xs.getD j 0) = false := ((goodN_facts xs xs.length 0 (by omega) h).1 j (by omega) hj).2
theorem sp_l20Good_l0 (xs : List Int) (hx : xs.length ≤ 1048576) : ∀ (d i : Nat), i + d = xs.length → Evn (fun k => spec_l20Good.l0 k xs (i : Int)) (goodN xs d i) := by
  intro d
  induction d with
  | zero =>
    intro i h
    refine Evn.step ?_
    have h1 : ¬ (i : Int) < (xs.length : Int) := by omega
    simp only [spec_l20Good.l0, if_neg h1, goodN]
    exact Evn.done _
  | succ d ih =>
    intro i h
    refine Evn.step ?_
    have h1 : (i : Int) < (xs.length : Int) := by omega
    have h2 : 0 ≤ (i : Int) := by omega
    have h3 : (i : Int) ≤ (xs.length : Int) := by omega
    have hl : (xs.take i).length ≤ 4194304 := by rw [List.length_take]; omega
    simp only [spec_l20Good.l0, if_pos h1, if_pos h2, if_pos h3, sp_l4Station, rd, Int.toNat_natCast, Option.bind_some, wrap_succ (show i < 4611686018427387904 by omega), goodN]
    refine Evn.ite (fun c1 => ?_) (fun c1 => (Evn.done _).eq_ (by simp only [Bool.eq_false_iff.mpr c1, Bool.false_and]))
    simp only [c1, Bool.true_and]
    refine Evn.bind (sp_l1Has _ _ hl) ?_
    refine Evn.ite (fun c2 => (Evn.done _).eq_ (by simp only [c2, Bool.not_true, Bool.false_and])) (fun c2 => (ih (i + 1) (by omega)).eq_ (by simp only [Bool.eq_false_iff.mpr c2, Bool.not_false, Bool.true_and]))
theorem sp_l20Good (xs : List Int) (hx : xs.length ≤ 1048576) : Evn (fun k => spec_l20Good.f k xs) (goodNs xs) := sp_l20Good_l0 xs hx xs.length 0 (by omega)

def thenNs (xs ys : List Int) : List Int × Bool := if goodNs xs = true ∧ goodNs ys = true then (xs.map (fun s => ys.getD s.toNat 0), true) else ([], false)
theorem then_step {ys zs : List Int} {xs : List Int} {i : Nat} (h : i < xs.length) : zs ++ (xs.drop i).map (fun s => ys.getD s.toNat 0) = (zs ++ [ys.getD (xs.getD i 0).toNat 0]) ++ (xs.drop (i + 1)).map (fun s => ys.getD s.toNat 0) := by
  rw [getD_drop xs i 0 h]; simp
theorem sp_ThenRenaming_l0 (xs ys : List Int) (hx : xs.length ≤ 1048576) (hg : goodNs xs = true) (hg2 : goodNs ys = true) : ∀ (d i : Nat) (zs : List Int), i + d = xs.length → zs.length = i → Evn (fun k => spec_ThenRenaming.l0 k xs ys zs (i : Int)) (zs ++ (xs.drop i).map (fun s => ys.getD s.toNat 0), true) := by
  have hl := goodNs_len hg2
  intro d
  induction d with
  | zero =>
    intro i zs h hz
    refine Evn.step ?_
    have h1 : ¬ (i : Int) < (xs.length : Int) := by omega
    simp only [spec_ThenRenaming.l0, if_neg h1]
    rw [List.drop_eq_nil_of_le (by omega)]
    simpa using Evn.done _
  | succ d ih =>
    intro i zs h hz
    refine Evn.step ?_
    have h1 : (i : Int) < (xs.length : Int) := by omega
    have h2 : 0 ≤ (i : Int) := by omega
    obtain ⟨g1, g2⟩ := goodNs_in hg i (by omega)
    have h3 : xs.getD i 0 < (ys.length : Int) := by omega
    rw [then_step (by omega)]
    simp only [spec_ThenRenaming.l0, if_pos h1, if_pos h2, rd, Int.toNat_natCast, if_pos g1, if_pos h3, wrap_succ (show i < 4611686018427387904 by omega)]
    exact Evn.ite (fun _ => ih (i + 1) _ (by omega) (by simp [hz])) (fun c => absurd (by omega) c)
theorem sp_ThenRenaming (xs ys : List Int) (hx : xs.length ≤ 1048576) (hy : ys.length ≤ 1048576) : Evn (fun k => spec_ThenRenaming.f k xs ys) (thenNs xs ys) := by
  unfold spec_ThenRenaming.f
  simp only [Option.bind_some]
  refine Evn.bind (sp_l20Good xs hx) ?_
  unfold thenNs
  refine Evn.ite (fun c => ?_) (fun c => ?_)
  · refine Evn.bind (sp_l20Good ys hy) (Evn.step ?_)
    simp only [spec_ThenRenaming.j0]
    refine Evn.ite (fun c1 => ?_) (fun c1 => ?_)
    · rw [if_neg (by intro h; rw [h.2] at c1; cases c1)]
      exact Evn.done _
    · have c2 : goodNs ys = true := by simpa using c1
      rw [if_pos ⟨c, c2⟩]
      have h := sp_ThenRenaming_l0 xs ys hx c c2 xs.length 0 [] (by omega) rfl
      simpa using h
  · refine Evn.step ?_
    simp only [spec_ThenRenaming.j0, if_true]
    rw [if_neg (fun h => c h.1)]
    exact Evn.done _

theorem im_within (x y z : Int) : impl_within.f x y z = some (decide (y ≤ x ∧ x ≤ z)) := by
  unfold impl_within.f
  by_cases h : x ≥ y <;> simp [h] <;> omega

theorem im_isStation (x : Int) : impl_isStation.f x = some (decide (0 ≤ x ∧ x ≤ 7)) := by
  simp only [impl_isStation.f, im_within, Option.bind_some]

def idxI (xs : List Int) (v : Int) : Nat → Int → Int
  | 0, _ => -1
  | d + 1, i => if v = xs.getD i.toNat 0 then i else idxI xs v d (i + 1)
theorem idxI_has (xs : List Int) (v : Int) : ∀ (d i : Nat), i + d = xs.length → decide (idxI xs v d (i : Int) ≥ 0) = (xs.drop i).contains v := by
  intro d
  induction d with
  | zero => intro i h; rw [List.drop_eq_nil_of_le (by omega)]; simp [idxI]
  | succ d ih =>
    intro i h
    rw [getD_drop xs i 0 (by omega), List.contains_cons]
    unfold idxI
    rw [Int.toNat_natCast]
    by_cases c : v = xs.getD i 0
    · rw [if_pos c, ← c]; simp
    · rw [if_neg c, show (v == xs.getD i 0) = false from by simpa using c, Bool.false_or]
      exact ih (i + 1) (by omega)
theorem li_Index_l0 (xs : List Int) (v : Int) (hx : xs.length ≤ 4194304) : ∀ (d i : Nat), i + d = xs.length → Evn (fun k => slices_Index_int_int.l0 k xs v (xs.length : Int) (i : Int)) (idxI xs v d (i : Int)) := by
  intro d
  induction d with
  | zero =>
    intro i h
    refine Evn.step ?_
    have h1 : ¬ (i : Int) < (xs.length : Int) := by omega
    simp only [slices_Index_int_int.l0, if_neg h1]
    exact Evn.done _
  | succ d ih =>
    intro i h
    refine Evn.step ?_
    have h1 : (i : Int) < (xs.length : Int) := by omega
    have h2 : 0 ≤ (i : Int) := by omega
    simp only [slices_Index_int_int.l0, if_pos h1, if_pos h2, rd, wrap_succ (show i < 4611686018427387904 by omega), idxI]
    refine Evn.ite (fun c => (Evn.done _).eq_ ?_) (fun c => (ih (i + 1) (by omega)).eq_ ?_)
    · rw [if_pos c]
    · rw [if_neg c]; rfl

theorem im_has (xs : List Int) (v : Int) (hx : xs.length ≤ 4194304) : Evn (fun k => impl_has.f k xs v) (xs.contains v) := by
  unfold impl_has.f slices_Contains_int_int.f slices_Index_int_int.f
  refine Evn.bind (Evn.bind (li_Index_l0 xs v hx xs.length 0 (by omega)) (Evn.done _)) ?_
  refine (Evn.done _).eq_ ?_
  have h := idxI_has xs v xs.length 0 (by omega)
  simpa using h

theorem im_IsRenaming_l0 (xs : List Int) (hx : xs.length ≤ 1048576) : ∀ (d i : Nat), i + d = xs.length → Evn (fun k => impl_IsRenaming.l0 k xs xs (xs.length : Int) (i : Int)) (goodN xs d i) := by
  intro d
  induction d with
  | zero =>
    intro i h
    refine Evn.step ?_
    have h1 : ¬ (i : Int) < (xs.length : Int) := by omega
    simp only [impl_IsRenaming.l0, if_neg h1, goodN]
    exact Evn.done _
  | succ d ih =>
    intro i h
    refine Evn.step ?_
    have h1 : (i : Int) < (xs.length : Int) := by omega
    have h2 : 0 ≤ (i : Int) := by omega
    have h3 : (i : Int) ≤ (xs.length : Int) := by omega
    have hl : (xs.take i).length ≤ 4194304 := by rw [List.length_take]; omega
    simp only [impl_IsRenaming.l0, if_pos h1, if_pos h2, if_pos h3, im_isStation, rd, Int.toNat_natCast, Option.bind_some, wrap_succ (show i < 4611686018427387904 by omega), goodN]
    refine Evn.ite (fun c1 => ?_) (fun c1 => (Evn.done _).eq_ (by simp only [Bool.eq_false_iff.mpr c1, Bool.false_and]))
    simp only [c1, Bool.true_and]
    refine Evn.bind (im_has _ _ hl) ?_
    refine Evn.ite (fun c2 => (Evn.done _).eq_ (by simp only [c2, Bool.not_true, Bool.false_and])) (fun c2 => (ih (i + 1) (by omega)).eq_ (by simp only [Bool.eq_false_iff.mpr c2, Bool.not_false, Bool.true_and]))
theorem im_IsRenaming (xs : List Int) (hx : xs.length ≤ 1048576) : Evn (fun k => impl_IsRenaming.f k xs) (goodNs xs) := im_IsRenaming_l0 xs hx xs.length 0 (by omega)

theorem im_ThenRenaming_l0 (xs ys : List Int) (hx : xs.length ≤ 1048576) (hg : goodNs xs = true) (hg2 : goodNs ys = true) : ∀ (d i : Nat) (zs : List Int), i + d = xs.length → zs.length = i → Evn (fun k => impl_ThenRenaming.l0 k ys zs xs (xs.length : Int) (i : Int)) (zs ++ (xs.drop i).map (fun s => ys.getD s.toNat 0), true) := by
  have hl := goodNs_len hg2
  intro d
  induction d with
  | zero =>
    intro i zs h hz
    refine Evn.step ?_
    have h1 : ¬ (i : Int) < (xs.length : Int) := by omega
    simp only [impl_ThenRenaming.l0, if_neg h1]
    rw [List.drop_eq_nil_of_le (by omega)]
    simpa using Evn.done _
  | succ d ih =>
    intro i zs h hz
    refine Evn.step ?_
    have h1 : (i : Int) < (xs.length : Int) := by omega
    have h2 : 0 ≤ (i : Int) := by omega
    obtain ⟨g1, g2⟩ := goodNs_in hg i (by omega)
    have h3 : xs.getD i 0 < (ys.length : Int) := by omega
    rw [then_step (by omega)]
    simp only [impl_ThenRenaming.l0, if_pos h1, if_pos h2, rd, Int.toNat_natCast, if_pos g1, if_pos h3, wrap_succ (show i < 4611686018427387904 by omega)]
    exact Evn.ite (fun _ => ih (i + 1) _ (by omega) (by simp [hz])) (fun c => absurd (by omega) c)
theorem im_ThenRenaming (xs ys : List Int) (hx : xs.length ≤ 1048576) (hy : ys.length ≤ 1048576) : Evn (fun k => impl_ThenRenaming.f k xs ys) (thenNs xs ys) := by
  unfold impl_ThenRenaming.f
  refine Evn.bind (im_IsRenaming xs hx) ?_
  unfold thenNs
  refine Evn.ite (fun c => ?_) (fun c => ?_)
  · refine Evn.bind (im_IsRenaming ys hy) (Evn.step ?_)
    simp only [impl_ThenRenaming.j0]
    refine Evn.ite (fun c1 => ?_) (fun c1 => ?_)
    · rw [if_neg (by intro h; rw [h.2] at c1; cases c1)]
      exact Evn.done _
    · have c2 : goodNs ys = true := by simpa using c1
      rw [if_pos ⟨c, c2⟩]
      have h := im_ThenRenaming_l0 xs ys hx c c2 xs.length 0 [] (by omega) rfl
      simpa using h
  · refine Evn.step ?_
    simp only [impl_ThenRenaming.j0, if_true]
    rw [if_neg (fun h => c h.1)]
    exact Evn.done _

theorem FnExactThenRenaming : ∀ (l0 : List Int) (l1 : List Int), l0.length ≤ maxLen → (∀ x ∈ l0, (Lit.int .i64 x).wf = true) → l1.length ≤ maxLen → (∀ x ∈ l1, (Lit.int .i64 x).wf = true) → ∃ k, laws_FnExactThenRenaming.f k l0 l1 = some true := by
  intro l m _ _ _ _
  apply Evn.get
  unfold laws_FnExactThenRenaming.f
  refine Evn.ite (fun _ => Evn.done _) (fun h => ?_)
  refine Evn.ite (fun _ => Evn.done _) (fun h' => ?_)
  have hx : l.length ≤ 1048576 := by omega
  have hx4 : l.length ≤ 4194304 := by omega
  have hy : m.length ≤ 1048576 := by omega
  have hy4 : m.length ≤ 4194304 := by omega
  have hs := sp_ThenRenaming l m hx hy
  have hi := im_ThenRenaming l m hx hy
  have hr : (thenNs l m).1.length ≤ 4194304 := by
    unfold thenNs
    split
    · simp only [List.length_map]; exact hx4
    · simp
  generalize thenNs l m = r at hs hi hr
  repeat (first
    | exact Evn.done _
    | simp only [if_true, bne_self_eq_false, Bool.false_eq_true, if_false]
    | refine Evn.bind hs ?_
    | refine Evn.bind hi ?_
    | refine Evn.bind (ev_toIntS _ (by assumption)) ?_
    | refine Evn.bind (ev_eqIntS _ (by assumption)) ?_
    | refine Evn.bind (ev_markIntS _ _ (by omega) (by omega) (by first | assumption | omega)) ?_
    | refine Evn.bind (ev_heldIntS _ _ (by omega) (by omega) (by first | assumption | omega)) ?_
    | refine Evn.ite (fun h_ => absurd h_ (by first | omega | decide)) (fun _ => ?_)
    | refine Evn.ite (fun _ => ?_) (fun h_ => absurd (by first | rfl | omega) h_)
    | dsimp only
    | (refine Evn.step ?_; simp only [laws_FnExactThenRenaming.j0])
    | (refine Evn.step ?_; simp only [laws_FnExactThenRenaming.j1])
    | (refine Evn.step ?_; simp only [laws_FnExactThenRenaming.j2]))

end Go.Proofs.Ytfaojmabalplfaa.Pure
