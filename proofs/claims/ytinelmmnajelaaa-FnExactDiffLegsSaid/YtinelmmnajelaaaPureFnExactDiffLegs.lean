/- The plain statement of FnExactDiffLegs: its plain function returns true at every input. No condition beyond the arguments' own bounds. -/
import Derived.Test.YtinelmmnajelaaaQFnExactDiffLegsx9
import Derived.Test.YtinelmmnajelaaaAid
namespace Go.Proofs.Ytinelmmnajelaaa.Pure
open Go.RowKit Go.Proofs.YtinelmmnajelaaaW.PrintWords Go.Proofs.YtinelmmnajelaaaW.PrintLast Go.Proofs.Ytinelmmnajelaaa.Aid Go.Proofs.Ytinelmmnajelaaa.QFnExactDiffLegs
set_option linter.unusedVariables false
set_option linter.unusedSimpArgs false

theorem ev_szLegS (l : List S23) (q : Int) : laws_szLegS.f l q = some (if wrap64 (q - (l.length : Int)) < 0 then -1 else wrap64 (q - (l.length : Int))) := by
  unfold laws_szLegS.f
  split <;> rfl

theorem sp_l1In (x y z : Int) : spec_l1In.f x y z = some (decide (y ≤ x ∧ x ≤ z)) := by
  unfold spec_l1In.f
  by_cases h : x ≥ y <;> simp [h] <;> omega

theorem sp_l4Station (x : Int) : spec_l4Station.f x = some (decide (0 ≤ x ∧ x ≤ 7)) := by
  simp only [spec_l4Station.f, sp_l1In, Option.bind_some]

/-! A leg's rules. -/
def okLeg (x : S26) : Bool := decide (0 ≤ x.f0 ∧ x.f0 ≤ 7) && (decide (0 ≤ x.f1 ∧ x.f1 ≤ 7) && (!decide (x.f0 = x.f1) && (decide (1 ≤ x.f2 ∧ x.f2 ≤ 500) && (decide (0 ≤ x.f3 ∧ x.f3 ≤ 359) && decide (-90 ≤ x.f4 ∧ x.f4 ≤ 90)))))
def goodLegs (xs : List S26) : Bool := xs.all okLeg && decide (xs.length ≤ 12)
theorem goodLegs_len {xs : List S26} (h : goodLegs xs = true) : xs.length ≤ 12 := by
  simp only [goodLegs, Bool.and_eq_true, decide_eq_true_eq] at h
  exact h.2
theorem goodLegs_ok {xs : List S26} (h : goodLegs xs = true) (j : Nat) (hj : j < xs.length) : okLeg (xs.getD j z26) = true := by
  simp only [goodLegs, Bool.and_eq_true, List.all_eq_true] at h
  refine h.1 _ ?_
  rw [List.getD_eq_getElem?_getD, List.getElem?_eq_getElem hj]
  exact List.getElem_mem hj
theorem okLeg_in {x : S26} (h : okLeg x = true) : (0 ≤ x.f0 ∧ x.f0 ≤ 7) ∧ (0 ≤ x.f1 ∧ x.f1 ≤ 7) ∧ ¬ x.f0 = x.f1 ∧ (1 ≤ x.f2 ∧ x.f2 ≤ 500) ∧ (0 ≤ x.f3 ∧ x.f3 ≤ 359) ∧ (-90 ≤ x.f4 ∧ x.f4 ≤ 90) := by
  simp only [okLeg, Bool.and_eq_true, decide_eq_true_eq, Bool.not_eq_true', decide_eq_false_iff_not] at h
  exact h
theorem ite_not (c : Prop) [Decidable c] (x : Bool) : (if c then some false else some x) = some (!decide c && x) := by
  by_cases h : c <;> simp [h]

theorem sp_l4Leg (x : S26) : spec_l4Leg.f x.f0 x.f1 x.f2 x.f3 x.f4 = some (okLeg x) := by
  simp only [spec_l4Leg.f, sp_l4Station, spec_l2Bearing.f, sp_l1In, Option.bind_some, ite_and, ite_not, okLeg]

theorem sp_l4Legs_l0 (xs : List S26) (hx : xs.length ≤ 4194304) : ∀ (d i : Nat), i + d = xs.length → Evn (fun k => spec_l4Legs.l0 k xs (i : Int)) ((xs.drop i).all okLeg && decide (xs.length ≤ 12)) := by
  intro d
  induction d with
  | zero =>
    intro i h
    refine Evn.step ?_
    have h1 : ¬ (i : Int) < (xs.length : Int) := by omega
    simp only [spec_l4Legs.l0, if_neg h1]
    rw [List.drop_eq_nil_of_le (by omega)]
    refine (Evn.done _).eq_ ?_
    simp only [List.all_nil, Bool.true_and, decide_eq_decide]
    omega
  | succ d ih =>
    intro i h
    refine Evn.step ?_
    have h1 : (i : Int) < (xs.length : Int) := by omega
    have h2 : 0 ≤ (i : Int) := by omega
    simp only [spec_l4Legs.l0, if_pos h1, if_pos h2, sp_l4Leg, Option.bind_some, wrap_succ (show i < 4611686018427387904 by omega), rd_T26, Int.toNat_natCast]
    rw [getD_drop xs i z26 (by omega), List.all_cons]
    exact Evn.ite (fun c => (ih (i + 1) (by omega)).eq_ (by simp only [c, Bool.true_and])) (fun c => (Evn.done _).eq_ (by simp only [Bool.eq_false_iff.mpr c, Bool.false_and]))
theorem sp_l4Legs (xs : List S26) (hx : xs.length ≤ 4194304) : Evn (fun k => spec_l4Legs.f k xs) (goodLegs xs) := by
  have h := sp_l4Legs_l0 xs hx xs.length 0 (by omega)
  simpa [spec_l4Legs.f, goodLegs] using h

/-! The difference of two lists of legs. -/
def neqL (x y : S26) : Bool := !(x.f0 == y.f0) || (!(x.f1 == y.f1) || (!(x.f2 == y.f2) || (!(x.f3 == y.f3) || (!(x.f4 == y.f4)))))
def chg (xs ys : List S26) : Nat → Nat → List S28
  | 0, _ => []
  | d + 1, i => if neqL (xs.getD i z26) (ys.getD i z26) = true then (⟨3, i, xs.getD i z26, ys.getD i z26⟩ : S28) :: chg xs ys d (i + 1) else chg xs ys d (i + 1)
def rmv (xs : List S26) (c : Nat) : Nat → List S28
  | 0 => []
  | d + 1 => (⟨2, ((c + d : Nat) : Int), xs.getD (c + d) z26, ⟨0, 0, 0, 0, 0⟩⟩ : S28) :: rmv xs c d
def adn (ys : List S26) : Nat → Nat → List S28
  | 0, _ => []
  | d + 1, i => (⟨1, i, ⟨0, 0, 0, 0, 0⟩, ys.getD i z26⟩ : S28) :: adn ys d (i + 1)
theorem chg_len (xs ys : List S26) : ∀ d i, (chg xs ys d i).length ≤ d := by
  intro d
  induction d with
  | zero => intro i; simp [chg]
  | succ d ih =>
    intro i
    have := ih (i + 1)
    unfold chg
    split
    · rw [List.length_cons]; omega
    · omega
theorem rmv_len (xs : List S26) (c : Nat) : ∀ d, (rmv xs c d).length = d := by
  intro d
  induction d with
  | zero => rfl
  | succ d ih => rw [rmv, List.length_cons, ih]
theorem adn_len (ys : List S26) : ∀ d i, (adn ys d i).length = d := by
  intro d
  induction d with
  | zero => intro i; rfl
  | succ d ih => intro i; rw [adn, List.length_cons, ih]
def finD (l : List S28) : List S28 × Bool := if (l.length : Int) > 10 then ([], false) else (l, true)
def diffL (xs ys : List S26) : List S28 := chg xs ys (min xs.length ys.length) 0 ++ (rmv xs (min xs.length ys.length) (xs.length - min xs.length ys.length) ++ adn ys (ys.length - min xs.length ys.length) (min xs.length ys.length))
def diffTs (xs ys : List S26) : List S28 × Bool := if goodLegs xs = true ∧ goodLegs ys = true then finD (diffL xs ys) else ([], false)
theorem diffTs_len (xs ys : List S26) : (diffTs xs ys).1.length ≤ 4194304 := by
  unfold diffTs
  split
  · unfold finD
    split
    · simp
    · dsimp only; omega
  · simp
theorem mn_nat (a b : Nat) : mn (a : Int) (b : Int) = ((min a b : Nat) : Int) := by
  unfold mn
  split <;> omega

theorem sp_Diff_l2 (ys : List S26) : ∀ (d i : Nat) (zs : List S28), d = ys.length - i → i ≤ 1000 → ys.length ≤ 1000 → zs.length + d ≤ 100000 → Evn (fun k => spec_DiffLegs.l2 k ys zs (i : Int)) (finD (zs ++ adn ys d i)) := by
  intro d
  induction d with
  | zero =>
    intro i zs h hi hy hz
    refine Evn.step ?_
    have h1 : ¬ (i : Int) < (ys.length : Int) := by omega
    simp only [spec_DiffLegs.l2, if_neg h1, adn, List.append_nil]
    unfold finD
    exact Evn.ite (fun c => by rw [if_pos c]; exact Evn.done _) (fun c => by rw [if_neg c]; exact Evn.done _)
  | succ d ih =>
    intro i zs h hi hy hz
    have h1 : (i : Int) < (ys.length : Int) := by omega
    have h2 : 0 ≤ (i : Int) := by omega
    have hw := wrap_succ (show i < 4611686018427387904 by omega)
    refine Evn.step ?_
    simp only [spec_DiffLegs.l2, if_pos h1, if_pos h2, hw, rd_T26, Int.toNat_natCast, adn]
    clear hw
    refine Evn.ite (fun _ => ?_) (fun c2 => absurd (by omega) c2)
    have h5 := ih (i + 1) (zs ++ [(⟨1, i, ⟨0, 0, 0, 0, 0⟩, ys.getD i z26⟩ : S28)]) (by omega) (by omega) hy (by rw [List.length_append, List.length_singleton]; omega)
    rw [List.append_assoc] at h5
    exact h5
theorem sp_Diff_l1 (xs ys : List S26) (hx : xs.length ≤ 12) (hy : ys.length ≤ 12) : ∀ (d : Nat) (x8 : Int) (zs : List S28), x8 = ((ys.length + d : Nat) : Int) - 1 → ys.length + d ≤ xs.length → zs.length + d ≤ 1000 → Evn (fun k => spec_DiffLegs.l1 k xs ys zs x8) (finD (zs ++ (rmv xs ys.length d ++ adn ys (ys.length - xs.length) xs.length))) := by
  intro d
  induction d with
  | zero =>
    intro x8 zs h8 hd hz
    refine Evn.step ?_
    have h1 : ¬ x8 ≥ (ys.length : Int) := by omega
    simp only [spec_DiffLegs.l1, if_neg h1, rmv, List.nil_append]
    exact sp_Diff_l2 ys _ xs.length zs rfl (by omega) (by omega) (by omega)
  | succ d ih =>
    intro x8 zs h8 hd hz
    have h8' : x8 = ((ys.length + d : Nat) : Int) := by omega
    have h1 : x8 ≥ (ys.length : Int) := by omega
    have h2 : 0 ≤ x8 := by omega
    have h3 : x8 < (xs.length : Int) := by omega
    have hw : wrap64 (x8 - 1) = x8 - 1 := wrap_id (by omega) (by omega)
    refine Evn.step ?_
    simp only [spec_DiffLegs.l1, if_pos h1, if_pos h2, if_pos h3, hw, rmv]
    clear hw
    refine Evn.ite (fun _ => ?_) (fun c2 => absurd (by omega) c2)
    have h5 := ih (x8 - 1) (zs ++ [(⟨2, x8, rd_T26 xs x8, ⟨0, 0, 0, 0, 0⟩⟩ : S28)]) (by omega) (by omega) (by rw [List.length_append, List.length_singleton]; omega)
    rw [List.append_assoc] at h5
    have e : rd_T26 xs x8 = xs.getD (ys.length + d) z26 := by rw [h8']; unfold rd_T26; rw [Int.toNat_natCast]
    rw [e, h8'] at h5
    rw [← h8'] at h5 ⊢
    simp only [e]
    exact h5
theorem sp_Diff_tail (xs ys : List S26) (hx : xs.length ≤ 12) (hy : ys.length ≤ 12) (zs : List S28) (hz : zs.length ≤ 100) : Evn (fun k => spec_DiffLegs.l1 k xs ys zs (wrap64 ((xs.length : Int) - 1))) (finD (zs ++ (rmv xs (min xs.length ys.length) (xs.length - min xs.length ys.length) ++ adn ys (ys.length - min xs.length ys.length) (min xs.length ys.length)))) := by
  have hw : wrap64 ((xs.length : Int) - 1) = (xs.length : Int) - 1 := wrap_id (by omega) (by omega)
  rw [hw]
  clear hw
  rcases Nat.le_total ys.length xs.length with hc | hc
  · have h := sp_Diff_l1 xs ys hx hy (xs.length - ys.length) ((xs.length : Int) - 1) zs (by omega) (by omega) (by omega)
    rw [Nat.min_eq_right hc]
    have e1 : ys.length - xs.length = 0 := by omega
    have e2 : ys.length - ys.length = 0 := by omega
    rw [e1] at h
    rw [e2]
    exact h
  · rw [Nat.min_eq_left hc, Nat.sub_self]
    refine Evn.step ?_
    have h1 : ¬ (xs.length : Int) - 1 ≥ (ys.length : Int) := by omega
    simp only [spec_DiffLegs.l1, if_neg h1, rmv, List.nil_append]
    exact sp_Diff_l2 ys _ xs.length zs rfl (by omega) (by omega) (by omega)
theorem sp_Diff_l0 (xs ys : List S26) (hx : xs.length ≤ 12) (hy : ys.length ≤ 12) : ∀ (d i : Nat) (zs : List S28), i + d = min xs.length ys.length → zs.length + d ≤ 100 → Evn (fun k => spec_DiffLegs.l0 k xs ys zs (i : Int)) (finD (zs ++ (chg xs ys d i ++ (rmv xs (min xs.length ys.length) (xs.length - min xs.length ys.length) ++ adn ys (ys.length - min xs.length ys.length) (min xs.length ys.length))))) := by
  intro d
  induction d with
  | zero =>
    intro i zs h hz
    have hj : Evn (fun k => spec_DiffLegs.j2 k xs ys zs (i : Int) false) (finD (zs ++ (chg xs ys 0 i ++ (rmv xs (min xs.length ys.length) (xs.length - min xs.length ys.length) ++ adn ys (ys.length - min xs.length ys.length) (min xs.length ys.length))))) := by
      refine Evn.step ?_
      simp only [spec_DiffLegs.j2, Bool.false_eq_true, if_false, chg, List.nil_append]
      exact sp_Diff_tail xs ys hx hy zs (by omega)
    refine Evn.step ?_
    simp only [spec_DiffLegs.l0]
    refine Evn.ite (fun c => ?_) (fun _ => hj)
    rw [decide_eq_false (by omega)]
    exact hj
  | succ d ih =>
    intro i zs h hz
    have h1 : (i : Int) < (xs.length : Int) := by omega
    have h2 : (i : Int) < (ys.length : Int) := by omega
    have h3 : 0 ≤ (i : Int) := by omega
    have hw := wrap_succ (show i < 4611686018427387904 by omega)
    refine Evn.step ?_
    simp only [spec_DiffLegs.l0, if_pos h1, decide_eq_true h2]
    refine Evn.step ?_
    simp only [spec_DiffLegs.j2, if_true, if_pos h1, if_pos h2, if_pos h3, hw, rd_T26, Int.toNat_natCast]
    clear hw
    have ec : ∀ b : Bool, neqL (xs.getD i z26) (ys.getD i z26) = b → chg xs ys (d + 1) i = if b = true then (⟨3, i, xs.getD i z26, ys.getD i z26⟩ : S28) :: chg xs ys d (i + 1) else chg xs ys d (i + 1) := by
      intro b hb
      rw [← hb]
      rfl
    refine Evn.ite (fun c => ?_) (fun c => ?_)
    · rw [ec true c, if_pos rfl]
      refine Evn.ite (fun _ => ?_) (fun c2 => absurd (by omega) c2)
      have h5 := ih (i + 1) (zs ++ [(⟨3, i, xs.getD i z26, ys.getD i z26⟩ : S28)]) (by omega) (by rw [List.length_append, List.length_singleton]; omega)
      rw [List.append_assoc] at h5
      exact h5
    · rw [ec false (Bool.eq_false_iff.mpr c), if_neg (by decide)]
      exact ih (i + 1) zs (by omega) (by omega)
theorem sp_DiffLegs (xs ys : List S26) (hx : xs.length ≤ 4194304) (hy : ys.length ≤ 4194304) : Evn (fun k => spec_DiffLegs.f k xs ys) (diffTs xs ys) := by
  have no : ¬ (goodLegs xs = true ∧ goodLegs ys = true) → Evn (fun k => spec_DiffLegs.j0 k xs ys [] true) (diffTs xs ys) := by
    intro h
    unfold diffTs
    rw [if_neg h]
    refine Evn.step ?_
    simp only [spec_DiffLegs.j0, if_true]
    exact Evn.done _
  unfold spec_DiffLegs.f
  simp only [Option.bind_some]
  refine Evn.bind (sp_l4Legs xs hx) ?_
  refine Evn.ite (fun c1 => ?_) (fun c1 => no (fun h => c1 h.1))
  refine Evn.bind (sp_l4Legs ys hy) ?_
  by_cases c2 : goodLegs ys = true
  · rw [c2, Bool.not_true]
    refine Evn.step ?_
    simp only [spec_DiffLegs.j0, Bool.false_eq_true, if_false]
    unfold diffTs
    rw [if_pos ⟨c1, c2⟩]
    have l1 := goodLegs_len c1
    have l2 := goodLegs_len c2
    exact sp_Diff_l0 xs ys l1 l2 (min xs.length ys.length) 0 [] (by omega) (by simp only [List.length_nil]; omega)
  · rw [Bool.eq_false_iff.mpr c2, Bool.not_false]
    exact no (fun h => c2 h.2)

-- laws_toLeg: as it stands

def convLeg (x : S23) : S26 := ⟨x.f0, x.f1, x.f2, x.f3, x.f4⟩
theorem ev_toLegS_l0 (xs : List S23) (hx : xs.length ≤ 1048576) : ∀ (d i : Nat) (ys : List S26), i + d = xs.length → ys.length = xs.length → Evn (fun k => laws_toLegS.l0 k xs ys (i : Int)) (ys.take i ++ (xs.drop i).map convLeg) := by
  intro d
  induction d with
  | zero =>
    intro i ys h hy
    refine Evn.step ?_
    have h1 : ¬ (i : Int) < (xs.length : Int) := by omega
    simp only [laws_toLegS.l0, if_neg h1]
    have e : ys.take i ++ (xs.drop i).map convLeg = ys := by rw [List.take_of_length_le (by omega), List.drop_eq_nil_of_le (by omega)]; simp
    rw [e]
    exact Evn.done _
  | succ d ih =>
    intro i ys h hy
    refine Evn.step ?_
    have h1 : (i : Int) < (xs.length : Int) := by omega
    have h2 : 0 ≤ (i : Int) := by omega
    have h3 : (i : Int) < (ys.length : Int) := by omega
    simp only [laws_toLegS.l0, laws_toLeg.f, if_pos h1, if_pos h2, if_pos h3, Option.bind_some, Int.toNat_natCast, wrap_succ (show i < 4611686018427387904 by omega)]
    refine (ih (i + 1) _ (by omega) (by simpa using hy)).eq_ ?_
    rw [set_take _ _ _ (by omega), getD_drop xs i z23 (by omega)]
    simp [convLeg, rd_T23]
theorem ev_toLegS (xs : List S23) (hx : xs.length ≤ 1048576) : Evn (fun k => laws_toLegS.f k xs) (xs.map convLeg) := by
  unfold laws_toLegS.f
  refine Evn.ite (fun _ => Evn.ite (fun _ => ?_) (fun h => (h (by omega)).elim)) (fun h => (h (by omega)).elim)
  have h := ev_toLegS_l0 xs hx xs.length 0 (List.replicate (xs.length : Int).toNat z26) (by omega) (by simp)
  simpa using h

theorem im_within (x y z : Int) : impl_within.f x y z = some (decide (y ≤ x ∧ x ≤ z)) := by
  unfold impl_within.f
  by_cases h : x ≥ y <;> simp [h] <;> omega

theorem im_isStation (x : Int) : impl_isStation.f x = some (decide (0 ≤ x ∧ x ≤ 7)) := by
  simp only [impl_isStation.f, im_within, Option.bind_some]

theorem im_IsLeg (x : S26) : impl_IsLeg.f x.f0 x.f1 x.f2 x.f3 x.f4 = some (okLeg x) := by
  simp only [impl_IsLeg.f, im_isStation, impl_isBearing.f, im_within, Option.bind_some, ite_and, ite_not, okLeg]

theorem im_areLegs_l0 (xs : List S26) (hx : xs.length ≤ 4194304) : ∀ (d i : Nat), i + d = xs.length → Evn (fun k => impl_areLegs.l0 k xs xs (xs.length : Int) (i : Int)) ((xs.drop i).all okLeg && decide (xs.length ≤ 12)) := by
  intro d
  induction d with
  | zero =>
    intro i h
    refine Evn.step ?_
    have h1 : ¬ (i : Int) < (xs.length : Int) := by omega
    simp only [impl_areLegs.l0, if_neg h1]
    rw [List.drop_eq_nil_of_le (by omega)]
    refine (Evn.done _).eq_ ?_
    simp only [List.all_nil, Bool.true_and, decide_eq_decide]
    omega
  | succ d ih =>
    intro i h
    refine Evn.step ?_
    have h1 : (i : Int) < (xs.length : Int) := by omega
    have h2 : 0 ≤ (i : Int) := by omega
    simp only [impl_areLegs.l0, if_pos h1, if_pos h2, im_IsLeg, Option.bind_some, wrap_succ (show i < 4611686018427387904 by omega), rd_T26, Int.toNat_natCast]
    rw [getD_drop xs i z26 (by omega), List.all_cons]
    exact Evn.ite (fun c => (ih (i + 1) (by omega)).eq_ (by simp only [c, Bool.true_and])) (fun c => (Evn.done _).eq_ (by simp only [Bool.eq_false_iff.mpr c, Bool.false_and]))
theorem im_areLegs (xs : List S26) (hx : xs.length ≤ 4194304) : Evn (fun k => impl_areLegs.f k xs) (goodLegs xs) := by
  have h := im_areLegs_l0 xs hx xs.length 0 (by omega)
  simpa [impl_areLegs.f, goodLegs] using h

theorem im_Diff_l2 (ys : List S26) : ∀ (d i : Nat) (zs : List S28), d = ys.length - i → i ≤ 1000 → ys.length ≤ 1000 → zs.length + d ≤ 100000 → Evn (fun k => impl_DiffLegs.l2 k ys zs (i : Int)) (finD (zs ++ adn ys d i)) := by
  intro d
  induction d with
  | zero =>
    intro i zs h hi hy hz
    refine Evn.step ?_
    have h1 : ¬ (i : Int) < (ys.length : Int) := by omega
    simp only [impl_DiffLegs.l2, if_neg h1, adn, List.append_nil]
    unfold finD
    exact Evn.ite (fun c => by rw [if_pos c]; exact Evn.done _) (fun c => by rw [if_neg c]; exact Evn.done _)
  | succ d ih =>
    intro i zs h hi hy hz
    have h1 : (i : Int) < (ys.length : Int) := by omega
    have h2 : 0 ≤ (i : Int) := by omega
    have hw := wrap_succ (show i < 4611686018427387904 by omega)
    refine Evn.step ?_
    simp only [impl_DiffLegs.l2, if_pos h1, if_pos h2, hw, rd_T26, Int.toNat_natCast, adn]
    clear hw
    refine Evn.ite (fun _ => ?_) (fun c2 => absurd (by omega) c2)
    have h5 := ih (i + 1) (zs ++ [(⟨1, i, ⟨0, 0, 0, 0, 0⟩, ys.getD i z26⟩ : S28)]) (by omega) (by omega) hy (by rw [List.length_append, List.length_singleton]; omega)
    rw [List.append_assoc] at h5
    exact h5
theorem im_Diff_l1 (xs ys : List S26) (hx : xs.length ≤ 12) (hy : ys.length ≤ 12) (c : Nat) (hc : c ≤ 12) : ∀ (d : Nat) (x8 : Int) (zs : List S28), x8 = ((c + d : Nat) : Int) - 1 → c + d ≤ xs.length → zs.length + d ≤ 1000 → Evn (fun k => impl_DiffLegs.l1 k xs ys zs (c : Int) x8) (finD (zs ++ (rmv xs c d ++ adn ys (ys.length - c) c))) := by
  intro d
  induction d with
  | zero =>
    intro x8 zs h8 hd hz
    refine Evn.step ?_
    have h1 : ¬ x8 ≥ (c : Int) := by omega
    simp only [impl_DiffLegs.l1, if_neg h1, rmv, List.nil_append]
    exact im_Diff_l2 ys _ c zs rfl (by omega) (by omega) (by omega)
  | succ d ih =>
    intro x8 zs h8 hd hz
    have h8' : x8 = ((c + d : Nat) : Int) := by omega
    have h1 : x8 ≥ (c : Int) := by omega
    have h2 : 0 ≤ x8 := by omega
    have h3 : x8 < (xs.length : Int) := by omega
    have hw : wrap64 (x8 - 1) = x8 - 1 := wrap_id (by omega) (by omega)
    refine Evn.step ?_
    simp only [impl_DiffLegs.l1, if_pos h1, if_pos h2, if_pos h3, hw, rmv]
    clear hw
    refine Evn.ite (fun _ => ?_) (fun c2 => absurd (by omega) c2)
    have h5 := ih (x8 - 1) (zs ++ [(⟨2, x8, rd_T26 xs x8, ⟨0, 0, 0, 0, 0⟩⟩ : S28)]) (by omega) (by omega) (by rw [List.length_append, List.length_singleton]; omega)
    rw [List.append_assoc] at h5
    have e : rd_T26 xs x8 = xs.getD (c + d) z26 := by rw [h8']; unfold rd_T26; rw [Int.toNat_natCast]
    rw [e, h8'] at h5
    rw [← h8'] at h5 ⊢
    simp only [e]
    exact h5
theorem im_Diff_l0 (xs ys : List S26) (hx : xs.length ≤ 12) (hy : ys.length ≤ 12) (m : Nat) (hm : m = min xs.length ys.length) : ∀ (d i : Nat) (zs : List S28), i + d = m → zs.length + d ≤ 100 → Evn (fun k => impl_DiffLegs.l0 k xs ys zs (m : Int) (m : Int) (i : Int)) (finD (zs ++ (chg xs ys d i ++ (rmv xs m (xs.length - m) ++ adn ys (ys.length - m) m)))) := by
  intro d
  induction d with
  | zero =>
    intro i zs h hz
    have h1 : ¬ (i : Int) < (m : Int) := by omega
    have hw : wrap64 ((xs.length : Int) - 1) = (xs.length : Int) - 1 := wrap_id (by omega) (by omega)
    refine Evn.step ?_
    simp only [impl_DiffLegs.l0, if_neg h1, hw, chg, List.nil_append]
    clear hw
    exact im_Diff_l1 xs ys hx hy m (by omega) (xs.length - m) ((xs.length : Int) - 1) zs (by omega) (by omega) (by omega)
  | succ d ih =>
    intro i zs h hz
    have h0 : (i : Int) < (m : Int) := by omega
    have h1 : (i : Int) < (xs.length : Int) := by omega
    have h2 : (i : Int) < (ys.length : Int) := by omega
    have h3 : 0 ≤ (i : Int) := by omega
    have hw := wrap_succ (show i < 4611686018427387904 by omega)
    refine Evn.step ?_
    simp only [impl_DiffLegs.l0, if_pos h0, if_pos h1, if_pos h2, if_pos h3, hw, rd_T26, Int.toNat_natCast]
    clear hw
    have ec : ∀ b : Bool, neqL (xs.getD i z26) (ys.getD i z26) = b → chg xs ys (d + 1) i = if b = true then (⟨3, i, xs.getD i z26, ys.getD i z26⟩ : S28) :: chg xs ys d (i + 1) else chg xs ys d (i + 1) := by
      intro b hb
      rw [← hb]
      rfl
    refine Evn.ite (fun c => ?_) (fun c => ?_)
    · rw [ec true c, if_pos rfl]
      refine Evn.ite (fun _ => ?_) (fun c2 => absurd (by omega) c2)
      have h5 := ih (i + 1) (zs ++ [(⟨3, i, xs.getD i z26, ys.getD i z26⟩ : S28)]) (by omega) (by rw [List.length_append, List.length_singleton]; omega)
      rw [List.append_assoc] at h5
      exact h5
    · rw [ec false (Bool.eq_false_iff.mpr c), if_neg (by decide)]
      exact ih (i + 1) zs (by omega) (by omega)
theorem im_DiffLegs (xs ys : List S26) (hx : xs.length ≤ 4194304) (hy : ys.length ≤ 4194304) : Evn (fun k => impl_DiffLegs.f k xs ys) (diffTs xs ys) := by
  have no : ¬ (goodLegs xs = true ∧ goodLegs ys = true) → Evn (fun k => impl_DiffLegs.j0 k xs ys true) (diffTs xs ys) := by
    intro h
    unfold diffTs
    rw [if_neg h]
    refine Evn.step ?_
    simp only [impl_DiffLegs.j0, if_true]
    exact Evn.done _
  unfold impl_DiffLegs.f
  refine Evn.bind (im_areLegs xs hx) ?_
  refine Evn.ite (fun c1 => ?_) (fun c1 => no (fun h => c1 h.1))
  refine Evn.bind (im_areLegs ys hy) ?_
  by_cases c2 : goodLegs ys = true
  · rw [c2, Bool.not_true]
    refine Evn.step ?_
    simp only [impl_DiffLegs.j0, Bool.false_eq_true, if_false, mn_nat]
    unfold diffTs
    rw [if_pos ⟨c1, c2⟩]
    have l1 := goodLegs_len c1
    have l2 := goodLegs_len c2
    exact im_Diff_l0 xs ys l1 l2 (min xs.length ys.length) rfl (min xs.length ys.length) 0 [] (by omega) (by simp only [List.length_nil]; omega)
  · rw [Bool.eq_false_iff.mpr c2, Bool.not_false]
    exact no (fun h => c2 h.2)

-- laws_eqLeg: as it stands

-- laws_eqEdit: as it stands

theorem ev_eqEditS_l0 (xs : List S28) (hx : xs.length ≤ 4194304) : ∀ (d i : Nat), i + d = xs.length → Evn (fun k => laws_eqEditS.l0 k xs xs (i : Int)) true := by
  intro d
  induction d with
  | zero =>
    intro i h
    refine Evn.step ?_
    have h1 : ¬ (i : Int) < (xs.length : Int) := by omega
    simp only [laws_eqEditS.l0, if_neg h1]
    exact Evn.done _
  | succ d ih =>
    intro i h
    refine Evn.step ?_
    have h1 : (i : Int) < (xs.length : Int) := by omega
    have h2 : 0 ≤ (i : Int) := by omega
    simp only [laws_eqEditS.l0, laws_eqEdit.f, laws_eqLeg.f, if_pos h1, if_pos h2, Option.bind_some, if_true, wrap_succ (show i < 4611686018427387904 by omega)]
    exact ih (i + 1) (by omega)
theorem ev_eqEditS (xs : List S28) (hx : xs.length ≤ 4194304) : Evn (fun k => laws_eqEditS.f k xs xs) true := by
  simp only [laws_eqEditS.f, if_true]
  exact ev_eqEditS_l0 xs hx xs.length 0 (by omega)

theorem ev_eqLegS_l0 (xs : List S26) (hx : xs.length ≤ 4194304) : ∀ (d i : Nat), i + d = xs.length → Evn (fun k => laws_eqLegS.l0 k xs xs (i : Int)) true := by
  intro d
  induction d with
  | zero =>
    intro i h
    refine Evn.step ?_
    have h1 : ¬ (i : Int) < (xs.length : Int) := by omega
    simp only [laws_eqLegS.l0, if_neg h1]
    exact Evn.done _
  | succ d ih =>
    intro i h
    refine Evn.step ?_
    have h1 : (i : Int) < (xs.length : Int) := by omega
    have h2 : 0 ≤ (i : Int) := by omega
    simp only [laws_eqLegS.l0, laws_eqLeg.f, if_pos h1, if_pos h2, Option.bind_some, if_true, wrap_succ (show i < 4611686018427387904 by omega)]
    exact ih (i + 1) (by omega)
theorem ev_eqLegS (xs : List S26) (hx : xs.length ≤ 4194304) : Evn (fun k => laws_eqLegS.f k xs xs) true := by
  simp only [laws_eqLegS.f, if_true]
  exact ev_eqLegS_l0 xs hx xs.length 0 (by omega)

/-! The marks that the law lays: b, b + 1, .. -/
def marksLeg (b : Int) : Nat → List S26
  | 0 => []
  | d + 1 => (⟨b, b + 1, b + 2, b + 3, b + 4⟩ : S26) :: marksLeg (b + 5) d
theorem marksLeg_len (d : Nat) : ∀ b, (marksLeg b d).length = d := by
  induction d with
  | zero => intro b; rfl
  | succ d ih => intro b; simp [marksLeg, ih]
theorem ev_markLegS_l0 (n : Nat) (hn : n ≤ 4194304) : ∀ (d i : Nat) (b : Int) (ys : List S26), i + d = n → ys.length = n → 0 ≤ b → b + 5 * d ≤ 1152921504606846976 → Evn (fun k => laws_markLegS.l0 k ys b (i : Int)) (b + 5 * d, ys.take i ++ marksLeg b d) := by
  intro d
  induction d with
  | zero =>
    intro i b ys h hy h0 hb
    refine Evn.step ?_
    have h1 : ¬ (i : Int) < (ys.length : Int) := by omega
    simp only [laws_markLegS.l0, if_neg h1, marksLeg]
    rw [List.take_of_length_le (by omega)]
    simpa using Evn.done _
  | succ d ih =>
    intro i b ys h hy h0 hb
    refine Evn.step ?_
    have h1 : (i : Int) < (ys.length : Int) := by omega
    have h2 : 0 ≤ (i : Int) := by omega
    have hs : ∀ (zs : List S26) (v : S26), zs.length = ys.length → rd_T26 (zs.set i v) (i : Int) = v := by
      intro zs v hz
      unfold rd_T26
      rw [Int.toNat_natCast, List.getD_eq_getElem?_getD, List.getElem?_set_self (by omega)]
      rfl
    have hk := ih (i + 1) (b + 5) (ys.set i ⟨b, b + 1, b + 2, b + 3, b + 4⟩) (by omega) (by simpa using hy) (by omega) (by omega)
    have e1 : wrap64 (b + 1) = b + 1 := by rw [wrap_id (by omega) (by omega)]
    have e2 : wrap64 (b + 1 + 1) = b + 2 := by rw [wrap_id (by omega) (by omega)]; omega
    have e3 : wrap64 (b + 2 + 1) = b + 3 := by rw [wrap_id (by omega) (by omega)]; omega
    have e4 : wrap64 (b + 3 + 1) = b + 4 := by rw [wrap_id (by omega) (by omega)]; omega
    have e5 : wrap64 (b + 4 + 1) = b + 5 := by rw [wrap_id (by omega) (by omega)]; omega
    simp only [laws_markLegS.l0, if_pos h1, if_pos h2, Option.bind_some, Int.toNat_natCast, hs, List.length_set, List.set_set, e1, e2, e3, e4, e5, wrap_succ (show i < 4611686018427387904 from Nat.lt_of_lt_of_le (show i < 4194304 + 1 by omega) (by decide))]
    refine hk.eq_ ?_
    rw [set_take _ _ _ (by omega), marksLeg, List.append_assoc]
    simp only [List.cons_append, List.nil_append, Prod.mk.injEq, and_true]
    omega
theorem ev_markLegS (ys : List S26) (a : Int) (ha : 0 ≤ a) (ha2 : a ≤ 1099511627776) (hn : ys.length ≤ 4194304) : Evn (fun k => laws_markLegS.f k ys a) (a + 5 * ys.length, marksLeg a ys.length) := by
  have h := ev_markLegS_l0 ys.length hn ys.length 0 a ys (by omega) rfl ha (by omega)
  simpa [laws_markLegS.f] using h

/-! The marks that the law lays: b, b + 1, .. -/
def marksEdit (b : Int) : Nat → List S28
  | 0 => []
  | d + 1 => (⟨b, b + 1, ⟨b + 2, b + 3, b + 4, b + 5, b + 6⟩, ⟨b + 7, b + 8, b + 9, b + 10, b + 11⟩⟩ : S28) :: marksEdit (b + 12) d
theorem marksEdit_len (d : Nat) : ∀ b, (marksEdit b d).length = d := by
  induction d with
  | zero => intro b; rfl
  | succ d ih => intro b; simp [marksEdit, ih]
theorem ev_markEditS_l0 (n : Nat) (hn : n ≤ 4194304) : ∀ (d i : Nat) (b : Int) (ys : List S28), i + d = n → ys.length = n → 0 ≤ b → b + 12 * d ≤ 1152921504606846976 → Evn (fun k => laws_markEditS.l0 k ys b (i : Int)) (b + 12 * d, ys.take i ++ marksEdit b d) := by
  intro d
  induction d with
  | zero =>
    intro i b ys h hy h0 hb
    refine Evn.step ?_
    have h1 : ¬ (i : Int) < (ys.length : Int) := by omega
    simp only [laws_markEditS.l0, if_neg h1, marksEdit]
    rw [List.take_of_length_le (by omega)]
    simpa using Evn.done _
  | succ d ih =>
    intro i b ys h hy h0 hb
    refine Evn.step ?_
    have h1 : (i : Int) < (ys.length : Int) := by omega
    have h2 : 0 ≤ (i : Int) := by omega
    have hs : ∀ (zs : List S28) (v : S28), zs.length = ys.length → rd_T28 (zs.set i v) (i : Int) = v := by
      intro zs v hz
      unfold rd_T28
      rw [Int.toNat_natCast, List.getD_eq_getElem?_getD, List.getElem?_set_self (by omega)]
      rfl
    have hk := ih (i + 1) (b + 12) (ys.set i ⟨b, b + 1, ⟨b + 2, b + 3, b + 4, b + 5, b + 6⟩, ⟨b + 7, b + 8, b + 9, b + 10, b + 11⟩⟩) (by omega) (by simpa using hy) (by omega) (by omega)
    have e1 : wrap64 (b + 1) = b + 1 := by rw [wrap_id (by omega) (by omega)]
    have e2 : wrap64 (b + 1 + 1) = b + 2 := by rw [wrap_id (by omega) (by omega)]; omega
    have e3 : wrap64 (b + 2 + 1) = b + 3 := by rw [wrap_id (by omega) (by omega)]; omega
    have e4 : wrap64 (b + 3 + 1) = b + 4 := by rw [wrap_id (by omega) (by omega)]; omega
    have e5 : wrap64 (b + 4 + 1) = b + 5 := by rw [wrap_id (by omega) (by omega)]; omega
    have e6 : wrap64 (b + 5 + 1) = b + 6 := by rw [wrap_id (by omega) (by omega)]; omega
    have e7 : wrap64 (b + 6 + 1) = b + 7 := by rw [wrap_id (by omega) (by omega)]; omega
    have e8 : wrap64 (b + 7 + 1) = b + 8 := by rw [wrap_id (by omega) (by omega)]; omega
    have e9 : wrap64 (b + 8 + 1) = b + 9 := by rw [wrap_id (by omega) (by omega)]; omega
    have e10 : wrap64 (b + 9 + 1) = b + 10 := by rw [wrap_id (by omega) (by omega)]; omega
    have e11 : wrap64 (b + 10 + 1) = b + 11 := by rw [wrap_id (by omega) (by omega)]; omega
    have e12 : wrap64 (b + 11 + 1) = b + 12 := by rw [wrap_id (by omega) (by omega)]; omega
    simp only [laws_markEditS.l0, if_pos h1, if_pos h2, Option.bind_some, Int.toNat_natCast, hs, List.length_set, List.set_set, e1, e2, e3, e4, e5, e6, e7, e8, e9, e10, e11, e12, wrap_succ (show i < 4611686018427387904 from Nat.lt_of_lt_of_le (show i < 4194304 + 1 by omega) (by decide))]
    refine hk.eq_ ?_
    rw [set_take _ _ _ (by omega), marksEdit, List.append_assoc]
    simp only [List.cons_append, List.nil_append, Prod.mk.injEq, and_true]
    omega
theorem ev_markEditS (ys : List S28) (a : Int) (ha : 0 ≤ a) (ha2 : a ≤ 1099511627776) (hn : ys.length ≤ 4194304) : Evn (fun k => laws_markEditS.f k ys a) (a + 12 * ys.length, marksEdit a ys.length) := by
  have h := ev_markEditS_l0 ys.length hn ys.length 0 a ys (by omega) rfl ha (by omega)
  simpa [laws_markEditS.f] using h

theorem ev_heldEditS_l0 (n : Nat) (hn : n ≤ 4194304) : ∀ (d i : Nat) (b : Int) (ys : List S28), i + d = n → ys.length = n → ys.drop i = marksEdit b d → 0 ≤ b → b + 12 * d ≤ 1152921504606846976 → Evn (fun k => laws_heldEditS.l0 k ys b (i : Int)) (b + 12 * d) := by
  intro d
  induction d with
  | zero =>
    intro i b ys h hy hd h0 hb
    refine Evn.step ?_
    have h1 : ¬ (i : Int) < (ys.length : Int) := by omega
    simp only [laws_heldEditS.l0, if_neg h1]
    simpa using Evn.done _
  | succ d ih =>
    intro i b ys h hy hd h0 hb
    refine Evn.step ?_
    have h1 : (i : Int) < (ys.length : Int) := by omega
    have h2 : 0 ≤ (i : Int) := by omega
    rw [getD_drop ys i z28 (by omega), marksEdit] at hd
    injection hd with hd1 hd2
    have hr : rd_T28 ys (i : Int) = ⟨b, b + 1, ⟨b + 2, b + 3, b + 4, b + 5, b + 6⟩, ⟨b + 7, b + 8, b + 9, b + 10, b + 11⟩⟩ := by unfold rd_T28; rw [Int.toNat_natCast]; exact hd1
    have hk := ih (i + 1) (b + 12) ys (by omega) hy hd2 (by omega) (by omega)
    have e1 : wrap64 (b + 1) = b + 1 := by rw [wrap_id (by omega) (by omega)]
    have e2 : wrap64 (b + 1 + 1) = b + 2 := by rw [wrap_id (by omega) (by omega)]; omega
    have e3 : wrap64 (b + 2 + 1) = b + 3 := by rw [wrap_id (by omega) (by omega)]; omega
    have e4 : wrap64 (b + 3 + 1) = b + 4 := by rw [wrap_id (by omega) (by omega)]; omega
    have e5 : wrap64 (b + 4 + 1) = b + 5 := by rw [wrap_id (by omega) (by omega)]; omega
    have e6 : wrap64 (b + 5 + 1) = b + 6 := by rw [wrap_id (by omega) (by omega)]; omega
    have e7 : wrap64 (b + 6 + 1) = b + 7 := by rw [wrap_id (by omega) (by omega)]; omega
    have e8 : wrap64 (b + 7 + 1) = b + 8 := by rw [wrap_id (by omega) (by omega)]; omega
    have e9 : wrap64 (b + 8 + 1) = b + 9 := by rw [wrap_id (by omega) (by omega)]; omega
    have e10 : wrap64 (b + 9 + 1) = b + 10 := by rw [wrap_id (by omega) (by omega)]; omega
    have e11 : wrap64 (b + 10 + 1) = b + 11 := by rw [wrap_id (by omega) (by omega)]; omega
    have e12 : wrap64 (b + 11 + 1) = b + 12 := by rw [wrap_id (by omega) (by omega)]; omega
    simp only [laws_heldEditS.l0, if_pos h1, if_pos h2, hr, e1, e2, e3, e4, e5, e6, e7, e8, e9, e10, e11, e12, if_true, wrap_succ (show i < 4611686018427387904 from Nat.lt_of_lt_of_le (show i < 4194304 + 1 by omega) (by decide))]
    refine hk.eq_ ?_
    clear e1 e2 e3 e4 e5 e6 e7 e8 e9 e10 e11 e12
    omega
theorem ev_heldEditS (n : Nat) (a : Int) (ha : 0 ≤ a) (ha2 : a ≤ 1099511627776) (hn : n ≤ 4194304) : Evn (fun k => laws_heldEditS.f k (marksEdit a n) a) (a + 12 * n) := by
  have h := ev_heldEditS_l0 n hn n 0 a (marksEdit a n) (by omega) (marksEdit_len n a) rfl ha (by omega)
  simpa [laws_heldEditS.f] using h

theorem FnExactDiffLegs : ∀ (l0 : List (S23)) (l1 : List (S23)), l0.length ≤ maxLen → (∀ x ∈ l0, (Lit.int .i64 x.f0).wf = true ∧ (Lit.int .i64 x.f1).wf = true ∧ (Lit.int .i64 x.f2).wf = true ∧ (Lit.int .i64 x.f3).wf = true ∧ (Lit.int .i64 x.f4).wf = true) → l1.length ≤ maxLen → (∀ x ∈ l1, (Lit.int .i64 x.f0).wf = true ∧ (Lit.int .i64 x.f1).wf = true ∧ (Lit.int .i64 x.f2).wf = true ∧ (Lit.int .i64 x.f3).wf = true ∧ (Lit.int .i64 x.f4).wf = true) → ∃ k, laws_FnExactDiffLegs.f k l0 l1 = some true := by
  intro l m hl _ hm _
  apply Evn.get
  unfold laws_FnExactDiffLegs.f
  simp only [ev_szLegS, Option.bind_some]
  refine Evn.ite (fun _ => Evn.done _) (fun h => ?_)
  have hx : l.length ≤ 1048576 := by unfold maxLen at hl; unfold wrap64 at h; split at h <;> omega
  have e1 : (if wrap64 (1048576 - (l.length : Int)) < 0 then -1 else wrap64 (1048576 - (l.length : Int))) = 1048576 - (l.length : Int) := by rw [wrap_id (by omega) (by omega), if_neg (by omega)]
  rw [e1]
  refine Evn.ite (fun _ => Evn.done _) (fun h2 => ?_)
  have hy : m.length ≤ 1048576 := by unfold maxLen at hl hm; unfold wrap64 at h2; split at h2 <;> omega
  clear h2 e1
  have hx' : (l.map convLeg).length ≤ 4194304 := by rw [List.length_map]; omega
  have hy' : (m.map convLeg).length ≤ 4194304 := by rw [List.length_map]; omega
  clear h hl hm
  have hs := sp_DiffLegs (l.map convLeg) (m.map convLeg) hx' hy'
  have hi := im_DiffLegs (l.map convLeg) (m.map convLeg) hx' hy'
  have hr := diffTs_len (l.map convLeg) (m.map convLeg)
  generalize diffTs (l.map convLeg) (m.map convLeg) = r at hs hi hr
  generalize hL : l.map convLeg = L at hs hi hx'
  generalize hM : m.map convLeg = M at hs hi hy'
  have hto : Evn (fun k => laws_toLegS.f k l) L := hL ▸ ev_toLegS l hx
  have hto2 : Evn (fun k => laws_toLegS.f k m) M := hM ▸ ev_toLegS m hy
  repeat (first
    | exact Evn.done _
    | simp only [if_true, bne_self_eq_false, Bool.false_eq_true, if_false]
    | refine Evn.bind hto ?_
    | refine Evn.bind hto2 ?_
    | refine Evn.bind hs ?_
    | refine Evn.bind hi ?_
    | refine Evn.bind (ev_toLegS _ (by assumption)) ?_
    | refine Evn.bind (ev_toEditS _ (by assumption)) ?_
    | refine Evn.bind (ev_eqLegS _ (by assumption)) ?_
    | refine Evn.bind (ev_eqEditS _ (by assumption)) ?_
    | refine Evn.bind (ev_markLegS _ _ (by omega) (by omega) (by first | assumption | omega)) ?_
    | refine Evn.bind (ev_heldLegS _ _ (by omega) (by omega) (by first | assumption | omega)) ?_
    | refine Evn.bind (ev_markEditS _ _ (by omega) (by omega) (by first | assumption | omega)) ?_
    | refine Evn.bind (ev_heldEditS _ _ (by omega) (by omega) (by first | assumption | omega)) ?_
    | refine Evn.ite (fun h_ => absurd h_ (by first | omega | decide)) (fun _ => ?_)
    | refine Evn.ite (fun _ => ?_) (fun h_ => absurd (by first | rfl | omega) h_)
    | dsimp only
    | (refine Evn.step ?_; simp only [laws_FnExactDiffLegs.j0])
    | (refine Evn.step ?_; simp only [laws_FnExactDiffLegs.j1])
    | (refine Evn.step ?_; simp only [laws_FnExactDiffLegs.j2]))

end Go.Proofs.Ytinelmmnajelaaa.Pure
