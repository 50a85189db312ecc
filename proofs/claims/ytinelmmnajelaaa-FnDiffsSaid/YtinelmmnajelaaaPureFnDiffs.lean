/- The plain statement of FnDiffs: its plain function returns true at every input. No condition beyond the arguments' own bounds. -/
import Derived.Test.YtinelmmnajelaaaQFnDiffsx19
import Derived.Test.YtinelmmnajelaaaVDAid
namespace Go.Proofs.Ytinelmmnajelaaa.Pure
open Go.RowKit Go.Proofs.YtinelmmnajelaaaW.PrintWords Go.Proofs.YtinelmmnajelaaaW.PrintLast Go.Proofs.Ytinelmmnajelaaa.Aid Go.Proofs.Ytinelmmnajelaaa.QFnDiffs
set_option linter.unusedVariables false
set_option linter.unusedSimpArgs false

theorem sp_l1In (x y z : Int) : spec_l1In.f x y z = some (decide (y ≤ x ∧ x ≤ z)) := by
  unfold spec_l1In.f
  by_cases h : x ≥ y <;> simp [h] <;> omega

theorem sp_l4Station (x : Int) : spec_l4Station.f x = some (decide (0 ≤ x ∧ x ≤ 7)) := by
  simp only [spec_l4Station.f, sp_l1In, Option.bind_some]

/-! A leg's rules. -/
def okLeg (x : S26) : Bool := decide (0 ≤ x.f0 ∧ x.f0 ≤ 7) && (decide (0 ≤ x.f1 ∧ x.f1 ≤ 7) && (!decide (x.f0 = x.f1) && (decide (1 ≤ x.f2 ∧ x.f2 ≤ 500) && (decide (0 ≤ x.f3 ∧ x.f3 ≤ 359) && decide (-90 ≤ x.f4 ∧ x.f4 ≤ 90)))))
def goodLegs (xs : List S26) : Bool := xs.all okLeg && decide (xs.length ≤ 12)
theorem goodLegs_len {xs : List S26} (h : goodLegs xs = true) : xs.length ≤ 12 := by
  simp only [goodLegs, Bool.and_eq_true, decide_eq_true_eq] at h
  exact h.2
theorem goodLegs_ok {xs : List S26} (h : goodLegs xs = true) (j : Nat) (hj : j < xs.length) : okLeg (xs.getD j z26) = true := by
  simp only [goodLegs, Bool.and_eq_true, List.all_eq_true] at h
  refine h.1 _ ?_
  rw [List.getD_eq_getElem?_getD, List.getElem?_eq_getElem hj]
  exact List.getElem_mem hj
theorem okLeg_in {x : S26} (h : okLeg x = true) : (0 ≤ x.f0 ∧ x.f0 ≤ 7) ∧ (0 ≤ x.f1 ∧ x.f1 ≤ 7) ∧ ¬ x.f0 = x.f1 ∧ (1 ≤ x.f2 ∧ x.f2 ≤ 500) ∧ (0 ≤ x.f3 ∧ x.f3 ≤ 359) ∧ (-90 ≤ x.f4 ∧ x.f4 ≤ 90) := by
  simp only [okLeg, Bool.and_eq_true, decide_eq_true_eq, Bool.not_eq_true', decide_eq_false_iff_not] at h
  exact h
theorem ite_not (c : Prop) [Decidable c] (x : Bool) : (if c then some false else some x) = some (!decide c && x) := by
  by_cases h : c <;> simp [h]

theorem sp_l4Leg (x : S26) : spec_l4Leg.f x.f0 x.f1 x.f2 x.f3 x.f4 = some (okLeg x) := by
  simp only [spec_l4Leg.f, sp_l4Station, spec_l2Bearing.f, sp_l1In, Option.bind_some, ite_and, ite_not, okLeg]

theorem sp_l4Legs_l0 (xs : List S26) (hx : xs.length ≤ 4194304) : ∀ (d i : Nat), i + d = xs.length → Evn (fun k => spec_l4Legs.l0 k xs (i : Int)) ((xs.drop i).all okLeg && decide (xs.length ≤ 12)) := by
  intro d
  induction d with
  | zero =>
    intro i h
    refine Evn.step ?_
    have h1 : ¬ (i : Int) < (xs.length : Int) := by omega
    simp only [spec_l4Legs.l0, if_neg h1]
    rw [List.drop_eq_nil_of_le (by omega)]
    refine (Evn.done _).eq_ ?_
    simp only [List.all_nil, Bool.true_and, decide_eq_decide]
    omega
  | succ d ih =>
    intro i h
    refine Evn.step ?_
    have h1 : (i : Int) < (xs.length : Int) := by omega
    have h2 : 0 ≤ (i : Int) := by omega
    simp only [spec_l4Legs.l0, if_pos h1, if_pos h2, sp_l4Leg, Option.bind_some, wrap_succ (show i < 4611686018427387904 by omega), rd_T26, Int.toNat_natCast]
    rw [getD_drop xs i z26 (by omega), List.all_cons]
    exact Evn.ite (fun c => (ih (i + 1) (by omega)).eq_ (by simp only [c, Bool.true_and])) (fun c => (Evn.done _).eq_ (by simp only [Bool.eq_false_iff.mpr c, Bool.false_and]))
theorem sp_l4Legs (xs : List S26) (hx : xs.length ≤ 4194304) : Evn (fun k => spec_l4Legs.f k xs) (goodLegs xs) := by
  have h := sp_l4Legs_l0 xs hx xs.length 0 (by omega)
  simpa [spec_l4Legs.f, goodLegs] using h

def neqL (x y : S26) : Bool := !(x.f0 == y.f0) || (!(x.f1 == y.f1) || (!(x.f2 == y.f2) || (!(x.f3 == y.f3) || (!(x.f4 == y.f4)))))

/-! The difference of two lists of legs. -/
def chg (xs ys : List S26) : Nat → Nat → List S28
  | 0, _ => []
  | d + 1, i => if neqL (xs.getD i z26) (ys.getD i z26) = true then (⟨3, i, xs.getD i z26, ys.getD i z26⟩ : S28) :: chg xs ys d (i + 1) else chg xs ys d (i + 1)
def rmv (xs : List S26) (c : Nat) : Nat → List S28
  | 0 => []
  | d + 1 => (⟨2, ((c + d : Nat) : Int), xs.getD (c + d) z26, ⟨0, 0, 0, 0, 0⟩⟩ : S28) :: rmv xs c d
def adn (ys : List S26) : Nat → Nat → List S28
  | 0, _ => []
  | d + 1, i => (⟨1, i, ⟨0, 0, 0, 0, 0⟩, ys.getD i z26⟩ : S28) :: adn ys d (i + 1)
theorem chg_len (xs ys : List S26) : ∀ d i, (chg xs ys d i).length ≤ d := by
  intro d
  induction d with
  | zero => intro i; simp [chg]
  | succ d ih =>
    intro i
    have := ih (i + 1)
    unfold chg
    split
    · rw [List.length_cons]; omega
    · omega
theorem rmv_len (xs : List S26) (c : Nat) : ∀ d, (rmv xs c d).length = d := by
  intro d
  induction d with
  | zero => rfl
  | succ d ih => rw [rmv, List.length_cons, ih]
theorem adn_len (ys : List S26) : ∀ d i, (adn ys d i).length = d := by
  intro d
  induction d with
  | zero => intro i; rfl
  | succ d ih => intro i; rw [adn, List.length_cons, ih]
def finD (l : List S28) : List S28 × Bool := if (l.length : Int) > 10 then ([], false) else (l, true)
def diffL (xs ys : List S26) : List S28 := chg xs ys (min xs.length ys.length) 0 ++ (rmv xs (min xs.length ys.length) (xs.length - min xs.length ys.length) ++ adn ys (ys.length - min xs.length ys.length) (min xs.length ys.length))
def diffTs (xs ys : List S26) : List S28 × Bool := if goodLegs xs = true ∧ goodLegs ys = true then finD (diffL xs ys) else ([], false)
theorem diffTs_len (xs ys : List S26) : (diffTs xs ys).1.length ≤ 4194304 := by
  unfold diffTs
  split
  · unfold finD
    split
    · simp
    · dsimp only; omega
  · simp
theorem mn_nat (a b : Nat) : mn (a : Int) (b : Int) = ((min a b : Nat) : Int) := by
  unfold mn
  split <;> omega

theorem sp_Diff_l2 (ys : List S26) : ∀ (d i : Nat) (zs : List S28), d = ys.length - i → i ≤ 1000 → ys.length ≤ 1000 → zs.length + d ≤ 100000 → Evn (fun k => spec_DiffLegs.l2 k ys zs (i : Int)) (finD (zs ++ adn ys d i)) := by
  intro d
  induction d with
  | zero =>
    intro i zs h hi hy hz
    refine Evn.step ?_
    have h1 : ¬ (i : Int) < (ys.length : Int) := by omega
    simp only [spec_DiffLegs.l2, if_neg h1, adn, List.append_nil]
    unfold finD
    exact Evn.ite (fun c => by rw [if_pos c]; exact Evn.done _) (fun c => by rw [if_neg c]; exact Evn.done _)
  | succ d ih =>
    intro i zs h hi hy hz
    have h1 : (i : Int) < (ys.length : Int) := by omega
    have h2 : 0 ≤ (i : Int) := by omega
    have hw := wrap_succ (show i < 4611686018427387904 by omega)
    refine Evn.step ?_
    simp only [spec_DiffLegs.l2, if_pos h1, if_pos h2, hw, rd_T26, Int.toNat_natCast, adn]
    clear hw
    refine Evn.ite (fun _ => ?_) (fun c2 => absurd (by omega) c2)
    have h5 := ih (i + 1) (zs ++ [(⟨1, i, ⟨0, 0, 0, 0, 0⟩, ys.getD i z26⟩ : S28)]) (by omega) (by omega) hy (by rw [List.length_append, List.length_singleton]; omega)
    rw [List.append_assoc] at h5
    exact h5
theorem sp_Diff_l1 (xs ys : List S26) (hx : xs.length ≤ 12) (hy : ys.length ≤ 12) : ∀ (d : Nat) (x8 : Int) (zs : List S28), x8 = ((ys.length + d : Nat) : Int) - 1 → ys.length + d ≤ xs.length → zs.length + d ≤ 1000 → Evn (fun k => spec_DiffLegs.l1 k xs ys zs x8) (finD (zs ++ (rmv xs ys.length d ++ adn ys (ys.length - xs.length) xs.length))) := by
  intro d
  induction d with
  | zero =>
    intro x8 zs h8 hd hz
    refine Evn.step ?_
    have h1 : ¬ x8 ≥ (ys.length : Int) := by omega
    simp only [spec_DiffLegs.l1, if_neg h1, rmv, List.nil_append]
    exact sp_Diff_l2 ys _ xs.length zs rfl (by omega) (by omega) (by omega)
  | succ d ih =>
    intro x8 zs h8 hd hz
    have h8' : x8 = ((ys.length + d : Nat) : Int) := by omega
    have h1 : x8 ≥ (ys.length : Int) := by omega
    have h2 : 0 ≤ x8 := by omega
    have h3 : x8 < (xs.length : Int) := by omega
    have hw : wrap64 (x8 - 1) = x8 - 1 := wrap_id (by omega) (by omega)
    refine Evn.step ?_
    simp only [spec_DiffLegs.l1, if_pos h1, if_pos h2, if_pos h3, hw, rmv]
    clear hw
    refine Evn.ite (fun _ => ?_) (fun c2 => absurd (by omega) c2)
    have h5 := ih (x8 - 1) (zs ++ [(⟨2, x8, rd_T26 xs x8, ⟨0, 0, 0, 0, 0⟩⟩ : S28)]) (by omega) (by omega) (by rw [List.length_append, List.length_singleton]; omega)
    rw [List.append_assoc] at h5
    have e : rd_T26 xs x8 = xs.getD (ys.length + d) z26 := by rw [h8']; unfold rd_T26; rw [Int.toNat_natCast]
    rw [e, h8'] at h5
    rw [← h8'] at h5 ⊢
    simp only [e]
    exact h5
theorem sp_Diff_tail (xs ys : List S26) (hx : xs.length ≤ 12) (hy : ys.length ≤ 12) (zs : List S28) (hz : zs.length ≤ 100) : Evn (fun k => spec_DiffLegs.l1 k xs ys zs (wrap64 ((xs.length : Int) - 1))) (finD (zs ++ (rmv xs (min xs.length ys.length) (xs.length - min xs.length ys.length) ++ adn ys (ys.length - min xs.length ys.length) (min xs.length ys.length)))) := by
  have hw : wrap64 ((xs.length : Int) - 1) = (xs.length : Int) - 1 := wrap_id (by omega) (by omega)
  rw [hw]
  clear hw
  rcases Nat.le_total ys.length xs.length with hc | hc
  · have h := sp_Diff_l1 xs ys hx hy (xs.length - ys.length) ((xs.length : Int) - 1) zs (by omega) (by omega) (by omega)
    rw [Nat.min_eq_right hc]
    have e1 : ys.length - xs.length = 0 := by omega
    have e2 : ys.length - ys.length = 0 := by omega
    rw [e1] at h
    rw [e2]
    exact h
  · rw [Nat.min_eq_left hc, Nat.sub_self]
    refine Evn.step ?_
    have h1 : ¬ (xs.length : Int) - 1 ≥ (ys.length : Int) := by omega
    simp only [spec_DiffLegs.l1, if_neg h1, rmv, List.nil_append]
    exact sp_Diff_l2 ys _ xs.length zs rfl (by omega) (by omega) (by omega)
theorem sp_Diff_l0 (xs ys : List S26) (hx : xs.length ≤ 12) (hy : ys.length ≤ 12) : ∀ (d i : Nat) (zs : List S28), i + d = min xs.length ys.length → zs.length + d ≤ 100 → Evn (fun k => spec_DiffLegs.l0 k xs ys zs (i : Int)) (finD (zs ++ (chg xs ys d i ++ (rmv xs (min xs.length ys.length) (xs.length - min xs.length ys.length) ++ adn ys (ys.length - min xs.length ys.length) (min xs.length ys.length))))) := by
  intro d
  induction d with
  | zero =>
    intro i zs h hz
    have hj : Evn (fun k => spec_DiffLegs.j2 k xs ys zs (i : Int) false) (finD (zs ++ (chg xs ys 0 i ++ (rmv xs (min xs.length ys.length) (xs.length - min xs.length ys.length) ++ adn ys (ys.length - min xs.length ys.length) (min xs.length ys.length))))) := by
      refine Evn.step ?_
      simp only [spec_DiffLegs.j2, Bool.false_eq_true, if_false, chg, List.nil_append]
      exact sp_Diff_tail xs ys hx hy zs (by omega)
    refine Evn.step ?_
    simp only [spec_DiffLegs.l0]
    refine Evn.ite (fun c => ?_) (fun _ => hj)
    rw [decide_eq_false (by omega)]
    exact hj
  | succ d ih =>
    intro i zs h hz
    have h1 : (i : Int) < (xs.length : Int) := by omega
    have h2 : (i : Int) < (ys.length : Int) := by omega
    have h3 : 0 ≤ (i : Int) := by omega
    have hw := wrap_succ (show i < 4611686018427387904 by omega)
    refine Evn.step ?_
    simp only [spec_DiffLegs.l0, if_pos h1, decide_eq_true h2]
    refine Evn.step ?_
    simp only [spec_DiffLegs.j2, if_true, if_pos h1, if_pos h2, if_pos h3, hw, rd_T26, Int.toNat_natCast]
    clear hw
    have ec : ∀ b : Bool, neqL (xs.getD i z26) (ys.getD i z26) = b → chg xs ys (d + 1) i = if b = true then (⟨3, i, xs.getD i z26, ys.getD i z26⟩ : S28) :: chg xs ys d (i + 1) else chg xs ys d (i + 1) := by
      intro b hb
      rw [← hb]
      rfl
    refine Evn.ite (fun c => ?_) (fun c => ?_)
    · rw [ec true c, if_pos rfl]
      refine Evn.ite (fun _ => ?_) (fun c2 => absurd (by omega) c2)
      have h5 := ih (i + 1) (zs ++ [(⟨3, i, xs.getD i z26, ys.getD i z26⟩ : S28)]) (by omega) (by rw [List.length_append, List.length_singleton]; omega)
      rw [List.append_assoc] at h5
      exact h5
    · rw [ec false (Bool.eq_false_iff.mpr c), if_neg (by decide)]
      exact ih (i + 1) zs (by omega) (by omega)
theorem sp_DiffLegs (xs ys : List S26) (hx : xs.length ≤ 4194304) (hy : ys.length ≤ 4194304) : Evn (fun k => spec_DiffLegs.f k xs ys) (diffTs xs ys) := by
  have no : ¬ (goodLegs xs = true ∧ goodLegs ys = true) → Evn (fun k => spec_DiffLegs.j0 k xs ys [] true) (diffTs xs ys) := by
    intro h
    unfold diffTs
    rw [if_neg h]
    refine Evn.step ?_
    simp only [spec_DiffLegs.j0, if_true]
    exact Evn.done _
  unfold spec_DiffLegs.f
  simp only [Option.bind_some]
  refine Evn.bind (sp_l4Legs xs hx) ?_
  refine Evn.ite (fun c1 => ?_) (fun c1 => no (fun h => c1 h.1))
  refine Evn.bind (sp_l4Legs ys hy) ?_
  by_cases c2 : goodLegs ys = true
  · rw [c2, Bool.not_true]
    refine Evn.step ?_
    simp only [spec_DiffLegs.j0, Bool.false_eq_true, if_false]
    unfold diffTs
    rw [if_pos ⟨c1, c2⟩]
    have l1 := goodLegs_len c1
    have l2 := goodLegs_len c2
    exact sp_Diff_l0 xs ys l1 l2 (min xs.length ys.length) 0 [] (by omega) (by simp only [List.length_nil]; omega)
  · rw [Bool.eq_false_iff.mpr c2, Bool.not_false]
    exact no (fun h => c2 h.2)

theorem ib_some {b : Bool} : (if b = true then (some true) else (some false)) = some b := by cases b <;> rfl
def zeroB (a b c d e : Int) : Bool := a == 0 && (b == 0 && (c == 0 && (d == 0 && (e == 0))))
def editB (k a : Int) (x y : S26) : Bool :=
  if decide (0 ≤ a ∧ a ≤ 11) = true then
    (if k = 1 then (if zeroB x.f0 x.f1 x.f2 x.f3 x.f4 = true then okLeg y else false)
     else if k = 2 then (if okLeg x = true then zeroB y.f0 y.f1 y.f2 y.f3 y.f4 else false)
     else if k = 3 then (if okLeg x = true then (if okLeg y = true then (!(x.f0 == y.f0) || (!(x.f1 == y.f1) || (!(x.f2 == y.f2) || (!(x.f3 == y.f3) || (!(x.f4 == y.f4)))))) else false) else false)
     else false)
  else false
theorem sp_l19Valid (k a : Int) (x y : S26) : spec_l19Valid.f k a x.f0 x.f1 x.f2 x.f3 x.f4 y.f0 y.f1 y.f2 y.f3 y.f4 = some (editB k a x y) := by
  simp only [spec_l19Valid.f, sp_l4Leg, sp_l1In, Option.bind_some]
  unfold editB zeroB
  repeat' split
  all_goals rfl

/-! An edit made: the legs after it, and whether it's possible. -/
def appL (l : List S26) (k a : Int) (x y : S26) : List S26 × Bool :=
  if editB k a x y = true then
    (if k = 1 then (if a > (l.length : Int) then ([], false) else if l.length = 12 then ([], false) else (l.take a.toNat ++ (y :: l.drop a.toNat), true))
     else (if a ≥ (l.length : Int) then ([], false) else if neqL (l.getD a.toNat z26) x = true then ([], false) else if k = 2 then (l.take a.toNat ++ l.drop (a.toNat + 1), true) else (l.take a.toNat ++ (y :: l.drop (a.toNat + 1)), true)))
  else ([], false)
theorem editB_in {k a : Int} {x y : S26} (h : editB k a x y = true) : (0 ≤ a ∧ a ≤ 11) ∧ (k = 1 ∨ k = 2 ∨ k = 3) := by
  unfold editB at h
  split at h
  · rename_i c
    refine ⟨of_decide_eq_true c, ?_⟩
    split at h
    · left; assumption
    · split at h
      · right; left; assumption
      · split at h
        · right; right; assumption
        · cases h
  · cases h
theorem appL_len {l : List S26} (hl : l.length ≤ 12) (k a : Int) (x y : S26) : (appL l k a x y).1.length ≤ 12 := by
  unfold appL
  split
  · rename_i hE
    have ha := (editB_in hE).1
    split
    · split
      · simp
      · split
        · simp
        · dsimp only
          rw [List.length_append, List.length_cons, List.length_take, List.length_drop]; omega
    · split
      · simp
      · split
        · simp
        · split
          · dsimp only
            rw [List.length_append, List.length_take, List.length_drop]; omega
          · dsimp only
            rw [List.length_append, List.length_cons, List.length_take, List.length_drop]; omega
  · simp

theorem sp_l19Apply (l : List S26) (hl : l.length ≤ 12) (kd a : Int) (x y : S26) :
    ∃ o : List S26, Evn (fun k => spec_l19Apply.f k l kd a x.f0 x.f1 x.f2 x.f3 x.f4 y.f0 y.f1 y.f2 y.f3 y.f4) (o, (appL l kd a x y).2) ∧ ((appL l kd a x y).2 = true → o = (appL l kd a x y).1) := by
  have no : Evn (fun k => spec_l19Apply.j0 k l [] true kd a x.f0 x.f1 x.f2 x.f3 x.f4 y.f0 y.f1 y.f2 y.f3 y.f4) ([], false) := by
    refine Evn.step ?_
    simp only [spec_l19Apply.j0, if_true]
    exact Evn.done _
  unfold spec_l19Apply.f
  simp only [Option.bind_some, sp_l19Valid]
  by_cases hE : editB kd a x y = true
  · obtain ⟨⟨ha0, ha1⟩, hk⟩ := editB_in hE
    have hw : wrap64 (a + 1) = a + 1 := wrap_id (by omega) (by omega)
    have ht : (a + 1).toNat = a.toNat + 1 := by omega
    have h0 : (0 : Int) ≤ a + 1 := by omega
    simp only [hE, if_true]
    unfold appL
    rw [if_pos hE]
    by_cases c1 : a > (l.length : Int)
    · refine ⟨[], ?_, ?_⟩
      · simp only [if_pos c1]
        have e : (if kd = 1 then (([] : List S26), false) else if a ≥ (l.length : Int) then ([], false) else if neqL (l.getD a.toNat z26) x = true then ([], false) else if kd = 2 then (l.take a.toNat ++ l.drop (a.toNat + 1), true) else (l.take a.toNat ++ (y :: l.drop (a.toNat + 1)), true)).2 = false := by
          split
          · rfl
          · rw [if_pos (by omega)]
        rw [e]
        exact no
      · intro h
        rw [if_pos c1, if_pos (show a ≥ (l.length : Int) by omega)] at h
        split at h <;> cases h
    · simp only [if_neg c1]
      have c2 : a ≤ (l.length : Int) := by omega
      have lT : (l.take a.toNat).length = a.toNat := by rw [List.length_take]; omega
      by_cases k1 : kd = 1
      · simp only [if_pos k1]
        refine ⟨l.take a.toNat ++ (y :: l.drop a.toNat), ?_, ?_⟩
        · refine Evn.step ?_
          simp only [spec_l19Apply.j0, Bool.false_eq_true, if_false, if_pos ha0, if_pos c2, Option.bind_some, List.nil_append, List.length_nil, if_pos k1]
          refine Evn.ite (fun _ => ?_) (fun h => absurd (by rw [lT]; omega) h)
          refine Evn.ite (fun _ => ?_) (fun h => absurd (by rw [lT]; omega) h)
          refine Evn.ite (fun _ => ?_) (fun h => absurd (by rw [List.length_append, lT, List.length_drop, List.length_singleton]; omega) h)
          refine (Evn.done _).eq_ ?_
          rw [List.append_assoc, List.singleton_append, List.length_append, List.length_cons, lT, List.length_drop]
          congr 1
          by_cases c3 : l.length = 12
          · rw [if_pos c3]; exact decide_eq_false (by omega)
          · rw [if_neg c3]; exact decide_eq_true (by omega)
        · intro h
          by_cases c3 : l.length = 12
          · rw [if_pos c3] at h; cases h
          · rw [if_neg c3]
      · simp only [if_neg k1]
        by_cases c3 : a = (l.length : Int)
        · refine ⟨[], ?_, ?_⟩
          · simp only [if_pos c3]
            rw [if_pos (show a ≥ (l.length : Int) by omega)]
            exact no
          · intro h
            rw [if_pos (show a ≥ (l.length : Int) by omega)] at h
            cases h
        · have c4 : a < (l.length : Int) := by omega
          have c5 : a + 1 ≤ (l.length : Int) := by omega
          simp only [if_neg c3, if_pos ha0, if_pos c4, if_neg (show ¬ a ≥ (l.length : Int) by omega), rd_T26]
          have eb : ∀ b : Bool, neqL (l.getD a.toNat z26) x = b → Evn (fun k => spec_l19Apply.j0 k l [] b kd a x.f0 x.f1 x.f2 x.f3 x.f4 y.f0 y.f1 y.f2 y.f3 y.f4) (if b = true then ([], false) else if kd = 2 then (l.take a.toNat ++ l.drop (a.toNat + 1), true) else (l.take a.toNat ++ (y :: l.drop (a.toNat + 1)), true)) := by
            intro b hb
            cases b with
            | true => rw [if_pos rfl]; exact no
            | false =>
              rw [if_neg (by decide)]
              refine Evn.step ?_
              simp only [spec_l19Apply.j0, Bool.false_eq_true, if_false, if_pos ha0, if_pos c2, Option.bind_some, List.nil_append, List.length_nil, if_neg k1, hw, if_pos h0, if_pos c5, ht]
              refine Evn.ite (fun _ => ?_) (fun h => absurd (by rw [lT]; omega) h)
              by_cases k2 : kd = 2
              · simp only [if_pos k2]
                refine Evn.ite (fun _ => ?_) (fun h => absurd (by rw [lT, List.length_drop]; omega) h)
                refine (Evn.done _).eq_ ?_
                rw [List.length_append, lT, List.length_drop]
                congr 1
                exact decide_eq_true (by omega)
              · simp only [if_neg k2]
                refine Evn.ite (fun _ => ?_) (fun h => absurd (by rw [lT]; omega) h)
                refine Evn.ite (fun _ => ?_) (fun h => absurd (by rw [List.length_append, lT, List.length_drop, List.length_singleton]; omega) h)
                refine (Evn.done _).eq_ ?_
                rw [List.append_assoc, List.singleton_append, List.length_append, List.length_cons, lT, List.length_drop]
                congr 1
                exact decide_eq_true (by omega)
          refine ⟨_, eb _ rfl, fun _ => rfl⟩
  · refine ⟨[], ?_, ?_⟩
    · have e : (appL l kd a x y).2 = false := by unfold appL; rw [if_neg hE]
      rw [e]
      simp only [if_neg hE]
      exact no
    · intro h
      unfold appL at h
      rw [if_neg hE] at h
      cases h

/-! Histories: the legs after all edits; all versions. -/
def apE (l : List S26) (e : S28) : List S26 × Bool := appL l e.f0 e.f1 e.f2 e.f3
def runB : List S26 → List S28 → List S26 × Bool
  | l, [] => (l, true)
  | l, e :: es => if (apE l e).2 = true then runB (apE l e).1 es else ([], false)
def versL : List S26 → List S28 → List (List S26)
  | l, [] => [l]
  | l, e :: es => l :: versL (apE l e).1 es
def goodH (l : List S26) (hs : List S28) : Bool := goodLegs l && (decide (hs.length ≤ 10) && (runB l hs).2)
theorem goodH_in {l : List S26} {hs : List S28} (h : goodH l hs = true) : goodLegs l = true ∧ hs.length ≤ 10 ∧ (runB l hs).2 = true := by
  simp only [goodH, Bool.and_eq_true, decide_eq_true_eq] at h
  exact h
theorem apE_len {l : List S26} (hl : l.length ≤ 12) (e : S28) : (apE l e).1.length ≤ 12 := appL_len hl _ _ _ _
theorem runB_len : ∀ (hs : List S28) (l : List S26), l.length ≤ 12 → (runB l hs).1.length ≤ 12
  | [], l, h => h
  | e :: es, l, h => by
    unfold runB
    split
    · exact runB_len es _ (apE_len h e)
    · simp
theorem versL_len : ∀ (hs : List S28) (l : List S26), (versL l hs).length = hs.length + 1
  | [], _ => rfl
  | e :: es, l => by rw [versL, List.length_cons, versL_len es, List.length_cons]
theorem take_drop_cons {α : Type} (xs : List α) (n i : Nat) (z : α) (hi : i < n) (hn : n ≤ xs.length) : (xs.take n).drop i = xs.getD i z :: (xs.take n).drop (i + 1) := by
  rw [getD_drop (xs.take n) i z (by rw [List.length_take]; omega)]
  congr 1
  rw [List.getD_eq_getElem?_getD, List.getD_eq_getElem?_getD, List.getElem?_take, if_pos hi]

theorem sp_l19Run_l0 (hs : List S28) (n : Nat) (hn : n ≤ hs.length) (hh : n ≤ 10) : ∀ (d i : Nat) (c : List S26), i + d = n → c.length ≤ 12 → Evn (fun k => spec_l19Run.l0 k hs (n : Int) c (i : Int)) (runB c ((hs.take n).drop i)) := by
  intro d
  induction d with
  | zero =>
    intro i c h hc
    refine Evn.step ?_
    have h1 : ¬ (i : Int) < (n : Int) := by omega
    simp only [spec_l19Run.l0, if_neg h1]
    rw [List.drop_eq_nil_of_le (by rw [List.length_take]; omega)]
    exact Evn.done _
  | succ d ih =>
    intro i c h hc
    have h1 : (i : Int) < (n : Int) := by omega
    have h2 : 0 ≤ (i : Int) := by omega
    have h3 : (i : Int) < (hs.length : Int) := by omega
    have hw := wrap_succ (show i < 4611686018427387904 by omega)
    refine Evn.step ?_
    simp only [spec_l19Run.l0, if_pos h1, if_pos h2, if_pos h3, hw, rd_T28, Int.toNat_natCast]
    clear hw
    rw [take_drop_cons hs n i z28 (by omega) hn]
    obtain ⟨o, ho, he⟩ := sp_l19Apply c hc (hs.getD i z28).f0 (hs.getD i z28).f1 (hs.getD i z28).f2 (hs.getD i z28).f3
    refine Evn.bind ho ?_
    dsimp only
    unfold runB
    unfold apE
    refine Evn.ite (fun c2 => ?_) (fun c2 => by rw [if_neg c2]; exact Evn.done _)
    rw [if_pos c2, he c2]
    exact ih (i + 1) _ (by omega) (appL_len hc _ _ _ _)
theorem sp_l19Run (l : List S26) (hs : List S28) (n : Nat) (hn : n ≤ hs.length) (hh : n ≤ 10) (hl : l.length ≤ 12) : Evn (fun k => spec_l19Run.f k l hs (n : Int)) (runB l (hs.take n)) := by
  unfold spec_l19Run.f
  simp only [Option.bind_some, List.length_nil, List.nil_append, Nat.zero_add]
  refine Evn.ite (fun _ => ?_) (fun h => absurd (by omega) h)
  have h := sp_l19Run_l0 hs n hn hh n 0 l (by omega) hl
  rw [List.drop_zero] at h
  exact h

theorem sp_l19Good (l : List S26) (hs : List S28) (hl : l.length ≤ 4194304) : Evn (fun k => spec_l19Good.f k l hs) (goodH l hs) := by
  unfold spec_l19Good.f goodH
  refine Evn.bind (sp_l4Legs l hl) ?_
  refine Evn.ite (fun c => ?_) (fun c => by rw [Bool.eq_false_iff.mpr c, Bool.false_and]; exact Evn.done _)
  rw [c, Bool.true_and]
  refine Evn.ite (fun c2 => by rw [decide_eq_false (by omega), Bool.false_and]; exact Evn.done _) (fun c2 => ?_)
  rw [decide_eq_true (by omega), Bool.true_and]
  have h := sp_l19Run l hs hs.length (Nat.le_refl _) (by omega) (goodLegs_len c)
  rw [List.take_length] at h
  refine Evn.bind h ?_
  exact Evn.done _

def tchB (x : S26) (s : Int) : Bool := if (!(x.f0 == 0) || (!(x.f1 == 0) || (!(x.f2 == 0) || (!(x.f3 == 0) || (!(x.f4 == 0)))))) = true then (if x.f0 = s then true else (x.f1 == s)) else false
theorem sp_l19Touches (x : S26) (s : Int) : spec_l19Touches.f x.f0 x.f1 x.f2 x.f3 x.f4 s = some (tchB x s) := by
  unfold spec_l19Touches.f tchB
  split
  · split <;> rfl
  · rfl

def onL (s : Int) : List S28 → Int → List Int
  | [], _ => []
  | e :: es, i => if tchB e.f2 s = true then i :: onL s es (i + 1) else if tchB e.f3 s = true then i :: onL s es (i + 1) else onL s es (i + 1)
theorem onL_len (s : Int) : ∀ (hs : List S28) (i : Int), (onL s hs i).length ≤ hs.length
  | [], _ => Nat.le_refl _
  | e :: es, i => by
    have := onL_len s es (i + 1)
    unfold onL
    split
    · simp only [List.length_cons]; omega
    · split
      · simp only [List.length_cons]; omega
      · simp only [List.length_cons]; omega
def onTs (l : List S26) (hs : List S28) (s : Int) : List Int × Bool := if goodH l hs = true ∧ decide (0 ≤ s ∧ s ≤ 7) = true then (onL s hs 0, true) else ([], false)
theorem onTs_len (l : List S26) (hs : List S28) (s : Int) : (onTs l hs s).1.length ≤ 4194304 := by
  unfold onTs
  split
  · rename_i h
    have h1 := onL_len s hs 0
    have h2 := (goodH_in h.1).2.1
    dsimp only
    omega
  · simp
theorem sp_EditsOn_l0 (hs : List S28) (hh : hs.length ≤ 10) (s : Int) : ∀ (d i : Nat) (zs : List Int), i + d = hs.length → zs.length ≤ i → Evn (fun k => spec_EditsOn.l0 k hs s zs (i : Int)) (zs ++ onL s (hs.drop i) i, true) := by
  intro d
  induction d with
  | zero =>
    intro i zs h hz
    refine Evn.step ?_
    have h1 : ¬ (i : Int) < (hs.length : Int) := by omega
    simp only [spec_EditsOn.l0, if_neg h1]
    rw [List.drop_eq_nil_of_le (by omega), onL, List.append_nil]
    exact Evn.done _
  | succ d ih =>
    intro i zs h hz
    have h1 : (i : Int) < (hs.length : Int) := by omega
    have h2 : 0 ≤ (i : Int) := by omega
    have hw := wrap_succ (show i < 4611686018427387904 by omega)
    refine Evn.step ?_
    simp only [spec_EditsOn.l0, if_pos h1, if_pos h2, hw, rd_T28, Int.toNat_natCast, sp_l19Touches, Option.bind_some]
    clear hw
    rw [getD_drop hs i z28 (by omega), onL]
    have hadd : Evn (fun k => if zs.length < 17592186044416 then spec_EditsOn.l0 k hs s (zs ++ [(i : Int)]) ((i + 1 : Nat) : Int) else none) (zs ++ (i : Int) :: onL s (hs.drop (i + 1)) ((i : Int) + 1), true) := by
      refine Evn.ite (fun _ => ?_) (fun c2 => absurd (by omega) c2)
      have h5 := ih (i + 1) (zs ++ [(i : Int)]) (by omega) (by rw [List.length_append, List.length_singleton]; omega)
      rw [List.append_assoc] at h5
      exact h5
    refine Evn.ite (fun c => by rw [if_pos c]; exact hadd) (fun c => ?_)
    rw [if_neg c]
    refine Evn.ite (fun c2 => by rw [if_pos c2]; exact hadd) (fun c2 => ?_)
    rw [if_neg c2]
    exact ih (i + 1) zs (by omega) (by omega)
theorem sp_EditsOn (l : List S26) (hs : List S28) (s : Int) (hl : l.length ≤ 4194304) : Evn (fun k => spec_EditsOn.f k l hs s) (onTs l hs s) := by
  have no : ¬ (goodH l hs = true ∧ decide (0 ≤ s ∧ s ≤ 7) = true) → Evn (fun k => spec_EditsOn.j0 k hs s [] true) (onTs l hs s) := by
    intro h
    unfold onTs
    rw [if_neg h]
    refine Evn.step ?_
    simp only [spec_EditsOn.j0, if_true]
    exact Evn.done _
  unfold spec_EditsOn.f
  simp only [Option.bind_some, sp_l4Station]
  refine Evn.bind (sp_l19Good l hs hl) ?_
  refine Evn.ite (fun c => ?_) (fun c => no (fun h => c h.1))
  by_cases c2 : decide (0 ≤ s ∧ s ≤ 7) = true
  · rw [c2, Bool.not_true]
    refine Evn.step ?_
    simp only [spec_EditsOn.j0, Bool.false_eq_true, if_false]
    unfold onTs
    rw [if_pos ⟨c, c2⟩]
    exact sp_EditsOn_l0 hs (goodH_in c).2.1 s hs.length 0 [] (by omega) (Nat.le_refl _)
  · rw [Bool.eq_false_iff.mpr c2, Bool.not_false]
    exact no (fun h => c2 h.2)

def sameB : List S26 → List S26 → Bool
  | [], [] => true
  | x :: xs, y :: ys => if neqL x y = true then false else sameB xs ys
  | _, _ => false
theorem sameB_len : ∀ (xs ys : List S26), sameB xs ys = true → xs.length = ys.length
  | [], [], _ => rfl
  | x :: xs, y :: ys, h => by
    unfold sameB at h
    split at h
    · cases h
    · rw [List.length_cons, List.length_cons, sameB_len xs ys h]
  | [], _ :: _, h => by simp [sameB] at h
  | _ :: _, [], h => by simp [sameB] at h
theorem sp_l19Same_l0 (xs ys : List S26) (he : xs.length = ys.length) (hx : xs.length ≤ 12) : ∀ (d i : Nat), i + d = xs.length → Evn (fun k => spec_l19Same.l0 k xs ys (i : Int)) (sameB (xs.drop i) (ys.drop i)) := by
  intro d
  induction d with
  | zero =>
    intro i h
    refine Evn.step ?_
    have h1 : ¬ (i : Int) < (xs.length : Int) := by omega
    simp only [spec_l19Same.l0, if_neg h1]
    rw [List.drop_eq_nil_of_le (by omega), List.drop_eq_nil_of_le (by omega)]
    exact Evn.done _
  | succ d ih =>
    intro i h
    have h1 : (i : Int) < (xs.length : Int) := by omega
    have h2 : 0 ≤ (i : Int) := by omega
    have h3 : (i : Int) < (ys.length : Int) := by omega
    have hw := wrap_succ (show i < 4611686018427387904 by omega)
    refine Evn.step ?_
    simp only [spec_l19Same.l0, if_pos h1, if_pos h2, if_pos h3, hw, rd_T26, Int.toNat_natCast]
    clear hw
    rw [getD_drop xs i z26 (by omega), getD_drop ys i z26 (by omega), sameB]
    exact Evn.ite (fun c => by rw [if_pos (show neqL _ _ = true from c)]; exact Evn.done _) (fun c => by rw [if_neg (show ¬ neqL _ _ = true from c)]; exact ih (i + 1) (by omega))
theorem sp_l19Same (xs ys : List S26) (hx : xs.length ≤ 12) : Evn (fun k => spec_l19Same.f k xs ys) (sameB xs ys) := by
  unfold spec_l19Same.f
  refine Evn.ite (fun c => ?_) (fun c => ?_)
  · have h := sp_l19Same_l0 xs ys (by omega) hx xs.length 0 (by omega)
    rw [List.drop_zero, List.drop_zero] at h
    exact h
  · refine (Evn.done _).eq_ ?_
    exact (Bool.eq_false_iff.mpr (fun h => c (by rw [sameB_len xs ys h]))).symm

theorem vers_at : ∀ (hs : List S28) (l : List S26) (m : Nat), (runB l hs).2 = true → m ≤ hs.length → (versL l hs).getD m [] = (runB l (hs.take m)).1
  | [], l, m, _, hm => by
    obtain rfl : m = 0 := by simpa using hm
    rfl
  | e :: es, l, 0, _, _ => rfl
  | e :: es, l, m + 1, h, hm => by
    unfold runB at h
    split at h
    · rename_i c
      rw [versL, List.take_succ_cons, runB, if_pos c]
      exact vers_at es _ m h (by simpa using hm)
    · cases h
def atTs (l : List S26) (hs : List S28) (n : Int) : List S26 × Bool := if goodH l hs = true ∧ (0 ≤ n ∧ n ≤ (hs.length : Int)) then ((runB l (hs.take n.toNat)).1, true) else ([], false)
theorem atTs_len (l : List S26) (hs : List S28) (n : Int) : (atTs l hs n).1.length ≤ 4194304 := by
  unfold atTs
  split
  · rename_i h
    have h1 := runB_len (hs.take n.toNat) l (goodLegs_len (goodH_in h.1).1)
    show (runB l (hs.take n.toNat)).1.length ≤ _
    omega
  · exact Nat.zero_le _

theorem vers_len12 : ∀ (hs : List S28) (l : List S26), l.length ≤ 12 → ∀ v ∈ versL l hs, v.length ≤ 12
  | [], l, h, v, hv => by
    obtain rfl : v = l := by simpa [versL] using hv
    exact h
  | e :: es, l, h, v, hv => by
    rw [versL] at hv
    rcases List.mem_cons.1 hv with rfl | hv
    · exact h
    · exact vers_len12 es _ (apE_len h e) v hv
theorem getD_in {α : Type} (xs : List α) (i : Nat) (z : α) (h : i < xs.length) : xs.getD i z ∈ xs := by
  rw [List.getD_eq_getElem?_getD, List.getElem?_eq_getElem h]
  exact List.getElem_mem h
def smRow (V : List (List S26)) (m : Nat) : Nat → Nat → List S77
  | 0, _ => []
  | d + 1, n => if sameB (V.getD m []) (V.getD n []) = true then (⟨m, n⟩ : S77) :: smRow V m d (n + 1) else smRow V m d (n + 1)
def smAll (V : List (List S26)) : Nat → Nat → List S77
  | 0, _ => []
  | d + 1, m => smRow V m d (m + 1) ++ smAll V d (m + 1)
theorem smRow_len (V : List (List S26)) (m : Nat) : ∀ d n, (smRow V m d n).length ≤ d := by
  intro d
  induction d with
  | zero => intro n; simp [smRow]
  | succ d ih =>
    intro n
    have := ih (n + 1)
    unfold smRow
    split
    · rw [List.length_cons]; omega
    · omega
theorem smAll_len (V : List (List S26)) : ∀ d m, (smAll V d m).length ≤ d * d := by
  intro d
  induction d with
  | zero => intro m; simp [smAll]
  | succ d ih =>
    intro m
    have h1 := ih (m + 1)
    have h2 := smRow_len V m d (m + 1)
    rw [smAll, List.length_append]
    have : d * d + d ≤ (d + 1) * (d + 1) := by rw [Nat.succ_mul, Nat.mul_succ]; omega
    omega
def sameTs (l : List S26) (hs : List S28) : List S77 × Bool := if goodH l hs = true then (smAll (versL l hs) (hs.length + 1) 0, true) else ([], false)
theorem sameTs_len (l : List S26) (hs : List S28) : (sameTs l hs).1.length ≤ 4194304 := by
  unfold sameTs
  split
  · rename_i h
    have h1 := smAll_len (versL l hs) (hs.length + 1) 0
    have h2 := (goodH_in h).2.1
    have : (hs.length + 1) * (hs.length + 1) ≤ 11 * 11 := Nat.mul_le_mul (by omega) (by omega)
    dsimp only
    omega
  · simp

theorem sp_same_l1 (l : List S26) (hs : List S28) (hg : goodH l hs = true) (m q : Nat) (hm : m ≤ hs.length) (R : List S77)
    (hrest : ∀ zs : List S77, zs.length + q ≤ 1000 → Evn (fun k => spec_SameVersions.l0 k l hs zs ((m + 1 : Nat) : Int)) (zs ++ R, true)) : ∀ (d n : Nat) (zs : List S77), n + d = hs.length + 1 → zs.length + d + q ≤ 1000 → Evn (fun k => spec_SameVersions.l1 k l hs zs (m : Int) ((versL l hs).getD m []) (n : Int)) (zs ++ (smRow (versL l hs) m d n ++ R), true) := by
  obtain ⟨g1, g2, g3⟩ := goodH_in hg
  have hl := goodLegs_len g1
  intro d
  induction d with
  | zero =>
    intro n zs h hz
    refine Evn.step ?_
    have h1 : ¬ (n : Int) ≤ (hs.length : Int) := by omega
    simp only [spec_SameVersions.l1, if_neg h1, smRow, List.nil_append, wrap_succ (show m < 4611686018427387904 by omega)]
    exact hrest zs (by omega)
  | succ d ih =>
    intro n zs h hz
    have h1 : (n : Int) ≤ (hs.length : Int) := by omega
    have hw := wrap_succ (show n < 4611686018427387904 by omega)
    refine Evn.step ?_
    simp only [spec_SameVersions.l1, if_pos h1, hw, smRow]
    clear hw
    refine Evn.bind (sp_l19Run l hs n (by omega) (by omega) hl) ?_
    rw [vers_at hs l m g3 hm, vers_at hs l n g3 (by omega)]
    refine Evn.bind (sp_l19Same _ _ (runB_len _ l hl)) ?_
    refine Evn.ite (fun c => ?_) (fun c => ?_)
    · rw [if_pos c]
      refine Evn.ite (fun _ => ?_) (fun c2 => absurd (by omega) c2)
      have h5 := ih (n + 1) (zs ++ [(⟨m, n⟩ : S77)]) (by omega) (by rw [List.length_append, List.length_singleton]; omega)
      rw [List.append_assoc, vers_at hs l m g3 hm] at h5
      exact h5
    · rw [if_neg c]
      have h5 := ih (n + 1) zs (by omega) (by omega)
      rw [vers_at hs l m g3 hm] at h5
      exact h5
theorem sp_same_l0 (l : List S26) (hs : List S28) (hg : goodH l hs = true) : ∀ (d m : Nat) (zs : List S77), m + d = hs.length + 1 → zs.length + d * 11 ≤ 1000 → Evn (fun k => spec_SameVersions.l0 k l hs zs (m : Int)) (zs ++ smAll (versL l hs) d m, true) := by
  obtain ⟨g1, g2, g3⟩ := goodH_in hg
  have hl := goodLegs_len g1
  intro d
  induction d with
  | zero =>
    intro m zs h hz
    refine Evn.step ?_
    have h1 : ¬ (m : Int) ≤ (hs.length : Int) := by omega
    simp only [spec_SameVersions.l0, if_neg h1, smAll, List.append_nil]
    exact Evn.done _
  | succ d ih =>
    intro m zs h hz
    have h1 : (m : Int) ≤ (hs.length : Int) := by omega
    have hw := wrap_succ (show m < 4611686018427387904 by omega)
    refine Evn.step ?_
    simp only [spec_SameVersions.l0, if_pos h1, hw, smAll]
    clear hw
    refine Evn.bind (sp_l19Run l hs m (by omega) (by omega) hl) ?_
    have h5 := sp_same_l1 l hs hg m (d * 11) (by omega) (smAll (versL l hs) d (m + 1)) (fun zs' hz' => ih (m + 1) zs' (by omega) hz') d (m + 1) zs (by omega) (by omega)
    rw [vers_at hs l m g3 (by omega)] at h5
    exact h5
theorem sp_SameVersions (l : List S26) (hs : List S28) (hl : l.length ≤ 4194304) : Evn (fun k => spec_SameVersions.f k l hs) (sameTs l hs) := by
  unfold spec_SameVersions.f sameTs
  simp only [Option.bind_some]
  refine Evn.bind (sp_l19Good l hs hl) ?_
  refine Evn.ite (fun c => ?_) (fun c => by rw [if_neg c]; exact Evn.done _)
  rw [if_pos c]
  have h2 := (goodH_in c).2.1
  exact sp_same_l0 l hs c (hs.length + 1) 0 [] (by omega) (by simp only [List.length_nil]; omega)

def appTs (l : List S26) (k a : Int) (x y : S26) : List S26 × Bool :=
  if goodLegs l = true then (if (appL l k a x y).2 = true then ((appL l k a x y).1, true) else ([], false)) else ([], false)
theorem appTs_len (l : List S26) (k a : Int) (x y : S26) : (appTs l k a x y).1.length ≤ 4194304 := by
  unfold appTs
  split
  · rename_i h
    have := appL_len (goodLegs_len h) k a x y
    split
    · dsimp only; omega
    · simp
  · simp
theorem sp_ApplyEdit (l : List S26) (hl : l.length ≤ 4194304) (kd a : Int) (x y : S26) : Evn (fun k => spec_ApplyEdit.f k l kd a x.f0 x.f1 x.f2 x.f3 x.f4 y.f0 y.f1 y.f2 y.f3 y.f4) (appTs l kd a x y) := by
  unfold spec_ApplyEdit.f appTs
  refine Evn.bind (sp_l4Legs l hl) ?_
  refine Evn.ite (fun c => ?_) (fun c => by rw [if_neg c]; exact Evn.done _)
  rw [if_pos c]
  obtain ⟨o, ho, he⟩ := sp_l19Apply l (goodLegs_len c) kd a x y
  refine Evn.bind ho ?_
  dsimp only
  refine Evn.ite (fun c2 => ?_) (fun c2 => by rw [if_neg c2]; exact Evn.done _)
  rw [if_pos c2, ← he c2]
  exact Evn.done _

/-! The draws: a cursor over bytes. -/
def Byts (l : List Int) : Prop := ∀ x ∈ l, 0 ≤ x ∧ x ≤ 255
theorem bits255 (x : Int) : 0 ≤ Go.bits .and .u64 x 255 ∧ Go.bits .and .u64 x 255 ≤ 255 := by
  have h : (BitVec.ofInt 64 x &&& BitVec.ofInt 64 255).toNat ≤ 255 := by rw [BitVec.toNat_and]; exact Nat.le_trans Nat.and_le_right (by decide)
  have e : Go.bits .and .u64 x 255 = IntKind.u64.wrap ((BitVec.ofInt 64 x &&& BitVec.ofInt 64 255).toNat : Int) := rfl
  rw [e, IntKind.wrap_u64]
  omega
theorem Byts.at_ {l : List Int} (h : Byts l) (p : Int) : 0 ≤ rd l p ∧ rd l p ≤ 255 := by
  unfold rd
  by_cases g : p.toNat < l.length
  · rw [List.getD_eq_getElem?_getD, List.getElem?_eq_getElem g, Option.getD_some]
    exact h _ (List.getElem_mem g)
  · rw [List.getD_eq_getElem?_getD, List.getElem?_eq_none (by omega), Option.getD_none]
    omega
theorem dw_next {l : List Int} {p : Int} (hl : Byts l) (h0 : 0 ≤ p) (h1 : p ≤ 2000000000) (s : Int) : ∃ r, spec_l1Cur_next.f l p s = some r ∧ 0 ≤ r.1 ∧ r.1 ≤ 255 ∧ r.2.1 = p + 1 := by
  have hr := hl.at_ p
  have e : wrap64 (rd l p) = rd l p := wrap_id (by omega) (by omega)
  have e2 : wrap64 (p + 1) = p + 1 := wrap_id (by omega) (by omega)
  unfold spec_l1Cur_next.f
  rw [e, e2]
  split
  · (try rw [if_pos h0])
    split
    · exact ⟨_, rfl, hr.1, hr.2, rfl⟩
    · refine ⟨_, rfl, ?_, ?_, rfl⟩
      · dsimp only; rw [wrap_id (by have := bits255; exact Int.le_trans (by decide) (this _).1) (Int.le_trans (bits255 _).2 (by decide))]; exact (bits255 _).1
      · dsimp only; rw [wrap_id (by have := bits255; exact Int.le_trans (by decide) (this _).1) (Int.le_trans (bits255 _).2 (by decide))]; exact (bits255 _).2
  · split
    · exact ⟨_, rfl, by dsimp only; omega, by dsimp only; omega, rfl⟩
    · refine ⟨_, rfl, ?_, ?_, rfl⟩
      · dsimp only; rw [wrap_id (by have := bits255; exact Int.le_trans (by decide) (this _).1) (Int.le_trans (bits255 _).2 (by decide))]; exact (bits255 _).1
      · dsimp only; rw [wrap_id (by have := bits255; exact Int.le_trans (by decide) (this _).1) (Int.le_trans (bits255 _).2 (by decide))]; exact (bits255 _).2

theorem tmod_in {x n : Int} (hx : 0 ≤ x) (hn : 1 < n) : 0 ≤ Int.tmod x n ∧ Int.tmod x n < n := by
  rw [Int.tmod_eq_emod_of_nonneg hx]
  exact ⟨Int.emod_nonneg _ (by omega), Int.emod_lt_of_pos _ (by omega)⟩
theorem dw_pick {l : List Int} {p : Int} (hl : Byts l) (h0 : 0 ≤ p) (h1 : p ≤ 1000000000) (s n : Int) : ∃ r, spec_l1Cur_pick.f l p s n = some r ∧ 0 ≤ r.1 ∧ (r.1 < n ∨ r.1 = 0) ∧ p ≤ r.2.1 ∧ r.2.1 ≤ p + 2 := by
  unfold spec_l1Cur_pick.f
  by_cases c : n ≤ 1
  · rw [if_pos c]
    exact ⟨_, rfl, by dsimp only; omega, Or.inr rfl, Int.le_refl _, by dsimp only; omega⟩
  · rw [if_neg c]
    obtain ⟨a, ha, a0, a1, a2⟩ := dw_next hl h0 (by omega) s
    rw [ha, Option.bind_some]
    split
    · obtain ⟨b, hb, b0, b1, b2⟩ := dw_next hl (p := a.2.1) (by omega) (by omega) a.2.2
      rw [hb, Option.bind_some, if_neg (by omega)]
      have t := tmod_in (x := wrap64 (wrap64 (a.1 * 256) + b.1)) (n := n) (by rw [wrap_id (x := a.1 * 256) (by omega) (by omega), wrap_id (by omega) (by omega)]; omega) (by omega)
      exact ⟨_, rfl, t.1, Or.inl t.2, by dsimp only; omega, by dsimp only; omega⟩
    · rw [if_neg (by omega)]
      have t := tmod_in (x := a.1) (n := n) a0 (by omega)
      exact ⟨_, rfl, t.1, Or.inl t.2, by dsimp only; omega, by dsimp only; omega⟩

theorem dw_one {l : List Int} {p : Int} (hl : Byts l) (h0 : 0 ≤ p) (h1 : p ≤ 1000000000) (s n : Int) : ∃ r, spec_l1Cur_one.f l p s n = some r ∧ p ≤ r.2.1 ∧ r.2.1 ≤ p + 2 := by
  unfold spec_l1Cur_one.f
  obtain ⟨a, ha, a0, a1, a2, a3⟩ := dw_pick hl h0 h1 s n
  rw [ha, Option.bind_some]
  exact ⟨_, rfl, a2, a3⟩

theorem rd_mem {L : List Int} {i : Int} (h0 : 0 ≤ i) (h1 : i < L.length) : rd L i ∈ L := by
  unfold rd
  rw [List.getD_eq_getElem?_getD, List.getElem?_eq_getElem (by omega), Option.getD_some]
  exact List.getElem_mem _
theorem dw_among {l : List Int} {p : Int} (hl : Byts l) (h0 : 0 ≤ p) (h1 : p ≤ 1000000000) (s : Int) (L : List Int) (hL : 0 < L.length) : ∃ r, spec_l1Cur_among.f l p s L = some r ∧ r.1 ∈ L ∧ p ≤ r.2.1 ∧ r.2.1 ≤ p + 2 := by
  unfold spec_l1Cur_among.f
  obtain ⟨a, ha, a0, a1, a2, a3⟩ := dw_pick hl h0 h1 s (L.length : Int)
  have a4 : a.1 < (L.length : Int) := by omega
  rw [ha, Option.bind_some, if_pos a0, if_pos a4]
  exact ⟨_, rfl, rd_mem a0 a4, a2, a3⟩

theorem dw_leg {l : List Int} {p : Int} (hl : Byts l) (h0 : 0 ≤ p) (h1 : p ≤ 900000000) (s : Int) : ∃ r, Evn (fun k => spec_l1Cur_leg.f k l p s) r ∧ p ≤ r.2.2.2.2.2.1 ∧ r.2.2.2.2.2.1 ≤ p + 14 := by
  have go : ∀ (q t a b c d e : Int), p ≤ q → q ≤ p + 10 → ∃ r, Evn (fun k => spec_l1Cur_leg.j0 k l q t a b c d e) r ∧ p ≤ r.2.2.2.2.2.1 ∧ r.2.2.2.2.2.1 ≤ p + 14 := by
    intro q t a b c d e hq hq2
    obtain ⟨u, hu, u0, u1, u2, u3⟩ := dw_pick hl (p := q) (by omega) (by omega) t 40
    by_cases c0 : u.1 = 0
    · obtain ⟨v, hv, _, v2, v3⟩ := dw_among hl (p := u.2.1) (by omega) (by omega) u.2.2 [-1, 7, 8, a] (by simp)
      refine ⟨(a, v.1, c, d, e, v.2.1, v.2.2), Evn.step ?_, by dsimp only; omega, by dsimp only; omega⟩
      simp only [spec_l1Cur_leg.j0, hu, Option.bind_some, if_pos c0, hv]
      exact Evn.done _
    by_cases c1 : u.1 = 1
    · obtain ⟨v, hv, _, v2, v3⟩ := dw_among hl (p := u.2.1) (by omega) (by omega) u.2.2 [0, 501] (by simp)
      refine ⟨(a, b, v.1, d, e, v.2.1, v.2.2), Evn.step ?_, by dsimp only; omega, by dsimp only; omega⟩
      simp only [spec_l1Cur_leg.j0, hu, Option.bind_some, if_neg c0, if_pos c1, hv]
      exact Evn.done _
    by_cases c2 : u.1 = 2
    · obtain ⟨v, hv, _, v2, v3⟩ := dw_among hl (p := u.2.1) (by omega) (by omega) u.2.2 [-1, 360] (by simp)
      refine ⟨(a, b, c, v.1, e, v.2.1, v.2.2), Evn.step ?_, by dsimp only; omega, by dsimp only; omega⟩
      simp only [spec_l1Cur_leg.j0, hu, Option.bind_some, if_neg c0, if_neg c1, if_pos c2, hv]
      exact Evn.done _
    by_cases c3 : u.1 = 3
    · obtain ⟨v, hv, _, v2, v3⟩ := dw_among hl (p := u.2.1) (by omega) (by omega) u.2.2 [-91, 91] (by simp)
      refine ⟨(a, b, c, d, v.1, v.2.1, v.2.2), Evn.step ?_, by dsimp only; omega, by dsimp only; omega⟩
      simp only [spec_l1Cur_leg.j0, hu, Option.bind_some, if_neg c0, if_neg c1, if_neg c2, if_pos c3, hv]
      exact Evn.done _
    refine ⟨(a, b, c, d, e, u.2.1, u.2.2), Evn.step ?_, by dsimp only; omega, by dsimp only; omega⟩
    simp only [spec_l1Cur_leg.j0, hu, Option.bind_some, if_neg c0, if_neg c1, if_neg c2, if_neg c3]
    exact Evn.done _
  unfold spec_l1Cur_leg.f
  obtain ⟨a, ha, a0, a1, a2, a3⟩ := dw_pick hl h0 (by omega) s 6
  obtain ⟨b, hb, b0, b1, b2, b3⟩ := dw_pick hl (p := a.2.1) (by omega) (by omega) a.2.2 6
  obtain ⟨c, hc, _, c2, c3⟩ := dw_among hl (p := b.2.1) (by omega) (by omega) b.2.2 [1, 10, 50, 100, 120, 250, 500] (by simp)
  obtain ⟨d, hd, _, d2, d3⟩ := dw_among hl (p := c.2.1) (by omega) (by omega) c.2.2 [0, 45, 90, 135, 180, 270, 359, 17, 222] (by simp)
  obtain ⟨e, he, _, e2, e3⟩ := dw_among hl (p := d.2.1) (by omega) (by omega) d.2.2 [0, 0, 0, 5, (-5), 30, (-45), 90, (-90)] (by simp)
  simp only [ha, hb, hc, hd, he, Option.bind_some]
  by_cases cc : a.1 = b.1
  · simp only [if_pos cc]
    exact go _ _ _ _ _ _ _ (by omega) (by omega)
  · simp only [if_neg cc]
    exact go _ _ _ _ _ _ _ (by omega) (by omega)

theorem dw_legs_l1 {l : List Int} (hl : Byts l) : ∀ (D : Nat) (zs : List S26) (i p s : Int), i + (D : Int) = 14 → 0 ≤ i → zs.length + D ≤ 30 → 0 ≤ p → p ≤ 900000000 - 2 * (D : Int) → ∃ r, Evn (fun k => spec_l1Cur_legs.l1 k zs i l p s) r ∧ r.1.length ≤ 30 ∧ p ≤ r.2.1 ∧ r.2.1 ≤ p + 2 + 2 * (D : Int) := by
  intro D
  induction D with
  | zero =>
    intro zs i p s hi i0 hz h0 h1
    obtain ⟨u, hu, u0, u1, u2, u3⟩ := dw_pick hl h0 (by omega) s 2
    have c2 : ¬ i < 14 := by omega
    refine ⟨(zs, u.2.1, u.2.2), Evn.step ?_, by dsimp only; omega, by dsimp only; omega, by dsimp only; omega⟩
    simp only [spec_l1Cur_legs.l1, hu, Option.bind_some, if_neg c2, ite_self]
    exact Evn.done _
  | succ D ih =>
    intro zs i p s hi i0 hz h0 h1
    obtain ⟨u, hu, u0, u1, u2, u3⟩ := dw_pick hl h0 (by omega) s 2
    have c2 : i < 14 := by omega
    by_cases c1 : (zs.length : Int) < wrap64 (12 + u.1)
    · have hw : wrap64 (i + 1) = i + 1 := wrap_id (by omega) (by omega)
      have hq : zs.length < 3518437208883 := by omega
      obtain ⟨r, hr, r1, r2, r3⟩ := ih (zs ++ [⟨Int.tmod i 5, wrap64 (1 + (Int.tmod i 5)), 10, wrap64 (10 * i), 0⟩]) (i + 1) u.2.1 u.2.2 (by omega) (by omega) (by rw [List.length_append, List.length_singleton]; omega) (by omega) (by omega)
      refine ⟨r, Evn.step ?_, r1, by omega, by omega⟩
      simp only [spec_l1Cur_legs.l1, hu, Option.bind_some, if_pos c1, if_pos c2, if_pos hq, hw]
      exact hr
    · refine ⟨(zs, u.2.1, u.2.2), Evn.step ?_, by dsimp only; omega, by dsimp only; omega, by dsimp only; omega⟩
      simp only [spec_l1Cur_legs.l1, hu, Option.bind_some, if_neg c1]
      exact Evn.done _
theorem dw_legs_l0 {l : List Int} (hl : Byts l) : ∀ (D : Nat) (zs : List S26) (p s : Int), zs.length + D ≤ 8 → 0 ≤ p → p ≤ 800000000 - 20 * (D : Int) → ∃ r, Evn (fun k => spec_l1Cur_legs.l0 k zs (D : Int) l p s) r ∧ r.1.length ≤ 30 ∧ p ≤ r.2.1 ∧ r.2.1 ≤ p + 40 + 20 * (D : Int) := by
  intro D
  induction D with
  | zero =>
    intro zs p s hz h0 h1
    have hn : ¬ ((0 : Nat) : Int) > 0 := by decide
    obtain ⟨u, hu, u2, u3⟩ := dw_one hl h0 (by omega) s 32
    by_cases c1 : u.1 = true
    · obtain ⟨r, hr, r1, r2, r3⟩ := dw_legs_l1 hl 14 zs 0 u.2.1 u.2.2 (by decide) (by decide) (by omega) (by omega) (by omega)
      refine ⟨r, Evn.step ?_, r1, by omega, by omega⟩
      simp only [spec_l1Cur_legs.l0, if_neg hn, hu, Option.bind_some, if_pos c1]
      exact hr
    · refine ⟨(zs, u.2.1, u.2.2), Evn.step ?_, by dsimp only; omega, by dsimp only; omega, by dsimp only; omega⟩
      simp only [spec_l1Cur_legs.l0, if_neg hn, hu, Option.bind_some, if_neg c1]
      exact Evn.done _
  | succ D ih =>
    intro zs p s hz h0 h1
    obtain ⟨u, hu, u2, u3⟩ := dw_leg hl h0 (by omega) s
    have hp : ((D + 1 : Nat) : Int) > 0 := by omega
    have hw : wrap64 (((D + 1 : Nat) : Int) - 1) = (D : Int) := wrap_pred (by omega)
    obtain ⟨r, hr, r1, r2, r3⟩ := ih (zs ++ [⟨u.1, u.2.1, u.2.2.1, u.2.2.2.1, u.2.2.2.2.1⟩]) u.2.2.2.2.2.1 u.2.2.2.2.2.2 (by rw [List.length_append, List.length_singleton]; omega) (by omega) (by omega)
    refine ⟨r, Evn.step ?_, r1, by omega, by omega⟩
    have hq : zs.length < 3518437208883 := by omega
    simp only [spec_l1Cur_legs.l0, if_pos hp, hw]
    refine Evn.bind hu ?_
    simp only [if_pos hq]
    exact hr
theorem dw_legs {l : List Int} {p : Int} (hl : Byts l) (h0 : 0 ≤ p) (h1 : p ≤ 700000000) (s : Int) : ∃ r, Evn (fun k => spec_l1Cur_legs.f k l p s) r ∧ r.1.length ≤ 30 ∧ p ≤ r.2.1 ∧ r.2.1 ≤ p + 300 := by
  unfold spec_l1Cur_legs.f
  obtain ⟨a, ha, a0, a1, a2, a3⟩ := dw_pick hl h0 (by omega) s 8
  obtain ⟨D, hD⟩ : ∃ D : Nat, a.1 = D := ⟨a.1.toNat, by omega⟩
  simp only [ha, Option.bind_some, hD]
  obtain ⟨r, hr, r1, r2, r3⟩ := dw_legs_l0 hl D [] a.2.1 a.2.2 (by simp only [List.length_nil]; omega) (by omega) (by omega)
  exact ⟨r, hr, r1, by omega, by omega⟩

theorem dw_edit {l : List Int} {p : Int} (hl : Byts l) (h0 : 0 ≤ p) (h1 : p ≤ 800000000) (s : Int) (L : List S26) (hL : L.length ≤ 4194304) : ∃ r, Evn (fun k => spec_l1Cur_edit.f k l p s L) r ∧ p ≤ r.2.2.2.2.2.2.2.2.2.2.2.2.1 ∧ r.2.2.2.2.2.2.2.2.2.2.2.2.1 ≤ p + 50 := by
  have go2 : ∀ (q t a0 a1 a2 a3 a4 a5 a6 a7 a8 a9 a10 a11 : Int), p ≤ q → q ≤ p + 30 → ∃ r, Evn (fun k => spec_l1Cur_edit.j2 k L l q t a0 a1 a2 a3 a4 a5 a6 a7 a8 a9 a10 a11) r ∧ p ≤ r.2.2.2.2.2.2.2.2.2.2.2.2.1 ∧ r.2.2.2.2.2.2.2.2.2.2.2.2.1 ≤ p + 50 := by
    intro q t a0 a1 a2 a3 a4 a5 a6 a7 a8 a9 a10 a11 hq hq2
    obtain ⟨u, hu, u0, u1, u2, u3⟩ := dw_pick hl (p := q) (by omega) (by omega) t 24
    by_cases c0 : u.1 = 0
    · obtain ⟨v, hv, _, v2, v3⟩ := dw_among hl (p := u.2.1) (by omega) (by omega) u.2.2 [-1, wrap64 ((L.length : Int) + 1), 12] (by simp)
      refine ⟨(a0, v.1, a2, a3, a4, a5, a6, a7, a8, a9, a10, a11, v.2.1, v.2.2), Evn.step ?_, by dsimp only; omega, by dsimp only; omega⟩
      simp only [spec_l1Cur_edit.j2, hu, Option.bind_some, if_pos c0, hv]
      exact Evn.done _
    by_cases c1 : u.1 = 1
    · obtain ⟨v, hv, v2, v3⟩ := dw_leg hl (p := u.2.1) (by omega) (by omega) u.2.2
      refine ⟨(a0, a1, v.1, v.2.1, v.2.2.1, v.2.2.2.1, v.2.2.2.2.1, a7, a8, a9, a10, a11, v.2.2.2.2.2.1, v.2.2.2.2.2.2), Evn.step ?_, by dsimp only; omega, by dsimp only; omega⟩
      simp only [spec_l1Cur_edit.j2, hu, Option.bind_some, if_neg c0, if_pos c1]
      exact Evn.bind hv (Evn.done _)
    by_cases c2 : u.1 = 2
    · obtain ⟨v, hv, _, v2, v3⟩ := dw_among hl (p := u.2.1) (by omega) (by omega) u.2.2 [0, 4] (by simp)
      refine ⟨(v.1, a1, a2, a3, a4, a5, a6, a7, a8, a9, a10, a11, v.2.1, v.2.2), Evn.step ?_, by dsimp only; omega, by dsimp only; omega⟩
      simp only [spec_l1Cur_edit.j2, hu, Option.bind_some, if_neg c0, if_neg c1, if_pos c2, hv]
      exact Evn.done _
    refine ⟨(a0, a1, a2, a3, a4, a5, a6, a7, a8, a9, a10, a11, u.2.1, u.2.2), Evn.step ?_, by dsimp only; omega, by dsimp only; omega⟩
    simp only [spec_l1Cur_edit.j2, hu, Option.bind_some, if_neg c0, if_neg c1, if_neg c2]
    exact Evn.done _
  have go1 : ∀ (q t a0 a1 a2 a3 a4 a5 a6 a7 a8 a9 a10 a11 : Int), p ≤ q → q ≤ p + 10 → ∃ r, Evn (fun k => spec_l1Cur_edit.j1 k L l q t a0 a1 a2 a3 a4 a5 a6 a7 a8 a9 a10 a11) r ∧ p ≤ r.2.2.2.2.2.2.2.2.2.2.2.2.1 ∧ r.2.2.2.2.2.2.2.2.2.2.2.2.1 ≤ p + 50 := by
    intro q t a0 a1 a2 a3 a4 a5 a6 a7 a8 a9 a10 a11 hq hq2
    by_cases c0 : a0 = 2
    · obtain ⟨r, hr, r2⟩ := go2 q t a0 a1 a2 a3 a4 a5 a6 a7 a8 a9 a10 a11 (by omega) (by omega)
      refine ⟨r, Evn.step ?_, r2⟩
      simp only [spec_l1Cur_edit.j1, if_pos c0]
      exact hr
    · obtain ⟨v, hv, v2, v3⟩ := dw_leg hl (p := q) (by omega) (by omega) t
      obtain ⟨r, hr, r2⟩ := go2 v.2.2.2.2.2.1 v.2.2.2.2.2.2 a0 a1 a2 a3 a4 a5 a6 v.1 v.2.1 v.2.2.1 v.2.2.2.1 v.2.2.2.2.1 (by omega) (by omega)
      refine ⟨r, Evn.step ?_, r2⟩
      simp only [spec_l1Cur_edit.j1, if_neg c0]
      exact Evn.bind hv hr
  have go0 : ∀ (f : Bool) (q t a0 a1 a2 a3 a4 a5 a6 a7 a8 a9 a10 a11 : Int), p ≤ q → q ≤ p + 10 → 0 ≤ a1 → (f = true → a1 < (L.length : Int)) → ∃ r, Evn (fun k => spec_l1Cur_edit.j0 k L f l q t a0 a1 a2 a3 a4 a5 a6 a7 a8 a9 a10 a11) r ∧ p ≤ r.2.2.2.2.2.2.2.2.2.2.2.2.1 ∧ r.2.2.2.2.2.2.2.2.2.2.2.2.1 ≤ p + 50 := by
    intro f q t a0 a1 a2 a3 a4 a5 a6 a7 a8 a9 a10 a11 hq hq2 c1 c2
    cases f with
    | false =>
      obtain ⟨r, hr, r2⟩ := go1 q t a0 a1 a2 a3 a4 a5 a6 a7 a8 a9 a10 a11 hq hq2
      refine ⟨r, Evn.step ?_, r2⟩
      simp only [spec_l1Cur_edit.j0, Bool.false_eq_true, if_false]
      exact hr
    | true =>
      obtain ⟨r, hr, r2⟩ := go1 q t a0 a1 (rd_T26 L a1).f0 (rd_T26 L a1).f1 (rd_T26 L a1).f2 (rd_T26 L a1).f3 (rd_T26 L a1).f4 a7 a8 a9 a10 a11 hq hq2
      refine ⟨r, Evn.step ?_, r2⟩
      simp only [spec_l1Cur_edit.j0, if_true, if_pos c1, if_pos (c2 rfl)]
      exact hr
  unfold spec_l1Cur_edit.f
  obtain ⟨a, ha, a0, a1, a2, a3⟩ := dw_pick hl h0 (by omega) s 3
  obtain ⟨b, hb, b0, -, b2, b3⟩ := dw_pick hl (p := a.2.1) (by omega) (by omega) a.2.2 (wrap64 ((L.length : Int) + 1))
  by_cases cc : b.1 < (L.length : Int)
  · obtain ⟨r, hr, r2⟩ := go0 ((wrap64 (1 + a.1)) != 1) b.2.1 b.2.2 (wrap64 (1 + a.1)) b.1 0 0 0 0 0 0 0 0 0 0 (by omega) (by omega) b0 (fun _ => cc)
    exact ⟨r, Evn.bind (Evn.of fun _ => ha) (Evn.bind (Evn.of fun _ => hb) (Evn.ite (fun _ => hr) (fun h => absurd cc h))), r2⟩
  · obtain ⟨r, hr, r2⟩ := go0 false b.2.1 b.2.2 (wrap64 (1 + a.1)) b.1 0 0 0 0 0 0 0 0 0 0 (by omega) (by omega) b0 (fun h => by cases h)
    exact ⟨r, Evn.bind (Evn.of fun _ => ha) (Evn.bind (Evn.of fun _ => hb) (Evn.ite (fun h => absurd h cc) (fun _ => hr))), r2⟩

theorem dw_DrawDiffLegs_l0 {l : List Int} (hl : Byts l) (a : List S26) (ha : a.length ≤ 30) : ∀ (D : Nat) (b : List S26) (p s : Int), b.length ≤ 4194304 → 0 ≤ p → p ≤ 600000000 - 60 * (D : Int) → ∃ r, Evn (fun k => spec_DrawDiffLegs.l0 k a b (D : Int) l p s) r ∧ r.1.length ≤ 30 ∧ r.2.length ≤ 4194304 := by
  intro D
  induction D with
  | zero =>
    intro b p s hb h0 h1
    have hn : ¬ ((0 : Nat) : Int) > 0 := by decide
    obtain ⟨u, hu, u2, u3⟩ := dw_one hl h0 (by omega) s 4
    by_cases c1 : u.1 = true
    · obtain ⟨r, hr, r1, r2, r3⟩ := dw_legs hl (p := u.2.1) (by omega) (by omega) u.2.2
      refine ⟨(a, r.1), Evn.step ?_, ha, by dsimp only; omega⟩
      simp only [spec_DrawDiffLegs.l0, if_neg hn, hu, Option.bind_some, if_pos c1]
      exact Evn.bind hr (Evn.done _)
    · refine ⟨(a, b), Evn.step ?_, ha, hb⟩
      simp only [spec_DrawDiffLegs.l0, if_neg hn, hu, Option.bind_some, if_neg c1]
      exact Evn.done _
  | succ D ih =>
    intro b p s hb h0 h1
    obtain ⟨u, hu, u2, u3⟩ := dw_edit hl h0 (by omega) s b hb
    have hp : ((D + 1 : Nat) : Int) > 0 := by omega
    have hw : wrap64 (((D + 1 : Nat) : Int) - 1) = (D : Int) := wrap_pred (by omega)
    have hA := sp_ApplyEdit b hb u.1 u.2.1 ⟨u.2.2.1, u.2.2.2.1, u.2.2.2.2.1, u.2.2.2.2.2.1, u.2.2.2.2.2.2.1⟩ ⟨u.2.2.2.2.2.2.2.1, u.2.2.2.2.2.2.2.2.1, u.2.2.2.2.2.2.2.2.2.1, u.2.2.2.2.2.2.2.2.2.2.1, u.2.2.2.2.2.2.2.2.2.2.2.1⟩
    have hAl := appTs_len b u.1 u.2.1 ⟨u.2.2.1, u.2.2.2.1, u.2.2.2.2.1, u.2.2.2.2.2.1, u.2.2.2.2.2.2.1⟩ ⟨u.2.2.2.2.2.2.2.1, u.2.2.2.2.2.2.2.2.1, u.2.2.2.2.2.2.2.2.2.1, u.2.2.2.2.2.2.2.2.2.2.1, u.2.2.2.2.2.2.2.2.2.2.2.1⟩
    dsimp only at hA
    generalize appTs b u.1 u.2.1 ⟨u.2.2.1, u.2.2.2.1, u.2.2.2.2.1, u.2.2.2.2.2.1, u.2.2.2.2.2.2.1⟩ ⟨u.2.2.2.2.2.2.2.1, u.2.2.2.2.2.2.2.2.1, u.2.2.2.2.2.2.2.2.2.1, u.2.2.2.2.2.2.2.2.2.2.1, u.2.2.2.2.2.2.2.2.2.2.2.1⟩ = T at hA hAl
    by_cases cT : T.2 = true
    · obtain ⟨r, hr, h2⟩ := ih T.1 u.2.2.2.2.2.2.2.2.2.2.2.2.1 u.2.2.2.2.2.2.2.2.2.2.2.2.2 hAl (by omega) (by omega)
      refine ⟨r, Evn.step ?_, h2⟩
      simp only [spec_DrawDiffLegs.l0, if_pos hp, hw]
      refine Evn.bind hu (Evn.bind hA ?_)
      simp only [if_pos cT]
      exact hr
    · obtain ⟨r, hr, h2⟩ := ih b u.2.2.2.2.2.2.2.2.2.2.2.2.1 u.2.2.2.2.2.2.2.2.2.2.2.2.2 hb (by omega) (by omega)
      refine ⟨r, Evn.step ?_, h2⟩
      simp only [spec_DrawDiffLegs.l0, if_pos hp, hw]
      refine Evn.bind hu (Evn.bind hA ?_)
      simp only [if_neg cT]
      exact hr
theorem dw_DrawDiffLegs {l : List Int} (hl : Byts l) : ∃ r, Evn (fun k => spec_DrawDiffLegs.f k l) r ∧ r.1.length ≤ 30 ∧ r.2.length ≤ 4194304 := by
  unfold spec_DrawDiffLegs.f
  obtain ⟨a, ha, a1, a2, a3⟩ := dw_legs hl (p := 0) (by decide) (by decide) 0
  obtain ⟨b, hb, b0, b1, b2, b3⟩ := dw_pick hl (p := a.2.1) (by omega) (by omega) a.2.2 4
  obtain ⟨D, hD⟩ : ∃ D : Nat, b.1 = D := ⟨b.1.toNat, by omega⟩
  have hq : ([] : List S26).length + a.1.length < 3518437208883 := by simp only [List.length_nil]; omega
  obtain ⟨r, hr, h2⟩ := dw_DrawDiffLegs_l0 hl a.1 a1 D ([] ++ a.1) b.2.1 b.2.2 (by rw [List.nil_append]; omega) (by omega) (by omega)
  refine ⟨r, Evn.bind ha ?_, h2⟩
  simp only [Option.bind_some, if_pos hq, hb, hD]
  exact hr

theorem dw_inv (a0 a1 a2 a3 a4 a5 a6 a7 a8 a9 a10 a11 : Int) : ∃ o, spec_l19Inverse.f a0 a1 a2 a3 a4 a5 a6 a7 a8 a9 a10 a11 = some o := by
  unfold spec_l19Inverse.f
  split
  · exact ⟨_, rfl⟩
  · split <;> exact ⟨_, rfl⟩
theorem dw_history_l0 {l : List Int} (hl : Byts l) (z : List S26) : ∀ (D : Nat) (es : List S28) (now : List S26) (p s : Int), es.length + D ≤ 8 → now.length ≤ 4194304 → 0 ≤ p → p ≤ 700000000 - 60 * (D : Int) → ∃ r, Evn (fun k => spec_l1Cur_history.l0 k z es now (D : Int) l p s) r ∧ r.1 = z ∧ r.2.1.length ≤ 8 ∧ p ≤ r.2.2.1 ∧ r.2.2.1 ≤ p + 60 * (D : Int) := by
  intro D
  induction D with
  | zero =>
    intro es now p s hz hn0 h0 h1
    have hn : ¬ ((0 : Nat) : Int) > 0 := by decide
    refine ⟨(z, es, p, s), Evn.step ?_, rfl, by dsimp only; omega, by dsimp only; omega, by dsimp only; omega⟩
    simp only [spec_l1Cur_history.l0, if_neg hn]
    exact Evn.done _
  | succ D ih =>
    intro es now p s hz hn0 h0 h1
    have hp : ((D + 1 : Nat) : Int) > 0 := by omega
    have hw : wrap64 (((D + 1 : Nat) : Int) - 1) = (D : Int) := wrap_pred (by omega)
    have hq : es.length < 1466015503701 := by omega
    have go2 : ∀ (q t a0 a1 a2 a3 a4 a5 a6 a7 a8 a9 a10 a11 : Int), p ≤ q → q ≤ p + 55 → ∃ r, Evn (fun k => spec_l1Cur_history.j2 k z es now ((D + 1 : Nat) : Int) l q t a0 a1 a2 a3 a4 a5 a6 a7 a8 a9 a10 a11) r ∧ r.1 = z ∧ r.2.1.length ≤ 8 ∧ p ≤ r.2.2.1 ∧ r.2.2.1 ≤ p + 60 * ((D + 1 : Nat) : Int) := by
      intro q t a0 a1 a2 a3 a4 a5 a6 a7 a8 a9 a10 a11 q1 q2
      have hA := sp_ApplyEdit now hn0 a0 a1 ⟨a2, a3, a4, a5, a6⟩ ⟨a7, a8, a9, a10, a11⟩
      have hAl := appTs_len now a0 a1 ⟨a2, a3, a4, a5, a6⟩ ⟨a7, a8, a9, a10, a11⟩
      dsimp only at hA
      generalize appTs now a0 a1 ⟨a2, a3, a4, a5, a6⟩ ⟨a7, a8, a9, a10, a11⟩ = T at hA hAl
      by_cases cT : T.2 = true
      · obtain ⟨r, hr, r1, r2, r3, r4⟩ := ih (es ++ [(⟨a0, a1, ⟨a2, a3, a4, a5, a6⟩, ⟨a7, a8, a9, a10, a11⟩⟩ : S28)]) T.1 q t (by rw [List.length_append, List.length_singleton]; omega) hAl (by omega) (by omega)
        refine ⟨r, Evn.step ?_, r1, r2, by omega, by omega⟩
        simp only [spec_l1Cur_history.j2, hw]
        refine Evn.bind hA ?_
        simp only [if_pos cT, if_pos hq]
        exact hr
      · obtain ⟨v, hv, v2, v3⟩ := dw_one hl (p := q) (by omega) (by omega) t 24
        by_cases cv : v.1 = true
        · obtain ⟨r, hr, r1, r2, r3, r4⟩ := ih (es ++ [(⟨a0, a1, ⟨a2, a3, a4, a5, a6⟩, ⟨a7, a8, a9, a10, a11⟩⟩ : S28)]) now v.2.1 v.2.2 (by rw [List.length_append, List.length_singleton]; omega) hn0 (by omega) (by omega)
          refine ⟨r, Evn.step ?_, r1, r2, by omega, by omega⟩
          simp only [spec_l1Cur_history.j2, hw]
          refine Evn.bind hA ?_
          simp only [if_neg cT, hv, Option.bind_some, if_pos cv, if_pos hq]
          exact hr
        · obtain ⟨r, hr, r1, r2, r3, r4⟩ := ih es now v.2.1 v.2.2 (by omega) hn0 (by omega) (by omega)
          refine ⟨r, Evn.step ?_, r1, r2, by omega, by omega⟩
          simp only [spec_l1Cur_history.j2, hw]
          refine Evn.bind hA ?_
          simp only [if_neg cT, hv, Option.bind_some, if_neg cv]
          exact hr
    have go1 : ∀ (f : Bool) (q t a0 a1 a2 a3 a4 a5 a6 a7 a8 a9 a10 a11 : Int), p ≤ q → q ≤ p + 55 → (f = true → 0 < es.length) → ∃ r, Evn (fun k => spec_l1Cur_history.j1 k z es now ((D + 1 : Nat) : Int) f l q t a0 a1 a2 a3 a4 a5 a6 a7 a8 a9 a10 a11) r ∧ r.1 = z ∧ r.2.1.length ≤ 8 ∧ p ≤ r.2.2.1 ∧ r.2.2.1 ≤ p + 60 * ((D + 1 : Nat) : Int) := by
      intro f q t a0 a1 a2 a3 a4 a5 a6 a7 a8 a9 a10 a11 q1 q2 hf
      cases f with
      | false =>
        obtain ⟨r, hr, r1⟩ := go2 q t a0 a1 a2 a3 a4 a5 a6 a7 a8 a9 a10 a11 q1 q2
        refine ⟨r, Evn.step ?_, r1⟩
        simp only [spec_l1Cur_history.j1, Bool.false_eq_true, if_false]
        exact hr
      | true =>
        have hl0 := hf rfl
        have e1 : wrap64 ((es.length : Int) - 1) = (es.length : Int) - 1 := wrap_id (by omega) (by omega)
        have c1 : 0 ≤ (es.length : Int) - 1 := by omega
        have c2 : (es.length : Int) - 1 < (es.length : Int) := by omega
        generalize hx : rd_T28 es ((es.length : Int) - 1) = x
        obtain ⟨o, ho⟩ := dw_inv x.f0 x.f1 x.f2.f0 x.f2.f1 x.f2.f2 x.f2.f3 x.f2.f4 x.f3.f0 x.f3.f1 x.f3.f2 x.f3.f3 x.f3.f4
        obtain ⟨r, hr, r1⟩ := go2 q t o.1 o.2.1 o.2.2.1 o.2.2.2.1 o.2.2.2.2.1 o.2.2.2.2.2.1 o.2.2.2.2.2.2.1 o.2.2.2.2.2.2.2.1 o.2.2.2.2.2.2.2.2.1 o.2.2.2.2.2.2.2.2.2.1 o.2.2.2.2.2.2.2.2.2.2.1 o.2.2.2.2.2.2.2.2.2.2.2 q1 q2
        refine ⟨r, Evn.step ?_, r1⟩
        simp only [spec_l1Cur_history.j1, if_true, e1, if_pos c1, if_pos c2, hx, ho, Option.bind_some]
        exact hr
    obtain ⟨u, hu, u2, u3⟩ := dw_edit hl h0 (by omega) s now hn0
    obtain ⟨v, hv, v2, v3⟩ := dw_one hl (p := u.2.2.2.2.2.2.2.2.2.2.2.2.1) (by omega) (by omega) u.2.2.2.2.2.2.2.2.2.2.2.2.2 5
    by_cases cv : v.1 = true
    · obtain ⟨r, hr, r1⟩ := go1 (decide ((es.length : Int) > 0)) v.2.1 v.2.2 u.1 u.2.1 u.2.2.1 u.2.2.2.1 u.2.2.2.2.1 u.2.2.2.2.2.1 u.2.2.2.2.2.2.1 u.2.2.2.2.2.2.2.1 u.2.2.2.2.2.2.2.2.1 u.2.2.2.2.2.2.2.2.2.1 u.2.2.2.2.2.2.2.2.2.2.1 u.2.2.2.2.2.2.2.2.2.2.2.1 (by omega) (by omega) (fun h => by have := of_decide_eq_true h; omega)
      refine ⟨r, Evn.step ?_, r1⟩
      simp only [spec_l1Cur_history.l0, if_pos hp]
      refine Evn.bind hu ?_
      simp only [hv, Option.bind_some, if_pos cv]
      exact hr
    · obtain ⟨r, hr, r1⟩ := go1 false v.2.1 v.2.2 u.1 u.2.1 u.2.2.1 u.2.2.2.1 u.2.2.2.2.1 u.2.2.2.2.2.1 u.2.2.2.2.2.2.1 u.2.2.2.2.2.2.2.1 u.2.2.2.2.2.2.2.2.1 u.2.2.2.2.2.2.2.2.2.1 u.2.2.2.2.2.2.2.2.2.2.1 u.2.2.2.2.2.2.2.2.2.2.2.1 (by omega) (by omega) (fun h => by cases h)
      refine ⟨r, Evn.step ?_, r1⟩
      simp only [spec_l1Cur_history.l0, if_pos hp]
      refine Evn.bind hu ?_
      simp only [hv, Option.bind_some, if_neg cv]
      exact hr
theorem dw_history {l : List Int} (hl : Byts l) (s : Int) : ∃ r, Evn (fun k => spec_l1Cur_history.f k l 0 s) r ∧ r.1.length ≤ 30 ∧ r.2.1.length ≤ 8 ∧ 0 ≤ r.2.2.1 ∧ r.2.2.1 ≤ 1000 := by
  unfold spec_l1Cur_history.f
  obtain ⟨a, ha, a1, a2, a3⟩ := dw_legs hl (p := 0) (by decide) (by decide) s
  obtain ⟨b, hb, b0, b1, b2, b3⟩ := dw_pick hl (p := a.2.1) (by omega) (by omega) a.2.2 8
  obtain ⟨D, hD⟩ : ∃ D : Nat, b.1 = D := ⟨b.1.toNat, by omega⟩
  obtain ⟨r, hr, r1, r2, r3, r4⟩ := dw_history_l0 hl a.1 D [] a.1 b.2.1 b.2.2 (by simp only [List.length_nil]; omega) (by omega) (by omega) (by omega)
  refine ⟨r, Evn.bind ha ?_, by rw [r1]; exact a1, r2, by omega, by omega⟩
  simp only [hb, Option.bind_some, hD]
  exact hr

theorem dw_DrawIsHistory {l : List Int} (hl : Byts l) : ∃ r, Evn (fun k => spec_DrawIsHistory.f k l) r ∧ r.1.length ≤ 30 ∧ r.2.length ≤ 8 := by
  unfold spec_DrawIsHistory.f
  obtain ⟨a, ha, a1, a2, _, _⟩ := dw_history hl 0
  exact ⟨(a.1, a.2.1), Evn.bind ha (Evn.done _), a1, a2⟩

theorem dw_DrawSameVersions {l : List Int} (hl : Byts l) : ∃ r, Evn (fun k => spec_DrawSameVersions.f k l) r ∧ r.1.length ≤ 30 ∧ r.2.length ≤ 8 := by
  unfold spec_DrawSameVersions.f
  obtain ⟨a, ha, a1, a2⟩ := dw_DrawIsHistory hl
  exact ⟨(a.1, a.2), Evn.bind ha (Evn.done _), a1, a2⟩

theorem dw_DrawEditsOn {l : List Int} (hl : Byts l) : ∃ r, Evn (fun k => spec_DrawEditsOn.f k l) r ∧ r.1.length ≤ 30 ∧ r.2.1.length ≤ 8 := by
  unfold spec_DrawEditsOn.f
  obtain ⟨a, ha, a1, a2, a3, a4⟩ := dw_history hl 0
  obtain ⟨b, hb, _, _, _⟩ := dw_among hl (p := a.2.2.1) (by omega) (by omega) a.2.2.2 [0, 0, 1, 1, 2, 2, 3, 4, 5, 7, 8, (-1)] (by simp)
  refine ⟨(a.1, a.2.1, b.1), Evn.bind ha ?_, a1, a2⟩
  simp only [spec_l1Cur_stationOf.f, hb, Option.bind_some]
  exact Evn.done _

theorem im_within (x y z : Int) : impl_within.f x y z = some (decide (y ≤ x ∧ x ≤ z)) := by
  unfold impl_within.f
  by_cases h : x ≥ y <;> simp [h] <;> omega

theorem im_isStation (x : Int) : impl_isStation.f x = some (decide (0 ≤ x ∧ x ≤ 7)) := by
  simp only [impl_isStation.f, im_within, Option.bind_some]

theorem im_IsLeg (x : S26) : impl_IsLeg.f x.f0 x.f1 x.f2 x.f3 x.f4 = some (okLeg x) := by
  simp only [impl_IsLeg.f, im_isStation, impl_isBearing.f, im_within, Option.bind_some, ite_and, ite_not, okLeg]

theorem im_areLegs_l0 (xs : List S26) (hx : xs.length ≤ 4194304) : ∀ (d i : Nat), i + d = xs.length → Evn (fun k => impl_areLegs.l0 k xs xs (xs.length : Int) (i : Int)) ((xs.drop i).all okLeg && decide (xs.length ≤ 12)) := by
  intro d
  induction d with
  | zero =>
    intro i h
    refine Evn.step ?_
    have h1 : ¬ (i : Int) < (xs.length : Int) := by omega
    simp only [impl_areLegs.l0, if_neg h1]
    rw [List.drop_eq_nil_of_le (by omega)]
    refine (Evn.done _).eq_ ?_
    simp only [List.all_nil, Bool.true_and, decide_eq_decide]
    omega
  | succ d ih =>
    intro i h
    refine Evn.step ?_
    have h1 : (i : Int) < (xs.length : Int) := by omega
    have h2 : 0 ≤ (i : Int) := by omega
    simp only [impl_areLegs.l0, if_pos h1, if_pos h2, im_IsLeg, Option.bind_some, wrap_succ (show i < 4611686018427387904 by omega), rd_T26, Int.toNat_natCast]
    rw [getD_drop xs i z26 (by omega), List.all_cons]
    exact Evn.ite (fun c => (ih (i + 1) (by omega)).eq_ (by simp only [c, Bool.true_and])) (fun c => (Evn.done _).eq_ (by simp only [Bool.eq_false_iff.mpr c, Bool.false_and]))
theorem im_areLegs (xs : List S26) (hx : xs.length ≤ 4194304) : Evn (fun k => impl_areLegs.f k xs) (goodLegs xs) := by
  have h := im_areLegs_l0 xs hx xs.length 0 (by omega)
  simpa [impl_areLegs.f, goodLegs] using h

theorem im_Diff_l2 (ys : List S26) : ∀ (d i : Nat) (zs : List S28), d = ys.length - i → i ≤ 1000 → ys.length ≤ 1000 → zs.length + d ≤ 100000 → Evn (fun k => impl_DiffLegs.l2 k ys zs (i : Int)) (finD (zs ++ adn ys d i)) := by
  intro d
  induction d with
  | zero =>
    intro i zs h hi hy hz
    refine Evn.step ?_
    have h1 : ¬ (i : Int) < (ys.length : Int) := by omega
    simp only [impl_DiffLegs.l2, if_neg h1, adn, List.append_nil]
    unfold finD
    exact Evn.ite (fun c => by rw [if_pos c]; exact Evn.done _) (fun c => by rw [if_neg c]; exact Evn.done _)
  | succ d ih =>
    intro i zs h hi hy hz
    have h1 : (i : Int) < (ys.length : Int) := by omega
    have h2 : 0 ≤ (i : Int) := by omega
    have hw := wrap_succ (show i < 4611686018427387904 by omega)
    refine Evn.step ?_
    simp only [impl_DiffLegs.l2, if_pos h1, if_pos h2, hw, rd_T26, Int.toNat_natCast, adn]
    clear hw
    refine Evn.ite (fun _ => ?_) (fun c2 => absurd (by omega) c2)
    have h5 := ih (i + 1) (zs ++ [(⟨1, i, ⟨0, 0, 0, 0, 0⟩, ys.getD i z26⟩ : S28)]) (by omega) (by omega) hy (by rw [List.length_append, List.length_singleton]; omega)
    rw [List.append_assoc] at h5
    exact h5
theorem im_Diff_l1 (xs ys : List S26) (hx : xs.length ≤ 12) (hy : ys.length ≤ 12) (c : Nat) (hc : c ≤ 12) : ∀ (d : Nat) (x8 : Int) (zs : List S28), x8 = ((c + d : Nat) : Int) - 1 → c + d ≤ xs.length → zs.length + d ≤ 1000 → Evn (fun k => impl_DiffLegs.l1 k xs ys zs (c : Int) x8) (finD (zs ++ (rmv xs c d ++ adn ys (ys.length - c) c))) := by
  intro d
  induction d with
  | zero =>
    intro x8 zs h8 hd hz
    refine Evn.step ?_
    have h1 : ¬ x8 ≥ (c : Int) := by omega
    simp only [impl_DiffLegs.l1, if_neg h1, rmv, List.nil_append]
    exact im_Diff_l2 ys _ c zs rfl (by omega) (by omega) (by omega)
  | succ d ih =>
    intro x8 zs h8 hd hz
    have h8' : x8 = ((c + d : Nat) : Int) := by omega
    have h1 : x8 ≥ (c : Int) := by omega
    have h2 : 0 ≤ x8 := by omega
    have h3 : x8 < (xs.length : Int) := by omega
    have hw : wrap64 (x8 - 1) = x8 - 1 := wrap_id (by omega) (by omega)
    refine Evn.step ?_
    simp only [impl_DiffLegs.l1, if_pos h1, if_pos h2, if_pos h3, hw, rmv]
    clear hw
    refine Evn.ite (fun _ => ?_) (fun c2 => absurd (by omega) c2)
    have h5 := ih (x8 - 1) (zs ++ [(⟨2, x8, rd_T26 xs x8, ⟨0, 0, 0, 0, 0⟩⟩ : S28)]) (by omega) (by omega) (by rw [List.length_append, List.length_singleton]; omega)
    rw [List.append_assoc] at h5
    have e : rd_T26 xs x8 = xs.getD (c + d) z26 := by rw [h8']; unfold rd_T26; rw [Int.toNat_natCast]
    rw [e, h8'] at h5
    rw [← h8'] at h5 ⊢
    simp only [e]
    exact h5
theorem im_Diff_l0 (xs ys : List S26) (hx : xs.length ≤ 12) (hy : ys.length ≤ 12) (m : Nat) (hm : m = min xs.length ys.length) : ∀ (d i : Nat) (zs : List S28), i + d = m → zs.length + d ≤ 100 → Evn (fun k => impl_DiffLegs.l0 k xs ys zs (m : Int) (m : Int) (i : Int)) (finD (zs ++ (chg xs ys d i ++ (rmv xs m (xs.length - m) ++ adn ys (ys.length - m) m)))) := by
  intro d
  induction d with
  | zero =>
    intro i zs h hz
    have h1 : ¬ (i : Int) < (m : Int) := by omega
    have hw : wrap64 ((xs.length : Int) - 1) = (xs.length : Int) - 1 := wrap_id (by omega) (by omega)
    refine Evn.step ?_
    simp only [impl_DiffLegs.l0, if_neg h1, hw, chg, List.nil_append]
    clear hw
    exact im_Diff_l1 xs ys hx hy m (by omega) (xs.length - m) ((xs.length : Int) - 1) zs (by omega) (by omega) (by omega)
  | succ d ih =>
    intro i zs h hz
    have h0 : (i : Int) < (m : Int) := by omega
    have h1 : (i : Int) < (xs.length : Int) := by omega
    have h2 : (i : Int) < (ys.length : Int) := by omega
    have h3 : 0 ≤ (i : Int) := by omega
    have hw := wrap_succ (show i < 4611686018427387904 by omega)
    refine Evn.step ?_
    simp only [impl_DiffLegs.l0, if_pos h0, if_pos h1, if_pos h2, if_pos h3, hw, rd_T26, Int.toNat_natCast]
    clear hw
    have ec : ∀ b : Bool, neqL (xs.getD i z26) (ys.getD i z26) = b → chg xs ys (d + 1) i = if b = true then (⟨3, i, xs.getD i z26, ys.getD i z26⟩ : S28) :: chg xs ys d (i + 1) else chg xs ys d (i + 1) := by
      intro b hb
      rw [← hb]
      rfl
    refine Evn.ite (fun c => ?_) (fun c => ?_)
    · rw [ec true c, if_pos rfl]
      refine Evn.ite (fun _ => ?_) (fun c2 => absurd (by omega) c2)
      have h5 := ih (i + 1) (zs ++ [(⟨3, i, xs.getD i z26, ys.getD i z26⟩ : S28)]) (by omega) (by rw [List.length_append, List.length_singleton]; omega)
      rw [List.append_assoc] at h5
      exact h5
    · rw [ec false (Bool.eq_false_iff.mpr c), if_neg (by decide)]
      exact ih (i + 1) zs (by omega) (by omega)
theorem im_DiffLegs (xs ys : List S26) (hx : xs.length ≤ 4194304) (hy : ys.length ≤ 4194304) : Evn (fun k => impl_DiffLegs.f k xs ys) (diffTs xs ys) := by
  have no : ¬ (goodLegs xs = true ∧ goodLegs ys = true) → Evn (fun k => impl_DiffLegs.j0 k xs ys true) (diffTs xs ys) := by
    intro h
    unfold diffTs
    rw [if_neg h]
    refine Evn.step ?_
    simp only [impl_DiffLegs.j0, if_true]
    exact Evn.done _
  unfold impl_DiffLegs.f
  refine Evn.bind (im_areLegs xs hx) ?_
  refine Evn.ite (fun c1 => ?_) (fun c1 => no (fun h => c1 h.1))
  refine Evn.bind (im_areLegs ys hy) ?_
  by_cases c2 : goodLegs ys = true
  · rw [c2, Bool.not_true]
    refine Evn.step ?_
    simp only [impl_DiffLegs.j0, Bool.false_eq_true, if_false, mn_nat]
    unfold diffTs
    rw [if_pos ⟨c1, c2⟩]
    have l1 := goodLegs_len c1
    have l2 := goodLegs_len c2
    exact im_Diff_l0 xs ys l1 l2 (min xs.length ys.length) rfl (min xs.length ys.length) 0 [] (by omega) (by simp only [List.length_nil]; omega)
  · rw [Bool.eq_false_iff.mpr c2, Bool.not_false]
    exact no (fun h => c2 h.2)

theorem im_isEdit (k a : Int) (x y : S26) : impl_isEdit.f k a x.f0 x.f1 x.f2 x.f3 x.f4 y.f0 y.f1 y.f2 y.f3 y.f4 = some (editB k a x y) := by
  simp only [impl_isEdit.f, im_IsLeg, im_within, Option.bind_some]
  unfold editB zeroB
  repeat' split
  all_goals rfl

theorem clone_leg (l : List S26) (h : l.length ≤ 4194304) : impl_Leg_91.f l = some l := by
  unfold impl_Leg_91.f
  rw [if_pos (by omega)]
theorem set_form {α : Type} (l : List α) (i : Nat) (v : α) (h : i < l.length) : l.set i v = l.take i ++ (v :: l.drop (i + 1)) := by
  rw [List.set_eq_take_append_cons_drop, if_pos h]
theorem im_apply (l : List S26) (hl : l.length ≤ 12) (kd a : Int) (x y : S26) : Evn (fun k => impl_apply.f k l kd a x.f0 x.f1 x.f2 x.f3 x.f4 y.f0 y.f1 y.f2 y.f3 y.f4) (appL l kd a x y) := by
  have no0 : Evn (fun k => impl_apply.j0 k l true kd a x.f0 x.f1 x.f2 x.f3 x.f4 y.f0 y.f1 y.f2 y.f3 y.f4) ([], false) := by
    refine Evn.step ?_
    simp only [impl_apply.j0, if_true]
    exact Evn.done _
  have no1 : Evn (fun k => impl_apply.j1 k l true kd a x.f0 x.f1 x.f2 x.f3 x.f4 y.f0 y.f1 y.f2 y.f3 y.f4) ([], false) := by
    refine Evn.step ?_
    simp only [impl_apply.j1, if_true]
    exact Evn.done _
  unfold impl_apply.f appL
  simp only [Option.bind_some, im_isEdit]
  by_cases hE : editB kd a x y = true
  · obtain ⟨⟨ha0, ha1⟩, hk⟩ := editB_in hE
    simp only [hE, if_true]
    by_cases k1 : kd = 1
    · simp only [if_pos k1]
      refine Evn.ite (fun c1 => by rw [if_pos c1]; exact no0) (fun c1 => ?_)
      rw [if_neg c1]
      by_cases c2 : l.length = 12
      · have e : ((l.length : Int) == 12) = true := beq_iff_eq.2 (by omega)
        rw [e, if_pos c2]
        exact no0
      · have e : ((l.length : Int) == 12) = false := beq_eq_false_iff_ne.2 (by omega)
        rw [e, if_neg c2]
        refine Evn.step ?_
        have hi : impl_Leg_90.f l a [y] = some (l.take a.toNat ++ (y :: l.drop a.toNat)) := by
          unfold impl_Leg_90.f
          rw [if_pos ⟨ha0, by omega, rfl, by omega⟩]
          rfl
        have hi' : impl_Leg_90.f l a [(⟨y.f0, y.f1, y.f2, y.f3, y.f4⟩ : S26)] = some (l.take a.toNat ++ (y :: l.drop a.toNat)) := hi
        simp only [impl_apply.j0, Bool.false_eq_true, if_false, clone_leg l (by omega), Option.bind_some, hi']
        exact Evn.done _
    · simp only [if_neg k1]
      refine Evn.ite (fun c1 => by rw [if_pos c1]; exact no1) (fun c1 => ?_)
      have c4 : a < (l.length : Int) := by omega
      rw [if_neg c1]
      simp only [if_pos ha0, if_pos c4, rd_T26]
      have eb : ∀ b : Bool, neqL (l.getD a.toNat z26) x = b → Evn (fun k => impl_apply.j1 k l b kd a x.f0 x.f1 x.f2 x.f3 x.f4 y.f0 y.f1 y.f2 y.f3 y.f4) (if b = true then ([], false) else if kd = 2 then (l.take a.toNat ++ l.drop (a.toNat + 1), true) else (l.take a.toNat ++ (y :: l.drop (a.toNat + 1)), true)) := by
        intro b hb
        cases b with
        | true => rw [if_pos rfl]; exact no1
        | false =>
          rw [if_neg (by decide)]
          refine Evn.step ?_
          simp only [impl_apply.j1, Bool.false_eq_true, if_false]
          by_cases k2 : kd = 2
          · have hi : impl_leaving.f l a = some (l.take a.toNat ++ l.drop (a.toNat + 1)) := by
              unfold impl_leaving.f
              rw [if_pos ⟨ha0, by omega, by omega⟩]
            simp only [if_pos k2, hi, Option.bind_some]
            exact Evn.done _
          · simp only [if_neg k2, clone_leg l (by omega), Option.bind_some, if_pos ha0, if_pos c4]
            refine (Evn.done _).eq_ ?_
            rw [set_form _ _ _ (by omega)]
      exact eb _ rfl
  · simp only [if_neg hE]
    exact Evn.done _

theorem rd_last (pre : List (List S26)) (c : List S26) (z : List S26) : (pre ++ [c]).getD pre.length z = c := by
  rw [List.getD_eq_getElem?_getD, List.getElem?_append_right (Nat.le_refl _), Nat.sub_self]
  rfl
theorem im_versions_l0 (hs : List S28) (hh : hs.length ≤ 10) : ∀ (d i : Nat) (pre : List (List S26)) (c : List S26), i + d = hs.length → pre.length = i → c.length ≤ 12 → Evn (fun k => impl_versions.l0 k (pre ++ [c]) hs (hs.length : Int) (i : Int)) (if (runB c (hs.drop i)).2 = true then (pre ++ versL c (hs.drop i), true) else ([], false)) := by
  intro d
  induction d with
  | zero =>
    intro i pre c h hp hc
    refine Evn.step ?_
    have h1 : ¬ (i : Int) < (hs.length : Int) := by omega
    simp only [impl_versions.l0, if_neg h1]
    rw [List.drop_eq_nil_of_le (by omega)]
    exact Evn.done _
  | succ d ih =>
    intro i pre c h hp hc
    have h1 : (i : Int) < (hs.length : Int) := by omega
    have h2 : 0 ≤ (i : Int) := by omega
    have h3 : (i : Int) < ((pre ++ [c]).length : Int) := by rw [List.length_append, List.length_singleton]; omega
    have hw := wrap_succ (show i < 4611686018427387904 by omega)
    have hr : (pre ++ [c]).getD i [] = c := by rw [← hp]; exact rd_last pre c []
    refine Evn.step ?_
    simp only [impl_versions.l0, if_pos h1, if_pos h2, if_pos h3, hw, rd_T28, rd_L3, Int.toNat_natCast, hr]
    clear hw
    rw [getD_drop hs i z28 (by omega)]
    refine Evn.bind (im_apply c hc (hs.getD i z28).f0 (hs.getD i z28).f1 (hs.getD i z28).f2 (hs.getD i z28).f3) ?_
    unfold runB versL
    unfold apE
    refine Evn.ite (fun c2 => ?_) (fun c2 => by rw [if_neg c2, if_neg (by decide)]; exact Evn.done _)
    rw [if_pos c2]
    refine Evn.ite (fun _ => ?_) (fun h4 => absurd (by rw [List.length_append, List.length_singleton]; omega) h4)
    have h5 := ih (i + 1) (pre ++ [c]) (appL c (hs.getD i z28).f0 (hs.getD i z28).f1 (hs.getD i z28).f2 (hs.getD i z28).f3).1 (by omega) (by rw [List.length_append, List.length_singleton]; omega) (appL_len hc _ _ _ _)
    refine h5.eq_ ?_
    rw [List.append_assoc]
    rfl
def verTs (l : List S26) (hs : List S28) : List (List S26) × Bool := if goodH l hs = true then (versL l hs, true) else ([], false)
theorem im_versions (l : List S26) (hs : List S28) (hl : l.length ≤ 4194304) : Evn (fun k => impl_versions.f k l hs) (verTs l hs) := by
  have no : ¬ goodH l hs = true → Evn (fun k => impl_versions.j0 k l hs [] true) (verTs l hs) := by
    intro h
    unfold verTs
    rw [if_neg h]
    refine Evn.step ?_
    simp only [impl_versions.j0, if_true]
    exact Evn.done _
  unfold impl_versions.f
  refine Evn.bind (im_areLegs l hl) ?_
  refine Evn.ite (fun c => ?_) (fun c => no (fun h => c (goodH_in h).1))
  by_cases c2 : (hs.length : Int) > 10
  · rw [decide_eq_true c2]
    exact no (fun h => by have := (goodH_in h).2.1; omega)
  · rw [decide_eq_false c2]
    refine Evn.step ?_
    simp only [impl_versions.j0, Bool.false_eq_true, if_false, clone_leg l hl, Option.bind_some]
    refine Evn.ite (fun _ => ?_) (fun c3 => absurd (by rw [List.length_nil]; omega) c3)
    have h := im_versions_l0 hs (by omega) hs.length 0 [] l (by omega) rfl (goodLegs_len c)
    rw [List.drop_zero, List.nil_append, List.nil_append] at h
    refine h.eq_ ?_
    unfold verTs goodH
    rw [c, Bool.true_and, decide_eq_true (show hs.length ≤ 10 by omega), Bool.true_and]

theorem im_VersionAt (l : List S26) (hs : List S28) (n : Int) (hl : l.length ≤ 4194304) : Evn (fun k => impl_VersionAt.f k l hs n) (atTs l hs n) := by
  unfold impl_VersionAt.f atTs
  refine Evn.bind (im_versions l hs hl) ?_
  unfold verTs
  by_cases c : goodH l hs = true
  · rw [if_pos c]
    simp only [if_true, im_within, Option.bind_some]
    refine Evn.ite (fun c2 => ?_) (fun c2 => by rw [if_neg (fun h => c2 (decide_eq_true h.2))]; exact Evn.done _)
    have c3 := of_decide_eq_true c2
    obtain ⟨m, rfl⟩ : ∃ m : Nat, n = m := ⟨n.toNat, by omega⟩
    obtain ⟨g1, g2, g3⟩ := goodH_in c
    have hv := versL_len hs l
    have h1 : 0 ≤ (m : Int) := by omega
    have h2 : (m : Int) < ((versL l hs).length : Int) := by omega
    refine Evn.eq_ (a := ((runB l (hs.take m)).1, true)) ?_ (by rw [if_pos ⟨c, c3⟩, Int.toNat_natCast])
    simp only [if_pos h1, if_pos h2, rd_L3, Int.toNat_natCast, vers_at hs l m g3 (by omega)]
    exact Evn.done _
  · rw [if_neg c]
    refine Evn.eq_ (a := ([], false)) ?_ (if_neg (fun h => c h.1)).symm
    simp only [Bool.false_eq_true, if_false]
    exact Evn.done _

theorem im_IsHistory (l : List S26) (hs : List S28) (hl : l.length ≤ 4194304) : Evn (fun k => impl_IsHistory.f k l hs) (goodH l hs) := by
  unfold impl_IsHistory.f
  refine Evn.bind (im_versions l hs hl) ?_
  refine (Evn.done _).eq_ ?_
  unfold verTs
  by_cases h : goodH l hs = true
  · rw [if_pos h, h]
  · rw [if_neg h, Bool.eq_false_iff.mpr h]

theorem im_touches (x : S26) (s : Int) : impl_touches.f x.f0 x.f1 x.f2 x.f3 x.f4 s = some (tchB x s) := by
  unfold impl_touches.f tchB
  split
  · split <;> rfl
  · rfl

theorem im_EditsOn_l0 (hs : List S28) (hh : hs.length ≤ 10) (s : Int) : ∀ (d i : Nat) (zs : List Int), i + d = hs.length → zs.length ≤ i → Evn (fun k => impl_EditsOn.l0 k s zs hs (hs.length : Int) (i : Int)) (zs ++ onL s (hs.drop i) i, true) := by
  intro d
  induction d with
  | zero =>
    intro i zs h hz
    refine Evn.step ?_
    have h1 : ¬ (i : Int) < (hs.length : Int) := by omega
    simp only [impl_EditsOn.l0, if_neg h1]
    rw [List.drop_eq_nil_of_le (by omega), onL, List.append_nil]
    exact Evn.done _
  | succ d ih =>
    intro i zs h hz
    have h1 : (i : Int) < (hs.length : Int) := by omega
    have h2 : 0 ≤ (i : Int) := by omega
    have hw := wrap_succ (show i < 4611686018427387904 by omega)
    refine Evn.step ?_
    simp only [impl_EditsOn.l0, if_pos h1, if_pos h2, hw, rd_T28, Int.toNat_natCast, im_touches, Option.bind_some]
    clear hw
    rw [getD_drop hs i z28 (by omega), onL]
    have hadd : Evn (fun k => if zs.length < 17592186044416 then impl_EditsOn.l0 k s (zs ++ [(i : Int)]) hs (hs.length : Int) ((i + 1 : Nat) : Int) else none) (zs ++ (i : Int) :: onL s (hs.drop (i + 1)) ((i : Int) + 1), true) := by
      refine Evn.ite (fun _ => ?_) (fun c2 => absurd (by omega) c2)
      have h5 := ih (i + 1) (zs ++ [(i : Int)]) (by omega) (by rw [List.length_append, List.length_singleton]; omega)
      rw [List.append_assoc] at h5
      exact h5
    refine Evn.ite (fun c => by rw [if_pos c]; exact hadd) (fun c => ?_)
    rw [if_neg c]
    refine Evn.ite (fun c2 => by rw [if_pos c2]; exact hadd) (fun c2 => ?_)
    rw [if_neg c2]
    exact ih (i + 1) zs (by omega) (by omega)
theorem im_EditsOn (l : List S26) (hs : List S28) (s : Int) (hl : l.length ≤ 4194304) : Evn (fun k => impl_EditsOn.f k l hs s) (onTs l hs s) := by
  have no : ¬ (goodH l hs = true ∧ decide (0 ≤ s ∧ s ≤ 7) = true) → Evn (fun k => impl_EditsOn.j0 k hs s true) (onTs l hs s) := by
    intro h
    unfold onTs
    rw [if_neg h]
    refine Evn.step ?_
    simp only [impl_EditsOn.j0, if_true]
    exact Evn.done _
  unfold impl_EditsOn.f
  simp only [Option.bind_some, im_isStation]
  refine Evn.bind (im_IsHistory l hs hl) ?_
  refine Evn.ite (fun c => ?_) (fun c => no (fun h => c h.1))
  by_cases c2 : decide (0 ≤ s ∧ s ≤ 7) = true
  · rw [c2, Bool.not_true]
    refine Evn.step ?_
    simp only [impl_EditsOn.j0, Bool.false_eq_true, if_false]
    unfold onTs
    rw [if_pos ⟨c, c2⟩]
    exact im_EditsOn_l0 hs (goodH_in c).2.1 s hs.length 0 [] (by omega) (Nat.le_refl _)
  · rw [Bool.eq_false_iff.mpr c2, Bool.not_false]
    exact no (fun h => c2 h.2)

theorem im_Equal_l0 (xs ys : List S26) (he : xs.length = ys.length) (hx : xs.length ≤ 12) : ∀ (d i : Nat), i + d = xs.length → Evn (fun k => impl_Leg_78.l0 k xs ys (xs.length : Int) (i : Int)) (sameB (xs.drop i) (ys.drop i)) := by
  intro d
  induction d with
  | zero =>
    intro i h
    refine Evn.step ?_
    have h1 : ¬ (i : Int) < (xs.length : Int) := by omega
    simp only [impl_Leg_78.l0, if_neg h1]
    rw [List.drop_eq_nil_of_le (by omega), List.drop_eq_nil_of_le (by omega)]
    exact Evn.done _
  | succ d ih =>
    intro i h
    have h1 : (i : Int) < (xs.length : Int) := by omega
    have h2 : 0 ≤ (i : Int) := by omega
    have h3 : (i : Int) < (ys.length : Int) := by omega
    have hw := wrap_succ (show i < 4611686018427387904 by omega)
    refine Evn.step ?_
    simp only [impl_Leg_78.l0, if_pos h1, if_pos h2, if_pos h3, hw, rd_T26, Int.toNat_natCast]
    clear hw
    rw [getD_drop xs i z26 (by omega), getD_drop ys i z26 (by omega), sameB]
    exact Evn.ite (fun c => by rw [if_pos (show neqL _ _ = true from c)]; exact Evn.done _) (fun c => by rw [if_neg (show ¬ neqL _ _ = true from c)]; exact ih (i + 1) (by omega))
theorem im_Equal (xs ys : List S26) (hx : xs.length ≤ 12) : Evn (fun k => impl_Leg_78.f k xs ys) (sameB xs ys) := by
  unfold impl_Leg_78.f
  refine Evn.ite (fun c => ?_) (fun c => ?_)
  · have h := im_Equal_l0 xs ys (by omega) hx xs.length 0 (by omega)
    rw [List.drop_zero, List.drop_zero] at h
    exact h
  · refine (Evn.done _).eq_ ?_
    exact (Bool.eq_false_iff.mpr (fun h => c (by rw [sameB_len xs ys h]))).symm

theorem im_same_l1 (V : List (List S26)) (hV : V.length ≤ 11) (h12 : ∀ v ∈ V, v.length ≤ 12) (m q : Nat) (hm : m < V.length) (R : List S77)
    (hrest : ∀ zs : List S77, zs.length + q ≤ 1000 → Evn (fun k => impl_SameVersions.l0 k V zs (V.length : Int) ((m + 1 : Nat) : Int)) (zs ++ R, true)) : ∀ (d n : Nat) (zs : List S77), n + d = V.length → zs.length + d + q ≤ 1000 → Evn (fun k => impl_SameVersions.l1 k V zs (m : Int) (n : Int) (V.length : Int) (m : Int)) (zs ++ (smRow V m d n ++ R), true) := by
  intro d
  induction d with
  | zero =>
    intro n zs h hz
    refine Evn.step ?_
    have h1 : ¬ (n : Int) < (V.length : Int) := by omega
    simp only [impl_SameVersions.l1, if_neg h1, smRow, List.nil_append, wrap_succ (show m < 4611686018427387904 by omega)]
    exact hrest zs (by omega)
  | succ d ih =>
    intro n zs h hz
    have h1 : (n : Int) < (V.length : Int) := by omega
    have h2 : 0 ≤ (m : Int) := by omega
    have h3 : (m : Int) < (V.length : Int) := by omega
    have h4 : 0 ≤ (n : Int) := by omega
    have hw := wrap_succ (show n < 4611686018427387904 by omega)
    refine Evn.step ?_
    simp only [impl_SameVersions.l1, if_pos h1, if_pos h2, if_pos h3, if_pos h4, hw, rd_L3, Int.toNat_natCast, smRow]
    clear hw
    refine Evn.bind (im_Equal _ _ (h12 _ (getD_in V m [] hm))) ?_
    refine Evn.ite (fun c => ?_) (fun c => ?_)
    · rw [if_pos c]
      refine Evn.ite (fun _ => ?_) (fun c2 => absurd (by omega) c2)
      have h5 := ih (n + 1) (zs ++ [(⟨m, n⟩ : S77)]) (by omega) (by rw [List.length_append, List.length_singleton]; omega)
      rw [List.append_assoc] at h5
      exact h5
    · rw [if_neg c]
      exact ih (n + 1) zs (by omega) (by omega)
theorem im_same_l0 (V : List (List S26)) (hV : V.length ≤ 11) (h12 : ∀ v ∈ V, v.length ≤ 12) : ∀ (d m : Nat) (zs : List S77), m + d = V.length → zs.length + d * 11 ≤ 1000 → Evn (fun k => impl_SameVersions.l0 k V zs (V.length : Int) (m : Int)) (zs ++ smAll V d m, true) := by
  intro d
  induction d with
  | zero =>
    intro m zs h hz
    refine Evn.step ?_
    have h1 : ¬ (m : Int) < (V.length : Int) := by omega
    simp only [impl_SameVersions.l0, if_neg h1, smAll, List.append_nil]
    exact Evn.done _
  | succ d ih =>
    intro m zs h hz
    have h1 : (m : Int) < (V.length : Int) := by omega
    have hw := wrap_succ (show m < 4611686018427387904 by omega)
    refine Evn.step ?_
    simp only [impl_SameVersions.l0, if_pos h1, hw, smAll]
    clear hw
    exact im_same_l1 V hV h12 m (d * 11) (by omega) (smAll V d (m + 1)) (fun zs' hz' => ih (m + 1) zs' (by omega) hz') d (m + 1) zs (by omega) (by omega)
theorem im_SameVersions (l : List S26) (hs : List S28) (hl : l.length ≤ 4194304) : Evn (fun k => impl_SameVersions.f k l hs) (sameTs l hs) := by
  unfold impl_SameVersions.f sameTs
  refine Evn.bind (im_versions l hs hl) ?_
  unfold verTs
  by_cases c : goodH l hs = true
  · simp only [if_pos c, if_true]
    have h2 := (goodH_in c).2.1
    have hV := versL_len hs l
    have h5 := im_same_l0 (versL l hs) (by omega) (vers_len12 hs l (goodLegs_len (goodH_in c).1)) (hs.length + 1) 0 [] (by omega) (by simp only [List.length_nil]; omega)
    exact h5
  · simp only [if_neg c, Bool.false_eq_true, if_false]
    exact Evn.done _

theorem ev_vEdits_l0 (xs : List S28) : ∀ (D i : Nat), i + D = xs.length → xs.length ≤ 4194304 → Evn (fun k => laws_vEdits.l0 k xs xs (i : Int)) true := by
  intro D
  induction D with
  | zero =>
    intro i h hx
    refine Evn.step ?_
    have h1 : ¬ (i : Int) < (xs.length : Int) := by omega
    simp only [laws_vEdits.l0, if_neg h1]
    exact Evn.done _
  | succ D ih =>
    intro i h hx
    refine Evn.step ?_
    have h1 : (i : Int) < (xs.length : Int) := by omega
    have h2 : 0 ≤ (i : Int) := by omega
    simp only [laws_vEdits.l0, if_pos h1, if_pos h2, beq_self_eq_true, Bool.not_true, Bool.or_self, Bool.false_eq_true, if_false, wrap_succ (show i < 4611686018427387904 by omega)]
    exact ih (i + 1) (by omega) hx
theorem ev_vEdits (xs : List S28) (hx : xs.length ≤ 4194304) : Evn (fun k => laws_vEdits.f k xs xs) true := by
  unfold laws_vEdits.f
  simp only [if_true]
  exact ev_vEdits_l0 xs xs.length 0 (by omega) hx

theorem ev_vLegs_l0 (xs : List S26) : ∀ (D i : Nat), i + D = xs.length → xs.length ≤ 4194304 → Evn (fun k => laws_vLegs.l0 k xs xs (i : Int)) true := by
  intro D
  induction D with
  | zero =>
    intro i h hx
    refine Evn.step ?_
    have h1 : ¬ (i : Int) < (xs.length : Int) := by omega
    simp only [laws_vLegs.l0, if_neg h1]
    exact Evn.done _
  | succ D ih =>
    intro i h hx
    refine Evn.step ?_
    have h1 : (i : Int) < (xs.length : Int) := by omega
    have h2 : 0 ≤ (i : Int) := by omega
    simp only [laws_vLegs.l0, if_pos h1, if_pos h2, beq_self_eq_true, Bool.not_true, Bool.or_self, Bool.false_eq_true, if_false, wrap_succ (show i < 4611686018427387904 by omega)]
    exact ih (i + 1) (by omega) hx
theorem ev_vLegs (xs : List S26) (hx : xs.length ≤ 4194304) : Evn (fun k => laws_vLegs.f k xs xs) true := by
  unfold laws_vLegs.f
  simp only [if_true]
  exact ev_vLegs_l0 xs xs.length 0 (by omega) hx

theorem ev_vPairs_l0 (xs : List S77) : ∀ (D i : Nat), i + D = xs.length → xs.length ≤ 4194304 → Evn (fun k => laws_vPairs.l0 k xs xs (i : Int)) true := by
  intro D
  induction D with
  | zero =>
    intro i h hx
    refine Evn.step ?_
    have h1 : ¬ (i : Int) < (xs.length : Int) := by omega
    simp only [laws_vPairs.l0, if_neg h1]
    exact Evn.done _
  | succ D ih =>
    intro i h hx
    refine Evn.step ?_
    have h1 : (i : Int) < (xs.length : Int) := by omega
    have h2 : 0 ≤ (i : Int) := by omega
    simp only [laws_vPairs.l0, if_pos h1, if_pos h2, beq_self_eq_true, Bool.not_true, Bool.or_self, Bool.false_eq_true, if_false, wrap_succ (show i < 4611686018427387904 by omega)]
    exact ih (i + 1) (by omega) hx
theorem ev_vPairs (xs : List S77) (hx : xs.length ≤ 4194304) : Evn (fun k => laws_vPairs.f k xs xs) true := by
  unfold laws_vPairs.f
  simp only [if_true]
  exact ev_vPairs_l0 xs xs.length 0 (by omega) hx

theorem ev_vInts_l0 (xs ys : List Int) (e : xs = ys) : ∀ (D i : Nat), i + D = xs.length → xs.length ≤ 4611686018427387904 → Evn (fun k => laws_vInts.l0 k xs ys (i : Int)) true := by
  subst e
  intro D
  induction D with
  | zero =>
    intro i h hx
    refine Evn.step ?_
    have h1 : ¬ (i : Int) < (xs.length : Int) := by omega
    simp only [laws_vInts.l0, if_neg h1]
    exact Evn.done _
  | succ D ih =>
    intro i h hx
    refine Evn.step ?_
    have h1 : (i : Int) < (xs.length : Int) := by omega
    have h2 : 0 ≤ (i : Int) := by omega
    simp only [laws_vInts.l0, if_pos h1, if_pos h2, if_true, wrap_succ (show i < 4611686018427387904 by omega)]
    exact ih (i + 1) (by omega) hx
theorem ev_vInts (xs : List Int) (hx : xs.length ≤ 4611686018427387904) : Evn (fun k => laws_vInts.f k xs xs) true := by
  unfold laws_vInts.f
  simp only [if_true]
  exact ev_vInts_l0 xs xs rfl xs.length 0 (by omega) hx

/-! An edit and then its inverse. -/
theorem neqL_no {x y : S26} (h : ¬ neqL x y = true) : x = y := by
  obtain ⟨a, b, c, d, e⟩ := x
  obtain ⟨a', b', c', d', e'⟩ := y
  simp only [neqL, Bool.or_eq_true, Bool.not_eq_true', beq_eq_false_iff_ne, not_or, Decidable.not_not] at h
  obtain ⟨h1, h2, h3, h4, h5⟩ := h
  rw [h1, h2, h3, h4, h5]
theorem neqL_self (x : S26) : ¬ neqL x x = true := by simp [neqL]
theorem goodLegs_mk {xs : List S26} (h : ∀ x ∈ xs, okLeg x = true) (hl : xs.length ≤ 12) : goodLegs xs = true := by
  simp only [goodLegs, Bool.and_eq_true, List.all_eq_true, decide_eq_true_eq]
  exact ⟨h, hl⟩
theorem goodLegs_all {xs : List S26} (h : goodLegs xs = true) : ∀ x ∈ xs, okLeg x = true := by
  simp only [goodLegs, Bool.and_eq_true, List.all_eq_true] at h
  exact h.1
def invK (k : Int) : Int := if k = 1 then 2 else if k = 2 then 1 else k
/-- What an edit that is possible says. -/
theorem appL_yes {l : List S26} {k a : Int} {x y : S26} (h : (appL l k a x y).2 = true) : editB k a x y = true ∧ 0 ≤ a ∧
    ((k = 1 ∧ zeroB x.f0 x.f1 x.f2 x.f3 x.f4 = true ∧ okLeg y = true ∧ a ≤ (l.length : Int) ∧ l.length ≠ 12 ∧ (appL l k a x y).1 = l.take a.toNat ++ (y :: l.drop a.toNat)) ∨
     (k = 2 ∧ okLeg x = true ∧ zeroB y.f0 y.f1 y.f2 y.f3 y.f4 = true ∧ a < (l.length : Int) ∧ l.getD a.toNat z26 = x ∧ (appL l k a x y).1 = l.take a.toNat ++ l.drop (a.toNat + 1)) ∨
     (k = 3 ∧ okLeg x = true ∧ okLeg y = true ∧ neqL x y = true ∧ a < (l.length : Int) ∧ l.getD a.toNat z26 = x ∧ (appL l k a x y).1 = l.take a.toNat ++ (y :: l.drop (a.toNat + 1)))) := by
  unfold appL at h ⊢
  by_cases hE : editB k a x y = true
  · rw [if_pos hE] at h ⊢
    have hE' := hE
    obtain ⟨⟨ha, _⟩, hk⟩ := editB_in hE
    refine ⟨hE', ha, ?_⟩
    unfold editB at hE
    split at hE
    · rcases hk with rfl | rfl | rfl
      · left
        rw [if_pos rfl] at hE h ⊢
        split at hE
        · rename_i z1
          split at h
          · cases h
          · rename_i c1
            rw [if_neg c1]
            split at h
            · cases h
            · rename_i c2
              rw [if_neg c2]
              exact ⟨rfl, z1, hE, by omega, c2, rfl⟩
        · cases hE
      · right; left
        rw [if_neg (by decide), if_pos rfl] at hE
        rw [if_neg (by decide)] at h ⊢
        split at hE
        · rename_i o1
          split at h
          · cases h
          · rename_i c1
            rw [if_neg c1]
            split at h
            · cases h
            · rename_i c2
              rw [if_neg c2, if_pos rfl]
              exact ⟨rfl, o1, hE, by omega, neqL_no c2, rfl⟩
        · cases hE
      · right; right
        rw [if_neg (by decide), if_neg (by decide), if_pos rfl] at hE
        rw [if_neg (by decide)] at h ⊢
        split at hE
        · rename_i o1
          split at hE
          · rename_i o2
            split at h
            · cases h
            · rename_i c1
              rw [if_neg c1]
              split at h
              · cases h
              · rename_i c2
                rw [if_neg c2, if_neg (by decide)]
                exact ⟨rfl, o1, o2, hE, by omega, neqL_no c2, rfl⟩
          · cases hE
        · cases hE
    · cases hE
  · rw [if_neg hE] at h
    cases h
theorem appL_good {l : List S26} (hl : goodLegs l = true) {k a : Int} {x y : S26} (h : (appL l k a x y).2 = true) : goodLegs (appL l k a x y).1 = true := by
  refine goodLegs_mk ?_ (appL_len (goodLegs_len hl) k a x y)
  have hA := goodLegs_all hl
  obtain ⟨_, _, ⟨_, _, o, _, _, e⟩ | ⟨_, _, _, _, _, e⟩ | ⟨_, _, o, _, _, _, e⟩⟩ := appL_yes h
  all_goals
    rw [e]
    intro u hu
    simp only [List.mem_append, List.mem_cons] at hu
  · rcases hu with hu | rfl | hu
    · exact hA _ (List.mem_of_mem_take hu)
    · exact o
    · exact hA _ (List.mem_of_mem_drop hu)
  · rcases hu with hu | hu
    · exact hA _ (List.mem_of_mem_take hu)
    · exact hA _ (List.mem_of_mem_drop hu)
  · rcases hu with hu | rfl | hu
    · exact hA _ (List.mem_of_mem_take hu)
    · exact o
    · exact hA _ (List.mem_of_mem_drop hu)
theorem take_at {α : Type} (l : List α) (i : Nat) (z : α) (h : i < l.length) : l.take i ++ (l.getD i z :: l.drop (i + 1)) = l := by
  have e : l.getD i z = l[i] := by rw [List.getD_eq_getElem?_getD, List.getElem?_eq_getElem h]; rfl
  rw [e, ← List.drop_eq_getElem_cons h, List.take_append_drop]
theorem parts_take {α : Type} (l m : List α) (i : Nat) (h : i ≤ l.length) : (l.take i ++ m).take i = l.take i := by
  have hl : (l.take i).length = i := by rw [List.length_take]; omega
  rw [List.take_append_of_le_length (by omega), List.take_take, Nat.min_self]
theorem parts_drop {α : Type} (l m : List α) (i : Nat) (h : i ≤ l.length) : (l.take i ++ m).drop i = m := by
  have hl : (l.take i).length = i := by rw [List.length_take]; omega
  rw [List.drop_append, List.drop_eq_nil_of_le (by omega), hl, Nat.sub_self, List.drop_zero, List.nil_append]
theorem parts_drop1 {α : Type} (l m : List α) (y : α) (i : Nat) (h : i ≤ l.length) : (l.take i ++ y :: m).drop (i + 1) = m := by
  have hl : (l.take i).length = i := by rw [List.length_take]; omega
  rw [List.drop_append, List.drop_eq_nil_of_le (by omega), hl, show i + 1 - i = 1 by omega, List.nil_append]
  rfl
theorem parts_get {α : Type} (l m : List α) (y z : α) (i : Nat) (h : i ≤ l.length) : (l.take i ++ y :: m).getD i z = y := by
  have hl : (l.take i).length = i := by rw [List.length_take]; omega
  rw [List.getD_eq_getElem?_getD, List.getElem?_append_right (by omega), hl, Nat.sub_self]
  rfl
theorem appL_back {l : List S26} (hl : l.length ≤ 12) {k a : Int} {x y : S26} (h : (appL l k a x y).2 = true) : editB (invK k) a y x = true ∧ appL (appL l k a x y).1 (invK k) a y x = (l, true) := by
  obtain ⟨hE, ha, ⟨rfl, z1, o, c1, c2, e⟩ | ⟨rfl, o, z1, c1, g, e⟩ | ⟨rfl, o1, o2, n, c1, g, e⟩⟩ := appL_yes h
  · have hi : a.toNat ≤ l.length := by omega
    have hd := (editB_in hE).1
    have hE2 : editB 2 a y x = true := by unfold editB; rw [if_pos (decide_eq_true hd), if_neg (by decide), if_pos rfl, if_pos o]; exact z1
    refine ⟨hE2, ?_⟩
    rw [e]
    show appL _ 2 a y x = _
    unfold appL
    rw [if_pos hE2, if_neg (by decide), if_neg (by simp only [List.length_append, List.length_cons, List.length_take, List.length_drop]; omega), parts_get l _ y _ _ hi, if_neg (neqL_self y), if_pos rfl, parts_take l _ _ hi, parts_drop1 l _ y _ hi, List.take_append_drop]
  · have hi : a.toNat < l.length := by omega
    have hi' : a.toNat ≤ l.length := by omega
    have hd := (editB_in hE).1
    have hE2 : editB 1 a y x = true := by unfold editB; rw [if_pos (decide_eq_true hd), if_pos rfl, if_pos z1]; exact o
    refine ⟨hE2, ?_⟩
    rw [e]
    show appL _ 1 a y x = _
    unfold appL
    have hlen : (l.take a.toNat ++ l.drop (a.toNat + 1)).length = l.length - 1 := by rw [List.length_append, List.length_take, List.length_drop]; omega
    rw [if_pos hE2, if_pos rfl, if_neg (by rw [hlen]; omega), if_neg (by rw [hlen]; omega), parts_take l _ _ hi', parts_drop l _ _ hi', ← g, take_at l _ _ hi]
  · have hi : a.toNat < l.length := by omega
    have hi' : a.toNat ≤ l.length := by omega
    have hd := (editB_in hE).1
    have hn : neqL y x = true := by
      refine Classical.byContradiction fun h2 => ?_
      rw [neqL_no h2] at n
      exact neqL_self x n
    have hE2 : editB 3 a y x = true := by unfold editB; rw [if_pos (decide_eq_true hd), if_neg (by decide), if_neg (by decide), if_pos rfl, if_pos o2, if_pos o1]; exact hn
    refine ⟨hE2, ?_⟩
    rw [e]
    show appL _ 3 a y x = _
    unfold appL
    rw [if_pos hE2, if_neg (by decide), if_neg (by simp only [List.length_append, List.length_cons, List.length_take, List.length_drop]; omega), parts_get l _ y _ _ hi', if_neg (neqL_self y), if_neg (by decide), parts_take l _ _ hi', parts_drop1 l _ y _ hi', ← g, take_at l _ _ hi]
theorem run_step : ∀ (hs : List S28) (l : List S26) (m : Nat), (runB l hs).2 = true → m < hs.length → (apE (runB l (hs.take m)).1 (hs.getD m z28)).2 = true ∧ (runB l (hs.take (m + 1))).1 = (apE (runB l (hs.take m)).1 (hs.getD m z28)).1
  | [], _, m, _, hm => by simp at hm
  | e :: es, l, m, h, hm => by
    unfold runB at h
    split at h
    · rename_i c
      cases m with
      | zero =>
        have e1 : runB l [e] = ((apE l e).1, true) := by rw [runB, if_pos c]; rfl
        rw [List.take_zero, List.take_succ_cons, List.take_zero, e1]
        exact ⟨c, rfl⟩
      | succ m =>
        rw [List.take_succ_cons, List.take_succ_cons, runB, if_pos c, runB, if_pos c]
        exact run_step es _ m h (by simpa using hm)
    · cases h
theorem run_good : ∀ (hs : List S28) (l : List S26) (m : Nat), goodLegs l = true → (runB l hs).2 = true → goodLegs (runB l (hs.take m)).1 = true
  | [], l, m, g, _ => by rw [List.take_nil]; exact g
  | e :: es, l, 0, g, _ => g
  | e :: es, l, m + 1, g, h => by
    unfold runB at h
    split at h
    · rename_i c
      rw [List.take_succ_cons, runB, if_pos c]
      exact run_good es _ m (appL_good g c) h
    · cases h

/-! The difference of two lists of legs leads from one to the other. -/
theorem run_cons {l : List S26} {e : S28} {m : List S26} (h : apE l e = (m, true)) (es : List S28) : runB l (e :: es) = runB m es := by
  rw [runB, h]
  exact if_pos rfl
theorem get_mid {α : Type} (A B : List α) (x z : α) : (A ++ x :: B).getD A.length z = x := by
  rw [List.getD_eq_getElem?_getD, List.getElem?_append_right (Nat.le_refl _), Nat.sub_self]
  rfl
theorem take_mid {α : Type} (A B : List α) : (A ++ B).take A.length = A := List.take_left' rfl
theorem drop_mid {α : Type} (A B : List α) (x : α) : (A ++ x :: B).drop (A.length + 1) = B := by
  rw [show A ++ x :: B = (A ++ [x]) ++ B by simp]
  exact List.drop_left' (by simp)
theorem app3 (A B : List S26) {x y : S26} (h11 : A.length ≤ 11) (ox : okLeg x = true) (oy : okLeg y = true) (n : neqL x y = true) : appL (A ++ x :: B) 3 (A.length : Int) x y = (A ++ y :: B, true) := by
  have hE : editB 3 (A.length : Int) x y = true := by unfold editB; rw [if_pos (decide_eq_true (show (0 : Int) ≤ (A.length : Int) ∧ (A.length : Int) ≤ 11 by omega)), if_neg (by decide), if_neg (by decide), if_pos rfl, if_pos ox, if_pos oy]; exact n
  unfold appL
  rw [if_pos hE, if_neg (by decide), if_neg (by simp only [List.length_append, List.length_cons]; omega), Int.toNat_natCast, get_mid, if_neg (neqL_self x), if_neg (by decide), take_mid, drop_mid]
theorem app2 (A B : List S26) {x : S26} (h11 : A.length ≤ 11) (ox : okLeg x = true) : appL (A ++ x :: B) 2 (A.length : Int) x ⟨0, 0, 0, 0, 0⟩ = (A ++ B, true) := by
  have hE : editB 2 (A.length : Int) x ⟨0, 0, 0, 0, 0⟩ = true := by unfold editB; rw [if_pos (decide_eq_true (show (0 : Int) ≤ (A.length : Int) ∧ (A.length : Int) ≤ 11 by omega)), if_neg (by decide), if_pos rfl, if_pos ox]; rfl
  unfold appL
  rw [if_pos hE, if_neg (by decide), if_neg (by simp only [List.length_append, List.length_cons]; omega), Int.toNat_natCast, get_mid, if_neg (neqL_self x), if_pos rfl, take_mid, drop_mid]
theorem app1 (A : List S26) {y : S26} (h11 : A.length ≤ 11) (oy : okLeg y = true) : appL A 1 (A.length : Int) ⟨0, 0, 0, 0, 0⟩ y = (A ++ [y], true) := by
  have hE : editB 1 (A.length : Int) ⟨0, 0, 0, 0, 0⟩ y = true := by unfold editB; rw [if_pos (decide_eq_true (show (0 : Int) ≤ (A.length : Int) ∧ (A.length : Int) ≤ 11 by omega)), if_pos rfl, if_pos (by rfl)]; exact oy
  unfold appL
  rw [if_pos hE, if_pos rfl, if_neg (by omega), if_neg (by omega), Int.toNat_natCast, List.take_length, List.drop_length]
theorem ok_at {xs : List S26} (g : goodLegs xs = true) {i : Nat} (h : i < xs.length) : okLeg (xs.getD i z26) = true := by
  refine goodLegs_all g _ ?_
  rw [List.getD_eq_getElem?_getD, List.getElem?_eq_getElem h]
  exact List.getElem_mem h
theorem drop_at {α : Type} (l : List α) (i : Nat) (z : α) (h : i < l.length) : l.drop i = l.getD i z :: l.drop (i + 1) := by
  have e : l.getD i z = l[i] := by rw [List.getD_eq_getElem?_getD, List.getElem?_eq_getElem h]; rfl
  rw [e]
  exact List.drop_eq_getElem_cons h
theorem take_snoc {α : Type} (l : List α) (i : Nat) (z : α) (h : i < l.length) : l.take (i + 1) = l.take i ++ [l.getD i z] := by
  rw [List.take_add_one, List.getElem?_eq_getElem h, List.getD_eq_getElem?_getD, List.getElem?_eq_getElem h]
  rfl
theorem run_chg (xs ys : List S26) (gx : goodLegs xs = true) (gy : goodLegs ys = true) (rest : List S28) : ∀ d i, i + d ≤ min xs.length ys.length → runB (ys.take i ++ xs.drop i) (chg xs ys d i ++ rest) = runB (ys.take (i + d) ++ xs.drop (i + d)) rest := by
  intro d
  induction d with
  | zero => intro i _; rfl
  | succ d ih =>
    intro i h
    have ix : i < xs.length := by omega
    have iy : i < ys.length := by omega
    have hl : (ys.take i).length = i := by rw [List.length_take]; omega
    have hT : ys.take (i + 1) ++ xs.drop (i + 1) = ys.take i ++ (ys.getD i z26 :: xs.drop (i + 1)) := by rw [take_snoc ys i z26 iy, List.append_assoc]; rfl
    have hr := ih (i + 1) (by omega)
    rw [show i + 1 + d = i + (d + 1) by omega, hT] at hr
    have gl := goodLegs_len gx
    rw [drop_at xs i z26 ix, chg]
    by_cases c : neqL (xs.getD i z26) (ys.getD i z26) = true
    · rw [if_pos c, List.cons_append]
      have ha := app3 (ys.take i) (xs.drop (i + 1)) (by omega) (ok_at gx ix) (ok_at gy iy) c
      rw [hl] at ha
      refine (run_cons (m := ys.take i ++ (ys.getD i z26 :: xs.drop (i + 1))) ?_ _).trans hr
      exact ha
    · rw [if_neg c, neqL_no c]
      exact hr
theorem run_rmv (xs : List S26) (gx : goodLegs xs = true) (P : List S26) (rest : List S28) : ∀ d, P.length + d ≤ xs.length → runB (P ++ (xs.drop P.length).take d) (rmv xs P.length d ++ rest) = runB P rest := by
  intro d
  induction d with
  | zero => intro _; rw [List.take_zero, List.append_nil]; rfl
  | succ d ih =>
    intro h
    have gl := goodLegs_len gx
    have hlt : P.length + d < xs.length := by omega
    have hd : d < (xs.drop P.length).length := by rw [List.length_drop]; omega
    have hg : (xs.drop P.length).getD d z26 = xs.getD (P.length + d) z26 := by
      rw [List.getD_eq_getElem?_getD, List.getD_eq_getElem?_getD, List.getElem?_drop]
    have hA : (P ++ (xs.drop P.length).take d).length = P.length + d := by rw [List.length_append, List.length_take, List.length_drop]; omega
    rw [take_snoc _ d z26 hd, hg, ← List.append_assoc, rmv, List.cons_append]
    have ha := app2 (P ++ (xs.drop P.length).take d) [] (by omega) (ok_at gx hlt)
    rw [hA, List.append_nil] at ha
    refine (run_cons (m := P ++ (xs.drop P.length).take d) ?_ _).trans (ih (by omega))
    exact ha
theorem run_adn (ys : List S26) (gy : goodLegs ys = true) : ∀ d i, i + d = ys.length → runB (ys.take i) (adn ys d i) = (ys, true) := by
  intro d
  induction d with
  | zero =>
    intro i h
    rw [adn, runB, List.take_of_length_le (by omega)]
  | succ d ih =>
    intro i h
    have iy : i < ys.length := by omega
    have gl := goodLegs_len gy
    have hl : (ys.take i).length = i := by rw [List.length_take]; omega
    have ha := app1 (ys.take i) (by omega) (ok_at gy iy)
    rw [hl, ← take_snoc ys i z26 iy] at ha
    rw [adn]
    refine (run_cons (m := ys.take (i + 1)) ?_ _).trans (ih (i + 1) (by omega))
    exact ha
theorem run_diff {xs ys : List S26} (gx : goodLegs xs = true) (gy : goodLegs ys = true) : runB xs (diffL xs ys) = (ys, true) := by
  have h0 := run_chg xs ys gx gy (rmv xs (min xs.length ys.length) (xs.length - min xs.length ys.length) ++ adn ys (ys.length - min xs.length ys.length) (min xs.length ys.length)) (min xs.length ys.length) 0 (by omega)
  simp only [List.take_zero, List.nil_append, List.drop_zero, Nat.zero_add] at h0
  unfold diffL
  rw [h0]
  generalize hc : min xs.length ys.length = c
  have hP : (ys.take c).length = c := by rw [List.length_take]; omega
  have h1 := run_rmv xs gx (ys.take c) (adn ys (ys.length - c) c) (xs.length - c) (by rw [hP]; omega)
  have e1 : (xs.drop c).take (xs.length - c) = xs.drop c := List.take_of_length_le (by rw [List.length_drop]; omega)
  rw [hP, e1] at h1
  rw [h1]
  exact run_adn ys gy (ys.length - c) c (by omega)
theorem chg_self (xs : List S26) : ∀ d i, chg xs xs d i = [] := by
  intro d
  induction d with
  | zero => intro i; rfl
  | succ d ih => intro i; rw [chg, if_neg (neqL_self _)]; exact ih (i + 1)
theorem diff_self {xs : List S26} (gx : goodLegs xs = true) : diffTs xs xs = ([], true) := by
  unfold diffTs
  rw [if_pos ⟨gx, gx⟩]
  have e : diffL xs xs = [] := by
    unfold diffL
    rw [chg_self, Nat.min_self, Nat.sub_self]
    rfl
  rw [e]
  rfl
theorem diff_yes {xs ys : List S26} (h : (diffTs xs ys).2 = true) : goodLegs xs = true ∧ goodLegs ys = true ∧ (diffTs xs ys).1.length ≤ 10 ∧ runB xs (diffTs xs ys).1 = (ys, true) := by
  unfold diffTs at h ⊢
  split at h
  · rename_i g
    rw [if_pos g]
    unfold finD at h ⊢
    split at h
    · cases h
    · rename_i c
      rw [if_neg c]
      exact ⟨g.1, g.2, by dsimp only; omega, run_diff g.1 g.2⟩
  · cases h
theorem appL_ne {l : List S26} {k a : Int} {x y : S26} (h : (appL l k a x y).2 = true) : (appL l k a x y).1 ≠ l := by
  obtain ⟨_, ha, ⟨_, _, _, c1, _, e⟩ | ⟨_, _, _, c1, _, e⟩ | ⟨_, _, _, n, c1, g, e⟩⟩ := appL_yes h
  · rw [e]
    intro q
    have := congrArg List.length q
    simp only [List.length_append, List.length_cons, List.length_take, List.length_drop] at this
    omega
  · rw [e]
    intro q
    have := congrArg List.length q
    simp only [List.length_append, List.length_take, List.length_drop] at this
    omega
  · rw [e]
    intro q
    have h1 := parts_get l (l.drop (a.toNat + 1)) y z26 a.toNat (by omega)
    rw [q, g] at h1
    rw [h1] at n
    exact neqL_self y n
theorem sameB_eq : ∀ (xs ys : List S26), sameB xs ys = true → xs = ys
  | [], [], _ => rfl
  | [], _ :: _, h => by cases h
  | _ :: _, [], h => by cases h
  | x :: xs, y :: ys, h => by
    unfold sameB at h
    split at h
    · cases h
    · rename_i c
      rw [neqL_no c, sameB_eq xs ys h]
theorem smRow_mem (V : List (List S26)) (m : Nat) : ∀ d n p, p ∈ smRow V m d n → ∃ j : Nat, p = (⟨m, j⟩ : S77) ∧ n ≤ j ∧ j < n + d ∧ V.getD m [] = V.getD j [] := by
  intro d
  induction d with
  | zero => intro n p h; simp [smRow] at h
  | succ d ih =>
    intro n p h
    unfold smRow at h
    split at h
    · rename_i c
      rcases List.mem_cons.1 h with rfl | h
      · exact ⟨n, rfl, Nat.le_refl _, by omega, sameB_eq _ _ c⟩
      · obtain ⟨j, e, h1, h2, h3⟩ := ih (n + 1) p h
        exact ⟨j, e, by omega, by omega, h3⟩
    · obtain ⟨j, e, h1, h2, h3⟩ := ih (n + 1) p h
      exact ⟨j, e, by omega, by omega, h3⟩
theorem smAll_mem (V : List (List S26)) : ∀ d m p, p ∈ smAll V d m → ∃ i j : Nat, p = (⟨i, j⟩ : S77) ∧ i < j ∧ j < m + d ∧ V.getD i [] = V.getD j [] := by
  intro d
  induction d with
  | zero => intro m p h; simp [smAll] at h
  | succ d ih =>
    intro m p h
    rw [smAll] at h
    rcases List.mem_append.1 h with h | h
    · obtain ⟨j, e, h1, h2, h3⟩ := smRow_mem V m d (m + 1) p h
      exact ⟨m, j, e, by omega, by omega, h3⟩
    · obtain ⟨i, j, e, h1, h2, h3⟩ := ih (m + 1) p h
      exact ⟨i, j, e, h1, by omega, h3⟩
theorem same_mem {L : List S26} {H : List S28} {p : S77} (h : p ∈ (sameTs L H).1) : goodH L H = true ∧ ∃ i j : Nat, p = (⟨i, j⟩ : S77) ∧ i + 2 ≤ j ∧ j ≤ H.length ∧ (runB L (H.take i)).1 = (runB L (H.take j)).1 := by
  unfold sameTs at h
  split at h
  · rename_i g
    obtain ⟨g1, g2, g3⟩ := goodH_in g
    obtain ⟨i, j, e, h1, h2, h3⟩ := smAll_mem _ _ _ p h
    rw [vers_at H L i g3 (by omega), vers_at H L j g3 (by omega)] at h3
    refine ⟨g, i, j, e, ?_, by omega, h3⟩
    refine Classical.byContradiction fun hn => ?_
    have ej : j = i + 1 := by omega
    subst ej
    obtain ⟨s1, s2⟩ := run_step H L i g3 (by omega)
    rw [s2] at h3
    exact appL_ne s1 h3.symm
  · simp at h

theorem byts_of {l : List Int} (h : ∀ x ∈ l, (Lit.int .u8 x).wf = true) : Byts l := by
  intro x hx
  have h1 := h x hx
  simp [Lit.wf, IntKind.min, IntKind.max, IntKind.signed, IntKind.bits] at h1
  omega

theorem ev_vLegs_no (xs ys : List S26) (hx : xs.length ≤ 4194304) (he : xs.length = ys.length) : ∀ (D i : Nat), i + D = xs.length → xs.drop i ≠ ys.drop i → Evn (fun k => laws_vLegs.l0 k xs ys (i : Int)) false := by
  intro D
  induction D with
  | zero =>
    intro i h hn
    exact absurd (by rw [List.drop_eq_nil_of_le (by omega), List.drop_eq_nil_of_le (by omega)]) hn
  | succ D ih =>
    intro i h hn
    have ix : i < xs.length := by omega
    have iy : i < ys.length := by omega
    refine Evn.step ?_
    have h1 : (i : Int) < (xs.length : Int) := by omega
    have h2 : 0 ≤ (i : Int) := by omega
    have h3 : (i : Int) < (ys.length : Int) := by omega
    simp only [laws_vLegs.l0, if_pos h1, if_pos h2, if_pos h3, wrap_succ (show i < 4611686018427387904 by omega)]
    show Evn (fun k => if neqL (xs.getD i z26) (ys.getD i z26) = true then some false else laws_vLegs.l0 k xs ys ((i + 1 : Nat) : Int)) false
    refine Evn.ite (fun _ => Evn.done _) (fun c => ih (i + 1) (by omega) (fun e => hn ?_))
    rw [drop_at xs i z26 ix, drop_at ys i z26 iy, e, neqL_no c]
theorem ev_vLegs_gen (xs ys : List S26) (hx : xs.length ≤ 4194304) : ∃ b, Evn (fun k => laws_vLegs.f k xs ys) b ∧ (b = true ↔ xs = ys) := by
  by_cases e : xs = ys
  · subst e
    exact ⟨true, ev_vLegs xs hx, by simp⟩
  · refine ⟨false, ?_, by simp [e]⟩
    unfold laws_vLegs.f
    refine Evn.ite (fun c => ?_) (fun _ => Evn.done _)
    exact ev_vLegs_no xs ys hx (by omega) xs.length 0 (by omega) (by simpa using e)
theorem FnDiffs : laws_FnDiffs.Pure := by
  intro l hl _ hb
  apply Evn.get
  have hB : Byts l := byts_of hb
  have fin : Evn (fun k => (spec_DrawEditsOn.f k l).bind fun bt676 => ((impl_EditsOn.f k bt676.1 bt676.2.1 bt676.2.2).bind fun bt683 => ((spec_EditsOn.f k bt676.1 bt676.2.1 bt676.2.2).bind fun bt687 => (if (bt683.2 == bt687.2) = true then ((laws_vInts.f k bt683.1 bt687.1).bind fun t691 => (some t691)) else (some false))))) true := by
    obtain ⟨t, ht, h1, h2⟩ := dw_DrawEditsOn hB
    refine Evn.bind ht ?_
    refine Evn.bind (im_EditsOn t.1 t.2.1 t.2.2 (by omega)) (Evn.bind (sp_EditsOn t.1 t.2.1 t.2.2 (by omega)) ?_)
    simp only [beq_self_eq_true, if_true]
    exact Evn.bind (ev_vInts _ (by have := onTs_len t.1 t.2.1 t.2.2; omega)) (Evn.done _)
  have l0 : ∀ (L : List S26) (H : List S28) (R : List S77), L.length ≤ 4194304 → R.length ≤ 4194304 → (∀ p ∈ R, goodH L H = true ∧ ∃ i j : Nat, p = (⟨i, j⟩ : S77) ∧ i + 2 ≤ j ∧ j ≤ H.length ∧ (runB L (H.take i)).1 = (runB L (H.take j)).1) → ∀ (D q : Nat), q + D = R.length → Evn (fun k => laws_FnDiffs.l0 k l L H R (q : Int)) true := by
    intro L H R hL hR hP D
    induction D with
    | zero =>
      intro q hq
      refine Evn.step ?_
      have c1 : ¬ (q : Int) < (R.length : Int) := by omega
      simp only [laws_FnDiffs.l0, if_neg c1]
      exact fin
    | succ D ih =>
      intro q hq
      have hr := ih (q + 1) (by omega)
      have c1 : (q : Int) < (R.length : Int) := by omega
      have c2 : 0 ≤ (q : Int) := by omega
      have hm : R.getD q z77 ∈ R := by
        rw [List.getD_eq_getElem?_getD, List.getElem?_eq_getElem (by omega)]
        exact List.getElem_mem (by omega)
      obtain ⟨g, i, j, e, hij, hj, hv⟩ := hP _ hm
      obtain ⟨g1, g2, g3⟩ := goodH_in g
      have v1 := im_VersionAt L H (i : Int) hL
      have v2 := im_VersionAt L H (j : Int) hL
      have a1 : atTs L H (i : Int) = ((runB L (H.take i)).1, true) := by unfold atTs; rw [if_pos ⟨g, by omega, by omega⟩, Int.toNat_natCast]
      have a2 : atTs L H (j : Int) = ((runB L (H.take i)).1, true) := by unfold atTs; rw [if_pos ⟨g, by omega, by omega⟩, Int.toNat_natCast, ← hv]
      rw [a1] at v1
      rw [a2] at v2
      have hlen := goodLegs_len (run_good H L i g1 g3)
      have c3 : ¬ wrap64 ((j : Int) - (i : Int)) < 2 := by rw [wrap_id (by omega) (by omega)]; omega
      refine Evn.step ?_
      simp only [laws_FnDiffs.l0, if_pos c1, if_pos c2, rd_T77, Int.toNat_natCast, e]
      refine Evn.bind v1 (Evn.bind v2 ?_)
      simp only [if_true]
      refine Evn.bind (ev_vLegs _ (by omega)) ?_
      simp only [if_true, if_neg c3, wrap_succ (show q < 4611686018427387904 by omega)]
      exact hr
  have j1 : Evn (fun k => laws_FnDiffs.j1 k l) true := by
    refine Evn.step ?_
    simp only [laws_FnDiffs.j1]
    obtain ⟨t, ht, h1, h2⟩ := dw_DrawSameVersions hB
    refine Evn.bind ht ?_
    refine Evn.bind (im_SameVersions t.1 t.2 (by omega)) (Evn.bind (sp_SameVersions t.1 t.2 (by omega)) ?_)
    simp only [bne_self_eq_false, Bool.false_eq_true, if_false]
    refine Evn.bind (ev_vPairs _ (sameTs_len t.1 t.2)) ?_
    rw [Bool.not_true]
    refine Evn.step ?_
    simp only [laws_FnDiffs.j2, Bool.false_eq_true, if_false]
    exact l0 t.1 t.2 (sameTs t.1 t.2).1 (by omega) (sameTs_len t.1 t.2) (fun p hp => same_mem hp) (sameTs t.1 t.2).1.length 0 (by omega)
  unfold laws_FnDiffs.f laws_vBig.f
  simp only [Option.bind_some]
  refine Evn.ite (fun _ => Evn.done _) (fun _ => ?_)
  obtain ⟨t, ht, h1, h2⟩ := dw_DrawDiffLegs hB
  refine Evn.bind ht ?_
  obtain ⟨a, b⟩ := t
  dsimp only at h1 h2 ⊢
  have hd := diffTs_len a b
  refine Evn.bind (im_DiffLegs a b (by omega) h2) (Evn.bind (sp_DiffLegs a b (by omega) h2) ?_)
  simp only [bne_self_eq_false, Bool.false_eq_true, if_false]
  refine Evn.bind (ev_vEdits _ hd) ?_
  rw [Bool.not_true]
  refine Evn.step ?_
  simp only [laws_FnDiffs.j0, Bool.false_eq_true, if_false]
  refine Evn.ite (fun ok => ?_) (fun _ => j1)
  obtain ⟨ga, gb, g10, hrun⟩ := diff_yes ok
  have hd0 : a = b → (diffTs a b).1.length = 0 := by intro e; subst e; rw [diff_self ga]; rfl
  generalize (diffTs a b).1 = d at g10 hrun hd0 ⊢
  have gH : goodH a d = true := by unfold goodH; rw [ga, hrun, decide_eq_true g10]; rfl
  have v1 := im_VersionAt a d (d.length : Int) (by omega)
  have a1 : atTs a d (d.length : Int) = (b, true) := by unfold atTs; rw [if_pos ⟨gH, by omega, by omega⟩, Int.toNat_natCast, List.take_length, hrun]
  rw [a1] at v1
  have v2 := im_DiffLegs a a (by omega) (by omega)
  rw [diff_self ga] at v2
  refine Evn.bind v1 (Evn.bind v2 ?_)
  simp only [if_true]
  refine Evn.bind (ev_vLegs b h2) ?_
  simp only [if_true]
  refine Evn.ite (fun _ => ?_) (fun h => absurd rfl h)
  obtain ⟨q, hq, hqe⟩ := ev_vLegs_gen a b (by omega)
  refine Evn.bind hq ?_
  have hfin : (((d.length : Int) == 0) != q) = false := by
    by_cases e : a = b
    · rw [hqe.2 e, hd0 e]
      rfl
    · have hq2 : q = false := by
        cases q with
        | false => rfl
        | true => exact absurd (hqe.1 rfl) e
      have hn : ¬ (d.length : Int) = 0 := by
        intro h0
        have hnil : d = [] := List.eq_nil_of_length_eq_zero (by omega)
        rw [hnil] at hrun
        exact e (congrArg Prod.fst hrun)
      rw [hq2, beq_eq_false_iff_ne.mpr hn]
      rfl
  rw [hfin]
  simp only [Bool.false_eq_true, if_false]
  exact j1

end Go.Proofs.Ytinelmmnajelaaa.Pure
