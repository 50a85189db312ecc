/- The plain statement of FnClubs: its plain function returns true at every input. No condition beyond the arguments' own bounds. -/
import Derived.Test.YtfaojmabalplfaaQFnClubsx16
import Derived.Test.YtfaojmabalplfaaVCAid
namespace Go.Proofs.Ytfaojmabalplfaa.Pure
open Go.RowKit Go.Proofs.YtfaojmabalplfaaW.PrintWords Go.Proofs.YtfaojmabalplfaaW.PrintLast Go.Proofs.Ytfaojmabalplfaa.Aid Go.Proofs.Ytfaojmabalplfaa.QFnClubs
set_option linter.unusedVariables false
set_option linter.unusedSimpArgs false

theorem sp_l1In (x y z : Int) : spec_l1In.f x y z = some (decide (y ≤ x ∧ x ≤ z)) := by
  unfold spec_l1In.f
  by_cases h : x ≥ y <;> simp [h] <;> omega

theorem sp_l4Station (x : Int) : spec_l4Station.f x = some (decide (0 ≤ x ∧ x ≤ 7)) := by
  simp only [spec_l4Station.f, sp_l1In, Option.bind_some]

/-! A leg's rules. -/
def okLeg (x : S70) : Bool := decide (0 ≤ x.f0 ∧ x.f0 ≤ 7) && (decide (0 ≤ x.f1 ∧ x.f1 ≤ 7) && (!decide (x.f0 = x.f1) && (decide (1 ≤ x.f2 ∧ x.f2 ≤ 500) && (decide (0 ≤ x.f3 ∧ x.f3 ≤ 359) && decide (-90 ≤ x.f4 ∧ x.f4 ≤ 90)))))
def goodLegs (xs : List S70) : Bool := xs.all okLeg && decide (xs.length ≤ 12)
theorem goodLegs_len {xs : List S70} (h : goodLegs xs = true) : xs.length ≤ 12 := by
  simp only [goodLegs, Bool.and_eq_true, decide_eq_true_eq] at h
  exact h.2
theorem goodLegs_ok {xs : List S70} (h : goodLegs xs = true) (j : Nat) (hj : j < xs.length) : okLeg (xs.getD j z70) = true := by
  simp only [goodLegs, Bool.and_eq_true, List.all_eq_true] at h
  refine h.1 _ ?_
  rw [List.getD_eq_getElem?_getD, List.getElem?_eq_getElem hj]
  exact List.getElem_mem hj
theorem okLeg_in {x : S70} (h : okLeg x = true) : (0 ≤ x.f0 ∧ x.f0 ≤ 7) ∧ (0 ≤ x.f1 ∧ x.f1 ≤ 7) ∧ ¬ x.f0 = x.f1 ∧ (1 ≤ x.f2 ∧ x.f2 ≤ 500) ∧ (0 ≤ x.f3 ∧ x.f3 ≤ 359) ∧ (-90 ≤ x.f4 ∧ x.f4 ≤ 90) := by
  simp only [okLeg, Bool.and_eq_true, decide_eq_true_eq, Bool.not_eq_true', decide_eq_false_iff_not] at h
  exact h
theorem ite_not (c : Prop) [Decidable c] (x : Bool) : (if c then some false else some x) = some (!decide c && x) := by
  by_cases h : c <;> simp [h]

theorem sp_l4Leg (x : S70) : spec_l4Leg.f x.f0 x.f1 x.f2 x.f3 x.f4 = some (okLeg x) := by
  simp only [spec_l4Leg.f, sp_l4Station, spec_l2Bearing.f, sp_l1In, Option.bind_some, ite_and, ite_not, okLeg]

theorem sp_l4Legs_l0 (xs : List S70) (hx : xs.length ≤ 4194304) : ∀ (d i : Nat), i + d = xs.length → Evn (fun k => spec_l4Legs.l0 k xs (i : Int)) ((xs.drop i).all okLeg && decide (xs.length ≤ 12)) := by
  intro d
  induction d with
  | zero =>
    intro i h
    refine Evn.step ?_
    have h1 : ¬ (i : Int) < (xs.length : Int) := by omega
    simp only [spec_l4Legs.l0, if_neg h1]
    rw [List.drop_eq_nil_of_le (by omega)]
    refine (Evn.done _).eq_ ?_
    simp only [List.all_nil, Bool.true_and, decide_eq_decide]
    omega
  | succ d ih =>
    intro i h
    refine Evn.step ?_
    have h1 : (i : Int) < (xs.length : Int) := by omega
    have h2 : 0 ≤ (i : Int) := by omega
    simp only [spec_l4Legs.l0, if_pos h1, if_pos h2, sp_l4Leg, Option.bind_some, wrap_succ (show i < 4611686018427387904 by omega), rd_T70, Int.toNat_natCast]
    rw [getD_drop xs i z70 (by omega), List.all_cons]
    exact Evn.ite (fun c => (ih (i + 1) (by omega)).eq_ (by simp only [c, Bool.true_and])) (fun c => (Evn.done _).eq_ (by simp only [Bool.eq_false_iff.mpr c, Bool.false_and]))
theorem sp_l4Legs (xs : List S70) (hx : xs.length ≤ 4194304) : Evn (fun k => spec_l4Legs.f k xs) (goodLegs xs) := by
  have h := sp_l4Legs_l0 xs hx xs.length 0 (by omega)
  simpa [spec_l4Legs.f, goodLegs] using h

def shB (x y : S70) : Bool := (decide (x.f0 = y.f0) && decide (x.f1 = y.f1)) || (decide (x.f0 = y.f1) && decide (x.f1 = y.f0))
theorem shared_form (a b c d : Int) : (if a = c then (if b = d then some true else (if a = d then some (b == c) else some false)) else (if a = d then some (b == c) else some false)) = some ((decide (a = c) && decide (b = d)) || (decide (a = d) && decide (b = c))) := by
  have e : (b == c) = decide (b = c) := rfl
  rw [e]
  by_cases h1 : a = c <;> by_cases h2 : b = d <;> by_cases h3 : a = d <;> simp [h1, h2, h3]
  all_goals (by_cases h4 : c = d <;> simp [h4])

theorem sp_l20Shared (x y : S70) : spec_l20Shared.f x.f0 x.f1 x.f2 x.f3 x.f4 y.f0 y.f1 y.f2 y.f3 y.f4 = some (shB x y) := by
  unfold spec_l20Shared.f
  exact shared_form x.f0 x.f1 y.f0 y.f1

def prRow (xs ys : List S70) (i : Nat) : Nat → Nat → List S64
  | 0, _ => []
  | d + 1, j => if shB (xs.getD i z70) (ys.getD j z70) = true then (⟨i, j⟩ : S64) :: prRow xs ys i d (j + 1) else prRow xs ys i d (j + 1)
def prs (xs ys : List S70) : Nat → Nat → List S64
  | 0, _ => []
  | d + 1, i => prRow xs ys i ys.length 0 ++ prs xs ys d (i + 1)
theorem sp_l20Pairs_l1 (xs ys : List S70) (hx : xs.length ≤ 4194304) (hy : ys.length ≤ 4194304) (i m : Nat) (R : List S64) (hi : i < xs.length)
    (hrest : ∀ zs : List S64, zs.length + m ≤ 100000000 → Evn (fun k => spec_l20Pairs.l0 k xs ys zs ((i + 1 : Nat) : Int)) (zs ++ R)) : ∀ (d j : Nat) (zs : List S64), j + d = ys.length → zs.length + d + m ≤ 100000000 → Evn (fun k => spec_l20Pairs.l1 k xs ys zs (i : Int) (j : Int)) (zs ++ (prRow xs ys i d j ++ R)) := by
  intro d
  induction d with
  | zero =>
    intro j zs h hz
    refine Evn.step ?_
    have h1 : ¬ (j : Int) < (ys.length : Int) := by omega
    simp only [spec_l20Pairs.l1, if_neg h1, prRow, List.nil_append, wrap_succ (show i < 4611686018427387904 by omega)]
    exact hrest zs (by omega)
  | succ d ih =>
    intro j zs h hz
    have h1 : (j : Int) < (ys.length : Int) := by omega
    have h2 : 0 ≤ (i : Int) := by omega
    have h3 : (i : Int) < (xs.length : Int) := by omega
    have h4 : 0 ≤ (j : Int) := by omega
    have hw := wrap_succ (show j < 4611686018427387904 by omega)
    refine Evn.step ?_
    simp only [spec_l20Pairs.l1, if_pos h1, if_pos h2, if_pos h3, if_pos h4, hw, rd_T70, Int.toNat_natCast, sp_l20Shared, Option.bind_some, prRow]
    clear hw
    refine Evn.ite (fun c => ?_) (fun c => ?_)
    · rw [if_pos c]
      refine Evn.ite (fun _ => ?_) (fun c2 => absurd (by omega) c2)
      have h5 := ih (j + 1) (zs ++ [(⟨i, j⟩ : S64)]) (by omega) (by rw [List.length_append, List.length_singleton]; omega)
      rw [List.append_assoc] at h5
      exact h5
    · rw [if_neg c]
      exact ih (j + 1) zs (by omega) (by omega)
theorem sp_l20Pairs_l0 (xs ys : List S70) (hx : xs.length ≤ 4194304) (hy : ys.length ≤ 4194304) : ∀ (d i : Nat) (zs : List S64), i + d = xs.length → zs.length + d * ys.length ≤ 100000000 → Evn (fun k => spec_l20Pairs.l0 k xs ys zs (i : Int)) (zs ++ prs xs ys d i) := by
  intro d
  induction d with
  | zero =>
    intro i zs h hz
    refine Evn.step ?_
    have h1 : ¬ (i : Int) < (xs.length : Int) := by omega
    simp only [spec_l20Pairs.l0, if_neg h1, prs, List.append_nil]
    exact Evn.done _
  | succ d ih =>
    intro i zs h hz
    have h1 : (i : Int) < (xs.length : Int) := by omega
    rw [Nat.succ_mul] at hz
    refine Evn.step ?_
    simp only [spec_l20Pairs.l0, if_pos h1, prs]
    exact sp_l20Pairs_l1 xs ys hx hy i (d * ys.length) (prs xs ys d (i + 1)) (by omega) (fun zs' hz' => ih (i + 1) zs' (by omega) hz') ys.length 0 zs (by omega) (by omega)
theorem sp_l20Pairs (xs ys : List S70) (hx : xs.length ≤ 4194304) (hy : ys.length ≤ 4194304) (hm : xs.length * ys.length ≤ 100000000) : Evn (fun k => spec_l20Pairs.f k xs ys) (prs xs ys xs.length 0) := by
  have h := sp_l20Pairs_l0 xs ys hx hy xs.length 0 [] (by omega) (by simpa using hm)
  unfold spec_l20Pairs.f
  simpa using h

theorem prRow_len (xs ys : List S70) (i : Nat) : ∀ d j, (prRow xs ys i d j).length ≤ d := by
  intro d
  induction d with
  | zero => intro j; simp [prRow]
  | succ d ih =>
    intro j
    have := ih (j + 1)
    unfold prRow
    split
    · rw [List.length_cons]; omega
    · omega
theorem prs_len (xs ys : List S70) : ∀ d i, (prs xs ys d i).length ≤ d * ys.length := by
  intro d
  induction d with
  | zero => intro i; simp [prs]
  | succ d ih =>
    intro i
    have h1 := ih (i + 1)
    have h2 := prRow_len xs ys i ys.length 0
    rw [prs, List.length_append, Nat.succ_mul]
    omega

def shTs (xs ys : List S70) : List S64 × Bool := if goodLegs xs = true ∧ goodLegs ys = true then (prs xs ys xs.length 0, true) else ([], false)
theorem good_mul {xs ys : List S70} (hx : goodLegs xs = true) (hy : goodLegs ys = true) : xs.length * ys.length ≤ 144 :=
  Nat.mul_le_mul (goodLegs_len hx) (goodLegs_len hy)
theorem shTs_len (xs ys : List S70) : (shTs xs ys).1.length ≤ 4194304 := by
  unfold shTs
  split
  · rename_i h
    have h1 := prs_len xs ys xs.length 0
    have h2 := good_mul h.1 h.2
    dsimp only
    omega
  · simp
theorem sp_SharedLegs (xs ys : List S70) (hx : xs.length ≤ 4194304) (hy : ys.length ≤ 4194304) : Evn (fun k => spec_SharedLegs.f k xs ys) (shTs xs ys) := by
  unfold spec_SharedLegs.f shTs
  refine Evn.bind (sp_l4Legs xs hx) ?_
  refine Evn.ite (fun c1 => ?_) (fun c1 => by rw [if_neg (fun h => c1 h.1)]; exact Evn.done _)
  refine Evn.bind (sp_l4Legs ys hy) ?_
  refine Evn.ite (fun c2 => ?_) (fun c2 => by rw [if_neg (fun h => c2 h.2)]; exact Evn.done _)
  rw [if_pos ⟨c1, c2⟩]
  have h2 := good_mul c1 c2
  refine Evn.bind (sp_l20Pairs xs ys hx hy (by omega)) ?_
  exact Evn.done _

theorem prs_one (xs : List S70) (y : S70) : ∀ (d i : Nat), i + d = xs.length → ((prs xs [y] d i).length = 0 ↔ ((xs.drop i).any fun x => shB x y) = false) := by
  intro d
  induction d with
  | zero =>
    intro i h
    rw [List.drop_eq_nil_of_le (by omega)]
    simp [prs]
  | succ d ih =>
    intro i h
    rw [getD_drop xs i z70 (by omega), List.any_cons, prs, List.length_append]
    have h1 := ih (i + 1) (by omega)
    have e : prRow xs [y] i [y].length 0 = if shB (xs.getD i z70) y = true then [(⟨i, (0 : Nat)⟩ : S64)] else [] := rfl
    rw [e]
    by_cases c : shB (xs.getD i z70) y = true
    · rw [if_pos c, c, Bool.true_or]
      simp
    · rw [if_neg c, Bool.eq_false_iff.mpr c, Bool.false_or, List.length_nil, Nat.zero_add]
      exact h1
def mrg (xs ys : List S70) : List S70 := ys.filter fun y => !(xs.any fun x => shB x y)
def mrgs (xs ys : List S70) : List S70 × Bool :=
  if goodLegs xs = true ∧ goodLegs ys = true then (if goodLegs (xs ++ mrg xs ys) = true then (xs ++ mrg xs ys, true) else ([], false)) else ([], false)
theorem take_drop_one {α : Type} (ys : List α) (i : Nat) (z : α) (h : i < ys.length) : (ys.take (i + 1)).drop i = [ys.getD i z] := by
  rw [List.take_succ_eq_append_getElem h, List.drop_append_of_le_length (by rw [List.length_take]; omega), List.drop_eq_nil_of_le (by rw [List.length_take]; omega), List.nil_append]
  simp [List.getD, List.getElem?_eq_getElem h]
theorem sp_MergeLegs_l0 (xs ys : List S70) (hx : xs.length ≤ 12) (hy : ys.length ≤ 12) : ∀ (d i : Nat) (zs : List S70), i + d = ys.length → zs.length ≤ 12 + i → Evn (fun k => spec_MergeLegs.l0 k xs ys zs (i : Int)) (if goodLegs (zs ++ mrg xs (ys.drop i)) = true then (zs ++ mrg xs (ys.drop i), true) else ([], false)) := by
  intro d
  induction d with
  | zero =>
    intro i zs h hz
    refine Evn.step ?_
    have h1 : ¬ (i : Int) < (ys.length : Int) := by omega
    simp only [spec_MergeLegs.l0, if_neg h1]
    rw [List.drop_eq_nil_of_le (by omega)]
    have e : zs ++ mrg xs [] = zs := by simp [mrg]
    rw [e]
    refine Evn.bind (sp_l4Legs zs (by omega)) ?_
    exact Evn.ite (fun c => by rw [if_pos c]; exact Evn.done _) (fun c => by rw [if_neg c]; exact Evn.done _)
  | succ d ih =>
    intro i zs h hz
    have h1 : (i : Int) < (ys.length : Int) := by omega
    have h2 : 0 ≤ (i : Int) := by omega
    have h3 : (i : Int) ≤ ((i + 1 : Nat) : Int) := by omega
    have h4 : ((i + 1 : Nat) : Int) ≤ (ys.length : Int) := by omega
    have hw := wrap_succ (show i < 4611686018427387904 by omega)
    refine Evn.step ?_
    simp only [spec_MergeLegs.l0, if_pos h1, if_pos h2, hw, if_pos h3, if_pos h4, rd_T70, Int.toNat_natCast]
    clear hw
    rw [take_drop_one ys i z70 (by omega), getD_drop ys i z70 (by omega)]
    refine Evn.bind (sp_l20Pairs xs [ys.getD i z70] (by omega) (by simp) (by simp; omega)) ?_
    have hp := prs_one xs (ys.getD i z70) xs.length 0 (by omega)
    rw [List.drop_zero] at hp
    refine Evn.ite (fun c => ?_) (fun c => ?_)
    · have hf := hp.1 (by omega)
      have e : mrg xs (ys.getD i z70 :: ys.drop (i + 1)) = ys.getD i z70 :: mrg xs (ys.drop (i + 1)) := by
        unfold mrg
        rw [List.filter_cons, hf]
        rfl
      rw [e]
      refine Evn.ite (fun _ => ?_) (fun c2 => absurd (by omega) c2)
      have h5 := ih (i + 1) (zs ++ [ys.getD i z70]) (by omega) (by rw [List.length_append, List.length_singleton]; omega)
      rw [List.append_assoc] at h5
      exact h5
    · have hf : (xs.any fun x => shB x (ys.getD i z70)) = true := by
        cases hc : xs.any fun x => shB x (ys.getD i z70) with
        | true => rfl
        | false => exact absurd (by have := hp.2 hc; omega) c
      have e : mrg xs (ys.getD i z70 :: ys.drop (i + 1)) = mrg xs (ys.drop (i + 1)) := by
        unfold mrg
        rw [List.filter_cons, hf]
        rfl
      rw [e]
      exact ih (i + 1) zs (by omega) (by omega)
theorem sp_MergeLegs (xs ys : List S70) (hx : xs.length ≤ 4194304) (hy : ys.length ≤ 4194304) : Evn (fun k => spec_MergeLegs.f k xs ys) (mrgs xs ys) := by
  unfold spec_MergeLegs.f mrgs
  refine Evn.bind (sp_l4Legs xs hx) ?_
  refine Evn.ite (fun c => ?_) (fun c => ?_)
  · refine Evn.bind (sp_l4Legs ys hy) ?_
    refine Evn.step ?_
    simp only [spec_MergeLegs.j0]
    refine Evn.ite (fun c1 => ?_) (fun c1 => ?_)
    · rw [if_neg (by intro h; have h2 := h.2; rw [h2] at c1; cases c1)]
      exact Evn.done _
    · have c2 : goodLegs ys = true := by simpa using c1
      have hx := goodLegs_len c
      have hy := goodLegs_len c2
      rw [if_pos ⟨c, c2⟩]
      simp only [Option.bind_some, List.length_nil, List.nil_append]
      refine Evn.ite (fun _ => ?_) (fun c2 => absurd (by omega) c2)
      have h := sp_MergeLegs_l0 xs ys hx hy ys.length 0 xs (by omega) (by omega)
      rw [List.drop_zero] at h
      exact h
  · refine Evn.step ?_
    simp only [spec_MergeLegs.j0, if_true]
    rw [if_neg (fun h => c h.1)]
    exact Evn.done _

theorem sp_l1Most (a b : Int) : spec_l1Most.f a b = some (max a b) := by
  unfold spec_l1Most.f
  split <;> congr 1 <;> omega

def absI (z : Int) : Int := mx z (wrap64 (-z))
def turnI (a b : Int) : Int := mn (absI (wrap64 (a - b))) (wrap64 (360 - absI (wrap64 (a - b))))
def revL (y : S70) : S70 := ⟨y.f1, y.f0, y.f2, Int.tmod (wrap64 (y.f3 + 180)) 360, wrap64 (-y.f4)⟩
def agB (x y : S70) (g t : Int) : Bool := decide (turnI x.f3 y.f3 ≤ g) && (decide (absI (wrap64 (x.f4 - y.f4)) ≤ g) && decide (absI (wrap64 (x.f2 - y.f2)) ≤ t))
def agreeB (x y : S70) (g t : Int) : Bool := if y.f0 = x.f0 then agB x y g t else agB x (revL y) g t

theorem sp_TurnBetween (a b : Int) (ha : 0 ≤ a ∧ a ≤ 359) (hb : 0 ≤ b ∧ b ≤ 359) : spec_TurnBetween.f a b = some (turnI a b, true) := by
  simp only [spec_TurnBetween.f, spec_l2Bearing.f, sp_l1In, Option.bind_some, decide_eq_true ha, decide_eq_true hb, if_true]
  unfold turnI absI mn mx
  have e1 : wrap64 (a - b) = a - b := wrap_id (by omega) (by omega)
  rw [e1]
  clear e1
  have e2 : wrap64 (a - b + 360) = a - b + 360 := wrap_id (by omega) (by omega)
  have e3 : wrap64 (-(a - b)) = -(a - b) := wrap_id (by clear e2; omega) (by clear e2; omega)
  rw [e2, e3, Int.tmod_eq_emod_of_nonneg (by clear e2 e3; omega)]
  clear e2 e3
  have hm : 0 ≤ (a - b + 360) % 360 ∧ (a - b + 360) % 360 < 360 := by omega
  have e4 : wrap64 (360 - (a - b + 360) % 360) = 360 - (a - b + 360) % 360 := wrap_id (by omega) (by omega)
  rw [e4]
  clear e4
  have hs : ∀ z : Int, 0 ≤ z → z ≤ 359 → wrap64 (360 - z) = 360 - z := fun z _ _ => wrap_id (by omega) (by omega)
  unfold spec_l1Least.f
  by_cases h : a - b < -(a - b)
  · rw [if_pos h, hs _ (by clear hs; omega) (by clear hs; omega)]
    clear hs
    have e5 : (a - b + 360) % 360 = a - b + 360 := by omega
    rw [e5]
    split <;> split <;> simp only [Option.bind_some, Option.some.injEq, Prod.mk.injEq, and_true] <;> omega
  · rw [if_neg h, hs _ (by clear hs; omega) (by clear hs; omega)]
    clear hs
    have e5 : (a - b + 360) % 360 = a - b := by omega
    rw [e5]
    split <;> split <;> simp only [Option.bind_some, Option.some.injEq, Prod.mk.injEq, and_true] <;> omega
theorem most_abs (a b : Int) (h : -1000 ≤ a ∧ a ≤ 1000) (h' : -1000 ≤ b ∧ b ≤ 1000) : spec_l1Most.f (wrap64 (a - b)) (wrap64 (b - a)) = some (absI (wrap64 (a - b))) := by
  have e1 : wrap64 (a - b) = a - b := wrap_id (by omega) (by omega)
  have e2 : wrap64 (b - a) = b - a := wrap_id (by clear e1; omega) (by clear e1; omega)
  have e3 : wrap64 (-(a - b)) = -(a - b) := wrap_id (by clear e1 e2; omega) (by clear e1 e2; omega)
  unfold spec_l1Most.f absI mx
  rw [e1, e2, e3]
  clear e1 e2 e3
  split <;> split <;> simp only [Option.some.injEq] <;> omega
theorem sp_agree_end (x z : S70) (g t : Int) (h3 : 0 ≤ x.f3 ∧ x.f3 ≤ 359) (h4 : -90 ≤ x.f4 ∧ x.f4 ≤ 90) (h2 : 1 ≤ x.f2 ∧ x.f2 ≤ 500) (k3 : 0 ≤ z.f3 ∧ z.f3 ≤ 359) (k4 : -90 ≤ z.f4 ∧ z.f4 ≤ 90) (k2 : 1 ≤ z.f2 ∧ z.f2 ≤ 500) :
    Evn (fun k => spec_DoAgree.j3 k g t false x.f0 x.f1 x.f2 x.f3 x.f4 z.f0 z.f1 z.f2 z.f3 z.f4) (agB x z g t, true) := by
  refine Evn.step ?_
  simp only [spec_DoAgree.j3, Bool.false_eq_true, if_false, sp_TurnBetween _ _ h3 k3, most_abs x.f4 z.f4 (by omega) (by omega), most_abs x.f2 z.f2 (by omega) (by omega), Option.bind_some]
  unfold agB
  refine Evn.ite (fun c1 => Evn.ite (fun c2 => ?_) (fun c2 => ?_)) (fun c1 => ?_)
  · rw [decide_eq_true c1, decide_eq_true c2, Bool.true_and, Bool.true_and]; exact Evn.done _
  · rw [decide_eq_false c2, Bool.false_and, Bool.and_false]; exact Evn.done _
  · rw [decide_eq_false c1, Bool.false_and]; exact Evn.done _
theorem rev_ok {y : S70} (h3 : 0 ≤ y.f3 ∧ y.f3 ≤ 359) (h4 : -90 ≤ y.f4 ∧ y.f4 ≤ 90) : (0 ≤ (revL y).f3 ∧ (revL y).f3 ≤ 359) ∧ (-90 ≤ (revL y).f4 ∧ (revL y).f4 ≤ 90) := by
  unfold revL
  dsimp only
  have e2 : wrap64 (y.f3 + 180) = y.f3 + 180 := wrap_id (by omega) (by omega)
  have e3 : wrap64 (-y.f4) = -y.f4 := wrap_id (by clear e2; omega) (by clear e2; omega)
  rw [e2, e3, Int.tmod_eq_emod_of_nonneg (by clear e2 e3; omega)]
  clear e2 e3
  omega
theorem sp_DoAgree (x y : S70) (g t : Int) (hx : okLeg x = true) (hy : okLeg y = true) (hg : 0 ≤ g) (ht : 0 ≤ t) :
    Evn (fun k => spec_DoAgree.f k x.f0 x.f1 x.f2 x.f3 x.f4 y.f0 y.f1 y.f2 y.f3 y.f4 g t) (if shB x y = true then (agreeB x y g t, true) else (false, false)) := by
  obtain ⟨_, _, hn, h2, h3, h4⟩ := okLeg_in hx
  obtain ⟨_, _, hm, k2, k3, k4⟩ := okLeg_in hy
  obtain ⟨r3, r4⟩ := rev_ok k3 k4
  have hg' : ¬ g < 0 := by omega
  have ht' : decide (t < 0) = false := decide_eq_false (by omega)
  simp only [spec_DoAgree.f, sp_l4Leg, hx, hy, if_true, Option.bind_some, if_neg hg', ht']
  refine Evn.step ?_
  simp only [spec_DoAgree.j0, Bool.false_eq_true, if_false]
  have tail : ¬ (x.f0 = y.f1 ∧ x.f1 = y.f0) → Evn (fun k => spec_DoAgree.j2 k g t x.f0 x.f1 x.f2 x.f3 x.f4 y.f0 y.f1 y.f2 y.f3 y.f4) (if shB x y = true then (agreeB x y g t, true) else (false, false)) := by
    intro hr
    refine Evn.step ?_
    simp only [spec_DoAgree.j2]
    by_cases c1 : x.f0 = y.f0
    · simp only [if_pos c1]
      by_cases c2 : x.f1 = y.f1
      · have e1 : (x.f1 != y.f1) = false := bne_eq_false_iff_eq.2 c2
        have e2 : shB x y = true := by unfold shB; rw [decide_eq_true c1, decide_eq_true c2]; rfl
        have e3 : agreeB x y g t = agB x y g t := by unfold agreeB; rw [if_pos c1.symm]
        rw [e1, e2, if_pos rfl, e3]
        exact sp_agree_end x y g t h3 h4 h2 k3 k4 k2
      · have e1 : (x.f1 != y.f1) = true := bne_iff_ne.2 c2
        have e2 : shB x y = false := by
          unfold shB
          rw [decide_eq_false c2, Bool.and_false, Bool.false_or]
          by_cases c3 : x.f0 = y.f1
          · rw [decide_eq_false (fun h => hr ⟨c3, h⟩), Bool.and_false]
          · rw [decide_eq_false c3, Bool.false_and]
        rw [e1, e2, if_neg (by decide)]
        refine Evn.step ?_
        simp only [spec_DoAgree.j3, if_true]
        exact Evn.done _
    · simp only [if_neg c1]
      have e2 : shB x y = false := by
        unfold shB
        rw [decide_eq_false c1, Bool.false_and, Bool.false_or]
        by_cases c3 : x.f0 = y.f1
        · rw [decide_eq_false (fun h => hr ⟨c3, h⟩), Bool.and_false]
        · rw [decide_eq_false c3, Bool.false_and]
      rw [e2, if_neg (by decide)]
      refine Evn.step ?_
      simp only [spec_DoAgree.j3, if_true]
      exact Evn.done _
  refine Evn.ite (fun c1 => Evn.step ?_) (fun c1 => Evn.step ?_)
  · simp only [spec_DoAgree.j1]
    refine Evn.ite (fun c2 => ?_) (fun c2 => ?_)
    · have c3 : x.f1 = y.f0 := beq_iff_eq.1 c2
      simp only [spec_l4Reverse.f, Option.bind_some]
      have e2 : shB x y = true := by unfold shB; rw [decide_eq_true c1, decide_eq_true c3, Bool.and_self, Bool.or_true]
      have e3 : agreeB x y g t = agB x (revL y) g t := by unfold agreeB; rw [if_neg (by omega)]
      rw [e2, if_pos rfl, e3]
      refine Evn.step ?_
      simp only [spec_DoAgree.j2, if_pos c1]
      have e1 : (x.f1 != y.f0) = false := bne_eq_false_iff_eq.2 c3
      rw [e1]
      exact sp_agree_end x (revL y) g t h3 h4 h2 r3 r4 k2
    · exact tail (fun h => c2 (beq_iff_eq.2 h.2))
  · simp only [spec_DoAgree.j1, Bool.false_eq_true, if_false]
    exact tail (fun h => c1 h.1)

def cfRow (xs ys : List S70) (g t : Int) (i : Nat) : Nat → Nat → List S64
  | 0, _ => []
  | d + 1, j => if shB (xs.getD i z70) (ys.getD j z70) = true then (if (!agreeB (xs.getD i z70) (ys.getD j z70) g t) = true then (⟨i, j⟩ : S64) :: cfRow xs ys g t i d (j + 1) else cfRow xs ys g t i d (j + 1)) else cfRow xs ys g t i d (j + 1)
def cfs (xs ys : List S70) (g t : Int) : Nat → Nat → List S64
  | 0, _ => []
  | d + 1, i => cfRow xs ys g t i ys.length 0 ++ cfs xs ys g t d (i + 1)
theorem cfRow_len (xs ys : List S70) (g t : Int) (i : Nat) : ∀ d j, (cfRow xs ys g t i d j).length ≤ d := by
  intro d
  induction d with
  | zero => intro j; simp [cfRow]
  | succ d ih =>
    intro j
    have := ih (j + 1)
    unfold cfRow
    split
    · split
      · rw [List.length_cons]; omega
      · omega
    · omega
theorem cfs_len (xs ys : List S70) (g t : Int) : ∀ d i, (cfs xs ys g t d i).length ≤ d * ys.length := by
  intro d
  induction d with
  | zero => intro i; simp [cfs]
  | succ d ih =>
    intro i
    have h1 := ih (i + 1)
    have h2 := cfRow_len xs ys g t i ys.length 0
    rw [cfs, List.length_append, Nat.succ_mul]
    omega
/-! A pair of the list of pairs: in range, and shared. -/
def pairOk (xs ys : List S70) (p : S64) : Prop := (0 ≤ p.f0 ∧ p.f0 < (xs.length : Int)) ∧ (0 ≤ p.f1 ∧ p.f1 < (ys.length : Int)) ∧ shB (xs.getD p.f0.toNat z70) (ys.getD p.f1.toNat z70) = true
def cfP (xs ys : List S70) (g t : Int) (p : S64) : Bool := !agreeB (xs.getD p.f0.toNat z70) (ys.getD p.f1.toNat z70) g t
theorem prRow_ok (xs ys : List S70) (i : Nat) (hi : i < xs.length) : ∀ d j, j + d = ys.length → ∀ p ∈ prRow xs ys i d j, pairOk xs ys p := by
  intro d
  induction d with
  | zero => intro j _ p hp; simp [prRow] at hp
  | succ d ih =>
    intro j h p hp
    unfold prRow at hp
    split at hp
    · rename_i c
      rcases List.mem_cons.1 hp with rfl | hp
      · exact ⟨⟨by dsimp only; omega, by dsimp only; omega⟩, ⟨by dsimp only; omega, by dsimp only; omega⟩, by simpa using c⟩
      · exact ih (j + 1) (by omega) p hp
    · exact ih (j + 1) (by omega) p hp
theorem prs_ok (xs ys : List S70) : ∀ d i, i + d = xs.length → ∀ p ∈ prs xs ys d i, pairOk xs ys p := by
  intro d
  induction d with
  | zero => intro i _ p hp; simp [prs] at hp
  | succ d ih =>
    intro i h p hp
    rw [prs] at hp
    rcases List.mem_append.1 hp with hp | hp
    · exact prRow_ok xs ys i (by omega) ys.length 0 (by omega) p hp
    · exact ih (i + 1) (by omega) p hp
theorem cfRow_eq (xs ys : List S70) (g t : Int) (i : Nat) : ∀ d j, (prRow xs ys i d j).filter (cfP xs ys g t) = cfRow xs ys g t i d j := by
  intro d
  induction d with
  | zero => intro j; rfl
  | succ d ih =>
    intro j
    unfold prRow cfRow
    by_cases c : shB (xs.getD i z70) (ys.getD j z70) = true
    · rw [if_pos c, if_pos c, List.filter_cons, ih]
      have e : cfP xs ys g t ⟨i, j⟩ = !agreeB (xs.getD i z70) (ys.getD j z70) g t := by simp [cfP]
      rw [e]
    · rw [if_neg c, if_neg c, ih]
theorem cfs_eq (xs ys : List S70) (g t : Int) : ∀ d i, (prs xs ys d i).filter (cfP xs ys g t) = cfs xs ys g t d i := by
  intro d
  induction d with
  | zero => intro i; rfl
  | succ d ih =>
    intro i
    rw [prs, cfs, List.filter_append, cfRow_eq, ih]
def cfTs (xs ys : List S70) (g t : Int) : List S64 × Bool := if goodLegs xs = true ∧ goodLegs ys = true ∧ 0 ≤ g ∧ 0 ≤ t then (cfs xs ys g t xs.length 0, true) else ([], false)

theorem sp_ConflictLegs_l0 (xs ys : List S70) (hx : goodLegs xs = true) (hy : goodLegs ys = true) (g t : Int) (hg : 0 ≤ g) (ht : 0 ≤ t) (ps : List S64) (hp : ∀ p ∈ ps, pairOk xs ys p) (hl : ps.length ≤ 4194304) : ∀ (d i : Nat) (zs : List S64), i + d = ps.length → zs.length + d ≤ 100000000 → Evn (fun k => spec_ConflictLegs.l0 k xs ys g t zs ps (i : Int)) (zs ++ (ps.drop i).filter (cfP xs ys g t), true) := by
  intro d
  induction d with
  | zero =>
    intro i zs h hz
    refine Evn.step ?_
    have h1 : ¬ (i : Int) < (ps.length : Int) := by omega
    simp only [spec_ConflictLegs.l0, if_neg h1]
    rw [List.drop_eq_nil_of_le (by omega), List.filter_nil, List.append_nil]
    exact Evn.done _
  | succ d ih =>
    intro i zs h hz
    have h1 : (i : Int) < (ps.length : Int) := by omega
    have h2 : 0 ≤ (i : Int) := by omega
    have hm : ps.getD i z64 ∈ ps := by
      rw [List.getD_eq_getElem?_getD, List.getElem?_eq_getElem (by omega)]
      exact List.getElem_mem _
    obtain ⟨⟨p1, p2⟩, ⟨p3, p4⟩, p5⟩ := hp _ hm
    have hw := wrap_succ (show i < 4611686018427387904 by omega)
    refine Evn.step ?_
    have er : rd_T64 ps (i : Int) = ps.getD i z64 := by unfold rd_T64; rw [Int.toNat_natCast]
    simp only [spec_ConflictLegs.l0, if_pos h1, if_pos h2, hw, er, if_pos p1, if_pos p2, if_pos p3, if_pos p4, rd_T70]
    clear hw er
    rw [getD_drop ps i z64 (by omega), List.filter_cons]
    have hxx := goodLegs_ok hx (ps.getD i z64).f0.toNat (by omega)
    have hyy := goodLegs_ok hy (ps.getD i z64).f1.toNat (by omega)
    have hD := sp_DoAgree _ _ g t hxx hyy hg ht
    rw [if_pos p5] at hD
    refine Evn.bind hD ?_
    dsimp only
    have ec : cfP xs ys g t (ps.getD i z64) = !agreeB (xs.getD (ps.getD i z64).f0.toNat z70) (ys.getD (ps.getD i z64).f1.toNat z70) g t := rfl
    refine Evn.ite (fun c => ?_) (fun c => ?_)
    · rw [ec, c, Bool.not_true, if_neg (by decide)]
      exact ih (i + 1) zs (by omega) (by omega)
    · rw [ec, Bool.eq_false_iff.mpr c, Bool.not_false, if_pos rfl]
      refine Evn.ite (fun _ => ?_) (fun c2 => absurd (by omega) c2)
      have h5 := ih (i + 1) (zs ++ [(⟨(ps.getD i z64).f0, (ps.getD i z64).f1⟩ : S64)]) (by omega) (by rw [List.length_append, List.length_singleton]; omega)
      rw [List.append_assoc] at h5
      exact h5
theorem sp_ConflictLegs (xs ys : List S70) (g t : Int) (hx : xs.length ≤ 4194304) (hy : ys.length ≤ 4194304) : Evn (fun k => spec_ConflictLegs.f k xs ys g t) (cfTs xs ys g t) := by
  have no : ¬ (goodLegs xs = true ∧ goodLegs ys = true ∧ 0 ≤ g ∧ 0 ≤ t) → Evn (fun k => spec_ConflictLegs.j0 k xs ys g t [] true) (cfTs xs ys g t) := by
    intro h
    unfold cfTs
    rw [if_neg h]
    refine Evn.step ?_
    simp only [spec_ConflictLegs.j0, if_true]
    exact Evn.done _
  unfold spec_ConflictLegs.f
  simp only [Option.bind_some]
  refine Evn.bind (sp_l4Legs xs hx) ?_
  refine Evn.ite (fun c1 => ?_) (fun c1 => no (fun h => c1 h.1))
  refine Evn.bind (sp_l4Legs ys hy) ?_
  refine Evn.ite (fun c2 => ?_) (fun c2 => no (fun h => c2 h.2.1))
  refine Evn.ite (fun c3 => no (fun h => by omega)) (fun c3 => ?_)
  by_cases c4 : t < 0
  · rw [decide_eq_true c4]
    exact no (fun h => by omega)
  · rw [decide_eq_false c4]
    refine Evn.step ?_
    simp only [spec_ConflictLegs.j0, Bool.false_eq_true, if_false]
    have h2 : xs.length * ys.length ≤ 144 := Nat.mul_le_mul (goodLegs_len c1) (goodLegs_len c2)
    refine Evn.bind (sp_l20Pairs xs ys hx hy (by omega)) ?_
    have hl := prs_len xs ys xs.length 0
    have h := sp_ConflictLegs_l0 xs ys c1 c2 g t (by omega) (by omega) (prs xs ys xs.length 0) (prs_ok xs ys xs.length 0 (by omega)) (by omega) (prs xs ys xs.length 0).length 0 [] (by omega) (by simp only [List.length_nil]; omega)
    rw [List.nil_append, List.drop_zero, cfs_eq] at h
    unfold cfTs
    rw [if_pos ⟨c1, c2, by omega, by omega⟩]
    exact h

theorem tm360 (a : Int) : 0 ≤ Int.tmod (wrap64 (Int.tmod a 360 + 360)) 360 ∧ Int.tmod (wrap64 (Int.tmod a 360 + 360)) 360 < 360 := by
  have h1 : -360 < Int.tmod a 360 := Int.lt_tmod_of_pos a (by decide)
  have h2 : Int.tmod a 360 < 360 := Int.tmod_lt_of_pos a (by decide)
  rw [wrap_id (by omega) (by omega)]
  exact ⟨Int.tmod_nonneg 360 (by omega), Int.tmod_lt_of_pos _ (by decide)⟩
theorem ok_sine (a : Int) : ∃ r, spec_l2Sine.f a = some r := by
  obtain ⟨d0, d1⟩ := tm360 a
  unfold spec_l2Sine.f
  generalize Int.tmod (wrap64 (Int.tmod a 360 + 360)) 360 = d at d0 d1
  obtain ⟨T, hT, hl⟩ : ∃ T, spec_l2Table.f = some T ∧ T.length = 91 := ⟨_, rfl, rfl⟩
  simp only [hT, Option.bind_some, hl]
  by_cases c1 : d ≤ 90
  · rw [if_pos c1, if_pos d0, if_pos (show d < ((91 : Nat) : Int) by omega)]; exact ⟨_, rfl⟩
  rw [if_neg c1]
  by_cases c2 : d ≤ 180
  · rw [if_pos c2, wrap_id (x := 180 - d) (by omega) (by omega), if_pos (show 0 ≤ 180 - d by omega), if_pos (show 180 - d < ((91 : Nat) : Int) by omega)]; exact ⟨_, rfl⟩
  rw [if_neg c2]
  by_cases c3 : d ≤ 270
  · rw [if_pos c3, wrap_id (x := d - 180) (by omega) (by omega), if_pos (show 0 ≤ d - 180 by omega), if_pos (show d - 180 < ((91 : Nat) : Int) by omega)]; exact ⟨_, rfl⟩
  · rw [if_neg c3, wrap_id (x := 360 - d) (by omega) (by omega), if_pos (show 0 ≤ 360 - d by omega), if_pos (show 360 - d < ((91 : Nat) : Int) by omega)]; exact ⟨_, rfl⟩

theorem ok_cosine (a : Int) : ∃ r, spec_l2Cosine.f a = some r := by
  unfold spec_l2Cosine.f
  obtain ⟨r, hr⟩ := ok_sine (wrap64 (a + 90))
  rw [hr]
  exact ⟨r, rfl⟩

theorem ok_div (a : Int) : ∃ r, spec_l2Div.f a 1000 = some r := by
  unfold spec_l2Div.f
  have h : ¬ wrap64 (2 * 1000) = 0 := by rw [wrap_id (by omega) (by omega)]; omega
  by_cases c : a < 0
  · rw [if_pos c, if_neg h]; exact ⟨_, rfl⟩
  · rw [if_neg c, if_neg h]; exact ⟨_, rfl⟩
theorem ok_shift (a b c d e : Int) : ∃ r, spec_l4Shift.f a b c d e = some r := by
  unfold spec_l4Shift.f
  obtain ⟨r1, h1⟩ := ok_cosine e
  obtain ⟨r2, h2⟩ := ok_div (wrap64 (c * r1))
  obtain ⟨r3, h3⟩ := ok_sine d
  obtain ⟨r4, h4⟩ := ok_div (wrap64 (r2 * r3))
  obtain ⟨r5, h5⟩ := ok_cosine d
  obtain ⟨r6, h6⟩ := ok_div (wrap64 (r2 * r5))
  obtain ⟨r7, h7⟩ := ok_sine e
  obtain ⟨r8, h8⟩ := ok_div (wrap64 (c * r7))
  simp only [h1, h2, h3, h4, h5, h6, h7, h8, Option.bind_some]
  exact ⟨_, rfl⟩
theorem ok_plus (a b c d e f g : Int) : ∃ r, spec_l4Plus.f a b c d e f g = some r := ⟨_, rfl⟩

/-! That something comes out, whatever it is. -/
theorem Ex.ite {α : Type} {c : Prop} [Decidable c] {g g' : Nat → Option α} (h : c → ∃ r, Evn g r) (h' : ¬ c → ∃ r, Evn g' r) : ∃ r, Evn (fun k => if c then g k else g' k) r := by
  by_cases hc : c
  · simp only [if_pos hc]; exact h hc
  · simp only [if_neg hc]; exact h' hc
theorem Ex.bind {α β : Type} {g : Nat → Option α} {f : Nat → α → Option β} (h : ∃ a, Evn g a) (h' : ∀ a, ∃ r, Evn (fun k => f k a) r) : ∃ r, Evn (fun k => (g k).bind (f k)) r := by
  obtain ⟨a, ha⟩ := h
  obtain ⟨r, hr⟩ := h' a
  exact ⟨r, Evn.bind ha hr⟩
theorem Ex.step {α : Type} {g : Nat → Option α} (h : ∃ r, Evn (fun k => g (k + 1)) r) : ∃ r, Evn g r := by
  obtain ⟨r, hr⟩ := h
  exact ⟨r, Evn.step hr⟩

theorem ok_long (a : Int) : ∃ b, spec_l2Long.f a = some b := by
  unfold spec_l2Long.f
  rw [sp_l1In, Option.bind_some]
  exact ⟨_, rfl⟩
theorem ok_LengthOf_l0 (S : Int) : ∀ (D : Nat) (lo hi : Int), hi - lo ≤ (D : Int) → 0 ≤ lo → lo ≤ 200000 → -1 ≤ hi → hi ≤ 200000 → ∃ r, Evn (fun k => spec_LengthOf.l0 k S lo hi) r := by
  intro D
  induction D with
  | zero =>
    intro lo hi h _ _ _ _
    refine ⟨(lo, true), Evn.step ?_⟩
    simp only [spec_LengthOf.l0, if_neg (show ¬ lo < hi by omega)]
    exact Evn.done _
  | succ D ih =>
    intro lo hi h h0 h1 h2 h3
    by_cases c : lo < hi
    · have e : wrap64 (Int.tdiv (wrap64 (wrap64 (lo + hi) + 1)) 2) = (lo + hi + 1) / 2 := by
        rw [wrap_id (x := lo + hi) (by omega) (by omega), wrap_id (x := lo + hi + 1) (by omega) (by omega), Int.tdiv_eq_ediv_of_nonneg (by omega), wrap_id (by omega) (by omega)]
      have e2 : wrap64 ((lo + hi + 1) / 2 - 1) = (lo + hi + 1) / 2 - 1 := wrap_id (by omega) (by omega)
      obtain ⟨r1, hr1⟩ := ih ((lo + hi + 1) / 2) hi (by omega) (by omega) (by omega) (by omega) (by omega)
      obtain ⟨r2, hr2⟩ := ih lo ((lo + hi + 1) / 2 - 1) (by omega) (by omega) (by omega) (by omega) (by omega)
      refine Ex.step ?_
      simp only [spec_LengthOf.l0, if_pos c, e, e2]
      exact Ex.ite (fun _ => ⟨r1, hr1⟩) (fun _ => ⟨r2, hr2⟩)
    · refine ⟨(lo, true), Evn.step ?_⟩
      simp only [spec_LengthOf.l0, if_neg c]
      exact Evn.done _
theorem ok_LengthOf (a b c : Int) : ∃ r, Evn (fun k => spec_LengthOf.f k a b c) r := by
  have j0 : ∀ q : Bool, ∃ r, Evn (fun k => spec_LengthOf.j0 k a b c q) r := by
    intro q
    refine Ex.step ?_
    simp only [spec_LengthOf.j0]
    exact Ex.ite (fun _ => ⟨_, Evn.done _⟩) (fun _ => ok_LengthOf_l0 _ 200000 0 200000 (by decide) (by decide) (by decide) (by decide) (by decide))
  unfold spec_LengthOf.f
  obtain ⟨x, hx⟩ := ok_long a
  obtain ⟨y, hy⟩ := ok_long b
  obtain ⟨z, hz⟩ := ok_long c
  simp only [hx, hy, hz, Option.bind_some]
  exact Ex.ite (fun _ => Ex.ite (fun _ => j0 _) (fun _ => j0 _)) (fun _ => j0 _)

theorem ok_BearingTo_l0 (a b : Int) : ∀ (D : Nat) (best x : Int), x + (D : Int) = 360 → 1 ≤ x → ∃ r, Evn (fun k => spec_BearingTo.l0 k a b best x) r := by
  intro D
  induction D with
  | zero =>
    intro best x h _
    refine ⟨(best, true), Evn.step ?_⟩
    simp only [spec_BearingTo.l0, if_neg (show ¬ x < 360 by omega)]
    exact Evn.done _
  | succ D ih =>
    intro best x h h0
    have hw : wrap64 (x + 1) = x + 1 := wrap_id (by omega) (by omega)
    obtain ⟨r1, h1⟩ := ok_sine x
    obtain ⟨r2, h2⟩ := ok_cosine x
    obtain ⟨r3, h3⟩ := ok_sine best
    obtain ⟨r4, h4⟩ := ok_cosine best
    refine Ex.step ?_
    simp only [spec_BearingTo.l0, if_pos (show x < 360 by omega), h1, h2, h3, h4, Option.bind_some, hw]
    clear hw
    exact Ex.ite (fun _ => ih x (x + 1) (by omega) (by omega)) (fun _ => ih best (x + 1) (by omega) (by omega))
theorem ok_BearingTo (a b : Int) : ∃ r, Evn (fun k => spec_BearingTo.f k a b) r := by
  have j0 : ∀ q : Bool, ∃ r, Evn (fun k => spec_BearingTo.j0 k a b q) r := by
    intro q
    refine Ex.step ?_
    simp only [spec_BearingTo.j0]
    exact Ex.ite (fun _ => ⟨_, Evn.done _⟩) (fun _ => ok_BearingTo_l0 a b 359 0 1 (by decide) (by decide))
  unfold spec_BearingTo.f
  obtain ⟨x, hx⟩ := ok_long a
  obtain ⟨y, hy⟩ := ok_long b
  simp only [hx, hy, Option.bind_some]
  exact Ex.ite (fun _ => Ex.ite (fun _ => Ex.ite (fun _ => j0 _) (fun _ => j0 _)) (fun _ => j0 _)) (fun _ => j0 _)

theorem ok_SlopeTo_l1 (a b x : Int) (hr : ∀ best, ∃ r, Evn (fun k => spec_SlopeTo.l0 k a b best (wrap64 (x + 1))) r) : ∀ (D : Nat) (best y : Int), y = 2 * (D : Int) - 3 → D ≤ 2 → ∃ r, Evn (fun k => spec_SlopeTo.l1 k a b best x y) r := by
  intro D
  induction D with
  | zero =>
    intro best y h _
    refine Ex.step ?_
    simp only [spec_SlopeTo.l1, if_neg (show ¬ y ≥ (-1) by omega)]
    exact hr best
  | succ D ih =>
    intro best y h h0
    have hw : wrap64 (y - 2) = y - 2 := wrap_id (by omega) (by omega)
    obtain ⟨r1, h1⟩ := ok_cosine x
    obtain ⟨r2, h2⟩ := ok_sine (wrap64 (y * x))
    obtain ⟨r3, h3⟩ := ok_cosine best
    obtain ⟨r4, h4⟩ := ok_sine best
    refine Ex.step ?_
    simp only [spec_SlopeTo.l1, if_pos (show y ≥ (-1) by omega), h1, h2, h3, h4, Option.bind_some, hw]
    clear hw
    exact Ex.ite (fun _ => ih _ (y - 2) (by omega) (by omega)) (fun _ => ih best (y - 2) (by omega) (by omega))
theorem ok_SlopeTo_l0 (a b : Int) : ∀ (D : Nat) (best x : Int), x + (D : Int) = 91 → 1 ≤ x → ∃ r, Evn (fun k => spec_SlopeTo.l0 k a b best x) r := by
  intro D
  induction D with
  | zero =>
    intro best x h _
    refine ⟨(best, true), Evn.step ?_⟩
    simp only [spec_SlopeTo.l0, if_neg (show ¬ x ≤ 90 by omega)]
    exact Evn.done _
  | succ D ih =>
    intro best x h h0
    have hn : ∀ best, ∃ r, Evn (fun k => spec_SlopeTo.l0 k a b best (wrap64 (x + 1))) r := by
      intro best
      rw [wrap_id (x := x + 1) (by omega) (by omega)]
      exact ih best (x + 1) (by omega) (by omega)
    refine Ex.step ?_
    simp only [spec_SlopeTo.l0, if_pos (show x ≤ 90 by omega)]
    exact ok_SlopeTo_l1 a b x hn 2 best 1 (by decide) (by decide)
theorem ok_SlopeTo (a b : Int) : ∃ r, Evn (fun k => spec_SlopeTo.f k a b) r := by
  have j0 : ∀ q : Bool, ∃ r, Evn (fun k => spec_SlopeTo.j0 k a b q) r := by
    intro q
    refine Ex.step ?_
    simp only [spec_SlopeTo.j0]
    exact Ex.ite (fun _ => ⟨_, Evn.done _⟩) (fun _ => ok_SlopeTo_l0 a b 90 0 1 (by decide) (by decide))
  unfold spec_SlopeTo.f
  obtain ⟨y, hy⟩ := ok_long b
  simp only [sp_l1In, hy, Option.bind_some]
  exact Ex.ite (fun _ => Ex.ite (fun _ => Ex.ite (fun _ => j0 _) (fun _ => j0 _)) (fun _ => j0 _)) (fun _ => j0 _)

/-! The draws: a cursor over bytes. -/
def Byts (l : List Int) : Prop := ∀ x ∈ l, 0 ≤ x ∧ x ≤ 255
theorem bits255 (x : Int) : 0 ≤ Go.bits .and .u64 x 255 ∧ Go.bits .and .u64 x 255 ≤ 255 := by
  have h : (BitVec.ofInt 64 x &&& BitVec.ofInt 64 255).toNat ≤ 255 := by rw [BitVec.toNat_and]; exact Nat.le_trans Nat.and_le_right (by decide)
  have e : Go.bits .and .u64 x 255 = IntKind.u64.wrap ((BitVec.ofInt 64 x &&& BitVec.ofInt 64 255).toNat : Int) := rfl
  rw [e, IntKind.wrap_u64]
  omega
theorem Byts.at_ {l : List Int} (h : Byts l) (p : Int) : 0 ≤ rd l p ∧ rd l p ≤ 255 := by
  unfold rd
  by_cases g : p.toNat < l.length
  · rw [List.getD_eq_getElem?_getD, List.getElem?_eq_getElem g, Option.getD_some]
    exact h _ (List.getElem_mem g)
  · rw [List.getD_eq_getElem?_getD, List.getElem?_eq_none (by omega), Option.getD_none]
    omega
theorem dw_next {l : List Int} {p : Int} (hl : Byts l) (h0 : 0 ≤ p) (h1 : p ≤ 2000000000) (s : Int) : ∃ r, spec_l1Cur_next.f l p s = some r ∧ 0 ≤ r.1 ∧ r.1 ≤ 255 ∧ r.2.1 = p + 1 := by
  have hr := hl.at_ p
  have e : wrap64 (rd l p) = rd l p := wrap_id (by omega) (by omega)
  have e2 : wrap64 (p + 1) = p + 1 := wrap_id (by omega) (by omega)
  unfold spec_l1Cur_next.f
  rw [e, e2]
  split
  · (try rw [if_pos h0])
    split
    · exact ⟨_, rfl, hr.1, hr.2, rfl⟩
    · refine ⟨_, rfl, ?_, ?_, rfl⟩
      · dsimp only; rw [wrap_id (by have := bits255; exact Int.le_trans (by decide) (this _).1) (Int.le_trans (bits255 _).2 (by decide))]; exact (bits255 _).1
      · dsimp only; rw [wrap_id (by have := bits255; exact Int.le_trans (by decide) (this _).1) (Int.le_trans (bits255 _).2 (by decide))]; exact (bits255 _).2
  · split
    · exact ⟨_, rfl, by dsimp only; omega, by dsimp only; omega, rfl⟩
    · refine ⟨_, rfl, ?_, ?_, rfl⟩
      · dsimp only; rw [wrap_id (by have := bits255; exact Int.le_trans (by decide) (this _).1) (Int.le_trans (bits255 _).2 (by decide))]; exact (bits255 _).1
      · dsimp only; rw [wrap_id (by have := bits255; exact Int.le_trans (by decide) (this _).1) (Int.le_trans (bits255 _).2 (by decide))]; exact (bits255 _).2

theorem tmod_in {x n : Int} (hx : 0 ≤ x) (hn : 1 < n) : 0 ≤ Int.tmod x n ∧ Int.tmod x n < n := by
  rw [Int.tmod_eq_emod_of_nonneg hx]
  exact ⟨Int.emod_nonneg _ (by omega), Int.emod_lt_of_pos _ (by omega)⟩
theorem dw_pick {l : List Int} {p : Int} (hl : Byts l) (h0 : 0 ≤ p) (h1 : p ≤ 1000000000) (s n : Int) : ∃ r, spec_l1Cur_pick.f l p s n = some r ∧ 0 ≤ r.1 ∧ (r.1 < n ∨ r.1 = 0) ∧ p ≤ r.2.1 ∧ r.2.1 ≤ p + 2 := by
  unfold spec_l1Cur_pick.f
  by_cases c : n ≤ 1
  · rw [if_pos c]
    exact ⟨_, rfl, by dsimp only; omega, Or.inr rfl, Int.le_refl _, by dsimp only; omega⟩
  · rw [if_neg c]
    obtain ⟨a, ha, a0, a1, a2⟩ := dw_next hl h0 (by omega) s
    rw [ha, Option.bind_some]
    split
    · obtain ⟨b, hb, b0, b1, b2⟩ := dw_next hl (p := a.2.1) (by omega) (by omega) a.2.2
      rw [hb, Option.bind_some, if_neg (by omega)]
      have t := tmod_in (x := wrap64 (wrap64 (a.1 * 256) + b.1)) (n := n) (by rw [wrap_id (x := a.1 * 256) (by omega) (by omega), wrap_id (by omega) (by omega)]; omega) (by omega)
      exact ⟨_, rfl, t.1, Or.inl t.2, by dsimp only; omega, by dsimp only; omega⟩
    · rw [if_neg (by omega)]
      have t := tmod_in (x := a.1) (n := n) a0 (by omega)
      exact ⟨_, rfl, t.1, Or.inl t.2, by dsimp only; omega, by dsimp only; omega⟩

theorem dw_one {l : List Int} {p : Int} (hl : Byts l) (h0 : 0 ≤ p) (h1 : p ≤ 1000000000) (s n : Int) : ∃ r, spec_l1Cur_one.f l p s n = some r ∧ p ≤ r.2.1 ∧ r.2.1 ≤ p + 2 := by
  unfold spec_l1Cur_one.f
  obtain ⟨a, ha, a0, a1, a2, a3⟩ := dw_pick hl h0 h1 s n
  rw [ha, Option.bind_some]
  exact ⟨_, rfl, a2, a3⟩

theorem rd_mem {L : List Int} {i : Int} (h0 : 0 ≤ i) (h1 : i < L.length) : rd L i ∈ L := by
  unfold rd
  rw [List.getD_eq_getElem?_getD, List.getElem?_eq_getElem (by omega), Option.getD_some]
  exact List.getElem_mem _
theorem dw_among {l : List Int} {p : Int} (hl : Byts l) (h0 : 0 ≤ p) (h1 : p ≤ 1000000000) (s : Int) (L : List Int) (hL : 0 < L.length) : ∃ r, spec_l1Cur_among.f l p s L = some r ∧ r.1 ∈ L ∧ p ≤ r.2.1 ∧ r.2.1 ≤ p + 2 := by
  unfold spec_l1Cur_among.f
  obtain ⟨a, ha, a0, a1, a2, a3⟩ := dw_pick hl h0 h1 s (L.length : Int)
  have a4 : a.1 < (L.length : Int) := by omega
  rw [ha, Option.bind_some, if_pos a0, if_pos a4]
  exact ⟨_, rfl, rd_mem a0 a4, a2, a3⟩

theorem dw_leg {l : List Int} {p : Int} (hl : Byts l) (h0 : 0 ≤ p) (h1 : p ≤ 900000000) (s : Int) : ∃ r, Evn (fun k => spec_l1Cur_leg.f k l p s) r ∧ p ≤ r.2.2.2.2.2.1 ∧ r.2.2.2.2.2.1 ≤ p + 14 := by
  have go : ∀ (q t a b c d e : Int), p ≤ q → q ≤ p + 10 → ∃ r, Evn (fun k => spec_l1Cur_leg.j0 k l q t a b c d e) r ∧ p ≤ r.2.2.2.2.2.1 ∧ r.2.2.2.2.2.1 ≤ p + 14 := by
    intro q t a b c d e hq hq2
    obtain ⟨u, hu, u0, u1, u2, u3⟩ := dw_pick hl (p := q) (by omega) (by omega) t 40
    by_cases c0 : u.1 = 0
    · obtain ⟨v, hv, _, v2, v3⟩ := dw_among hl (p := u.2.1) (by omega) (by omega) u.2.2 [-1, 7, 8, a] (by simp)
      refine ⟨(a, v.1, c, d, e, v.2.1, v.2.2), Evn.step ?_, by dsimp only; omega, by dsimp only; omega⟩
      simp only [spec_l1Cur_leg.j0, hu, Option.bind_some, if_pos c0, hv]
      exact Evn.done _
    by_cases c1 : u.1 = 1
    · obtain ⟨v, hv, _, v2, v3⟩ := dw_among hl (p := u.2.1) (by omega) (by omega) u.2.2 [0, 501] (by simp)
      refine ⟨(a, b, v.1, d, e, v.2.1, v.2.2), Evn.step ?_, by dsimp only; omega, by dsimp only; omega⟩
      simp only [spec_l1Cur_leg.j0, hu, Option.bind_some, if_neg c0, if_pos c1, hv]
      exact Evn.done _
    by_cases c2 : u.1 = 2
    · obtain ⟨v, hv, _, v2, v3⟩ := dw_among hl (p := u.2.1) (by omega) (by omega) u.2.2 [-1, 360] (by simp)
      refine ⟨(a, b, c, v.1, e, v.2.1, v.2.2), Evn.step ?_, by dsimp only; omega, by dsimp only; omega⟩
      simp only [spec_l1Cur_leg.j0, hu, Option.bind_some, if_neg c0, if_neg c1, if_pos c2, hv]
      exact Evn.done _
    by_cases c3 : u.1 = 3
    · obtain ⟨v, hv, _, v2, v3⟩ := dw_among hl (p := u.2.1) (by omega) (by omega) u.2.2 [-91, 91] (by simp)
      refine ⟨(a, b, c, d, v.1, v.2.1, v.2.2), Evn.step ?_, by dsimp only; omega, by dsimp only; omega⟩
      simp only [spec_l1Cur_leg.j0, hu, Option.bind_some, if_neg c0, if_neg c1, if_neg c2, if_pos c3, hv]
      exact Evn.done _
    refine ⟨(a, b, c, d, e, u.2.1, u.2.2), Evn.step ?_, by dsimp only; omega, by dsimp only; omega⟩
    simp only [spec_l1Cur_leg.j0, hu, Option.bind_some, if_neg c0, if_neg c1, if_neg c2, if_neg c3]
    exact Evn.done _
  unfold spec_l1Cur_leg.f
  obtain ⟨a, ha, a0, a1, a2, a3⟩ := dw_pick hl h0 (by omega) s 6
  obtain ⟨b, hb, b0, b1, b2, b3⟩ := dw_pick hl (p := a.2.1) (by omega) (by omega) a.2.2 6
  obtain ⟨c, hc, _, c2, c3⟩ := dw_among hl (p := b.2.1) (by omega) (by omega) b.2.2 [1, 10, 50, 100, 120, 250, 500] (by simp)
  obtain ⟨d, hd, _, d2, d3⟩ := dw_among hl (p := c.2.1) (by omega) (by omega) c.2.2 [0, 45, 90, 135, 180, 270, 359, 17, 222] (by simp)
  obtain ⟨e, he, _, e2, e3⟩ := dw_among hl (p := d.2.1) (by omega) (by omega) d.2.2 [0, 0, 0, 5, (-5), 30, (-45), 90, (-90)] (by simp)
  simp only [ha, hb, hc, hd, he, Option.bind_some]
  by_cases cc : a.1 = b.1
  · simp only [if_pos cc]
    exact go _ _ _ _ _ _ _ (by omega) (by omega)
  · simp only [if_neg cc]
    exact go _ _ _ _ _ _ _ (by omega) (by omega)

theorem dw_cave_l1 {l : List Int} (hl : Byts l) (n : Int) (n2 : 2 ≤ n) (n6 : n ≤ 6) (ps : List S103) (hps : (ps.length : Int) = n) : ∀ (D : Nat) (zs : List S70) (p s : Int), 1 ≤ zs.length → zs.length + D ≤ 12 → 0 ≤ p → p ≤ 800000000 - 20 * (D : Int) → ∃ r, Evn (fun k => spec_l1Cur_cave.l1 k zs n ps (D : Int) l p s) r ∧ r.1.length ≤ 13 ∧ p ≤ r.2.1 ∧ r.2.1 ≤ p + 20 * (D : Int) + 20 := by
  intro D
  induction D with
  | zero =>
    intro zs p s hz hz2 h0 h1
    have hn : ¬ ((0 : Nat) : Int) > 0 := by decide
    obtain ⟨u, hu, u0, u1, u2, u3⟩ := dw_pick hl h0 (by omega) s 24
    by_cases c0 : u.1 = 0
    · obtain ⟨v, hv, v1, v2⟩ := dw_leg hl (p := u.2.1) (by omega) (by omega) u.2.2
      have hq : 0 < (zs.length : Int) := by omega
      refine ⟨(zs.set (0 : Int).toNat (⟨v.1, v.2.1, v.2.2.1, v.2.2.2.1, v.2.2.2.2.1⟩ : S70), v.2.2.2.2.2.1, v.2.2.2.2.2.2), Evn.step ?_, by dsimp only; rw [List.length_set]; omega, by dsimp only; omega, by dsimp only; omega⟩
      simp only [spec_l1Cur_cave.l1, if_neg hn, hu, Option.bind_some, if_pos c0]
      refine Evn.bind hv ?_
      simp only [if_pos hq]
      exact Evn.done _
    by_cases c1 : u.1 = 1
    · obtain ⟨v, hv, v1, v2⟩ := dw_leg hl (p := u.2.1) (by omega) (by omega) u.2.2
      have hq : zs.length < 3518437208883 := by omega
      refine ⟨(zs ++ [(⟨v.1, v.2.1, v.2.2.1, v.2.2.2.1, v.2.2.2.2.1⟩ : S70)], v.2.2.2.2.2.1, v.2.2.2.2.2.2), Evn.step ?_, by dsimp only; rw [List.length_append, List.length_singleton]; omega, by dsimp only; omega, by dsimp only; omega⟩
      simp only [spec_l1Cur_cave.l1, if_neg hn, hu, Option.bind_some, if_neg c0, if_pos c1]
      refine Evn.bind hv ?_
      simp only [if_pos hq]
      exact Evn.done _
    by_cases c2 : u.1 = 2
    · have hq : 1 ≤ (zs.length : Int) := by omega
      have hq2 : ([] : List S70).length + (zs.drop 1).length < 3518437208883 := by simp only [List.length_nil, List.length_drop]; omega
      refine ⟨(zs.drop 1, u.2.1, u.2.2), Evn.step ?_, by dsimp only; rw [List.length_drop]; omega, by dsimp only; omega, by dsimp only; omega⟩
      simp only [spec_l1Cur_cave.l1, if_neg hn, hu, Option.bind_some, if_neg c0, if_neg c1, if_pos c2, if_pos hq, if_pos hq2, List.nil_append]
      exact Evn.done _
    · refine ⟨(zs, u.2.1, u.2.2), Evn.step ?_, by dsimp only; omega, by dsimp only; omega, by dsimp only; omega⟩
      simp only [spec_l1Cur_cave.l1, if_neg hn, hu, Option.bind_some, if_neg c0, if_neg c1, if_neg c2]
      exact Evn.done _
  | succ D ih =>
    intro zs p s hz hz2 h0 h1
    have hp : ((D + 1 : Nat) : Int) > 0 := by omega
    obtain ⟨u, hu, u0, u1, u2, u3⟩ := dw_pick hl h0 (by omega) s n
    obtain ⟨v, hv, v0, v1, v2, v3⟩ := dw_pick hl (p := u.2.1) (by omega) (by omega) u.2.2 n
    have u4 : u.1 < (ps.length : Int) := by omega
    have v4 : v.1 < (ps.length : Int) := by omega
    obtain ⟨d, hd⟩ := ok_plus (rd_T103 ps v.1).f0 (rd_T103 ps v.1).f1 (rd_T103 ps v.1).f2 (rd_T103 ps u.1).f0 (rd_T103 ps u.1).f1 (rd_T103 ps u.1).f2 (-1)
    obtain ⟨a, ha⟩ := ok_LengthOf d.1 d.2.1 0
    obtain ⟨b, hb⟩ := ok_LengthOf d.1 d.2.1 d.2.2
    have tail : ∀ (q : Bool) (x9 x10 x12 x14 : Int), ∃ r, Evn (fun k => spec_l1Cur_cave.j2 k zs n ps ((D + 1 : Nat) : Int) x9 x10 x12 x14 q l v.2.1 v.2.2 d.1 d.2.1 d.2.2) r ∧ r.1.length ≤ 13 ∧ p ≤ r.2.1 ∧ r.2.1 ≤ p + 20 * ((D + 1 : Nat) : Int) + 20 := by
      intro q x9 x10 x12 x14
      cases q with
      | true =>
        obtain ⟨r, hr, r1, r2, r3⟩ := ih zs v.2.1 v.2.2 hz (by omega) (by omega) (by omega)
        refine ⟨r, Evn.step ?_, r1, by omega, by omega⟩
        simp only [spec_l1Cur_cave.j2, if_true, wrap_pred (show D < 4611686018427387904 by omega)]
        exact hr
      | false =>
        obtain ⟨e, he⟩ := ok_BearingTo d.1 d.2.1
        obtain ⟨f, hf⟩ := ok_SlopeTo x12 d.2.2
        obtain ⟨g, hg, _, _, g2, g3⟩ := dw_pick hl (p := v.2.1) (by omega) (by omega) v.2.2 4
        obtain ⟨h, hh, _, _, h2, h3⟩ := dw_pick hl (p := g.2.1) (by omega) (by omega) g.2.2 3
        have hq : zs.length < 3518437208883 := by omega
        obtain ⟨r, hr, r1, r2, r3⟩ := ih (zs ++ [⟨x9, x10, wrap64 (x14 + g.1), Int.tmod (wrap64 (e.1 + h.1)) 360, f.1⟩]) h.2.1 h.2.2 (by rw [List.length_append, List.length_singleton]; omega) (by rw [List.length_append, List.length_singleton]; omega) (by omega) (by omega)
        refine ⟨r, Evn.step ?_, r1, by omega, by omega⟩
        simp only [spec_l1Cur_cave.j2, Bool.false_eq_true, if_false, wrap_pred (show D < 4611686018427387904 by omega)]
        refine Evn.bind he (Evn.bind hf ?_)
        simp only [hg, hh, Option.bind_some, if_pos hq]
        exact hr
    by_cases c : u.1 = v.1
    · obtain ⟨r, hr, r1⟩ := tail true u.1 v.1 a.1 b.1
      refine ⟨r, Evn.step ?_, r1⟩
      simp only [spec_l1Cur_cave.l1, if_pos hp, hu, hv, Option.bind_some, if_pos v0, if_pos v4, if_pos u0, if_pos u4, hd]
      refine Evn.bind ha (Evn.bind hb ?_)
      simp only [if_pos c]
      exact hr
    · obtain ⟨r, hr, r1⟩ := tail (!decide (4 ≤ wrap64 (b.1 + 3) ∧ wrap64 (b.1 + 3) ≤ 500)) u.1 v.1 a.1 b.1
      refine ⟨r, Evn.step ?_, r1⟩
      simp only [spec_l1Cur_cave.l1, if_pos hp, hu, hv, Option.bind_some, if_pos v0, if_pos v4, if_pos u0, if_pos u4, hd]
      refine Evn.bind ha (Evn.bind hb ?_)
      simp only [if_neg c, sp_l1In, Option.bind_some]
      exact hr
theorem dw_cave_l0 {l : List Int} (hl : Byts l) (n : Int) (n2 : 2 ≤ n) (n6 : n ≤ 6) : ∀ (D : Nat) (zs : List S70) (ps : List S103) (x p s : Int), x + (D : Int) = n → (ps.length : Int) = x → (zs.length : Int) + 1 = x → 1 ≤ x → 0 ≤ p → p ≤ 700000000 - 20 * (D : Int) → ∃ r, Evn (fun k => spec_l1Cur_cave.l0 k zs n ps x l p s) r ∧ r.1.length ≤ 13 ∧ p ≤ r.2.1 ∧ r.2.1 ≤ p + 20 * (D : Int) + 100 := by
  intro D
  induction D with
  | zero =>
    intro zs ps x p s hx hps hzs h1 h0 hp
    obtain ⟨u, hu, u0, u1, u2, u3⟩ := dw_pick hl h0 (by omega) s 4
    obtain ⟨E, hE⟩ : ∃ E : Nat, u.1 = E := ⟨u.1.toNat, by omega⟩
    obtain ⟨r, hr, r1, r2, r3⟩ := dw_cave_l1 hl n n2 n6 ps (by omega) E zs u.2.1 u.2.2 (by omega) (by omega) (by omega) (by omega)
    refine ⟨r, Evn.step ?_, r1, by omega, by omega⟩
    simp only [spec_l1Cur_cave.l0, if_neg (show ¬ x < n by omega), hu, Option.bind_some, hE]
    exact hr
  | succ D ih =>
    intro zs ps x p s hx hps hzs h1 h0 hp
    obtain ⟨u, hu, u0, u1, u2, u3⟩ := dw_pick hl h0 (by omega) s x
    obtain ⟨a, ha, _, a2, a3⟩ := dw_among hl (p := u.2.1) (by omega) (by omega) u.2.2 [10, 50, 100, 120, 250] (by simp)
    obtain ⟨b, hb, _, b2, b3⟩ := dw_among hl (p := a.2.1) (by omega) (by omega) a.2.2 [0, 45, 90, 135, 180, 270, 300] (by simp)
    obtain ⟨c, hc, _, c2, c3⟩ := dw_among hl (p := b.2.1) (by omega) (by omega) b.2.2 [0, 0, (-10), (-30), 20, (-90)] (by simp)
    obtain ⟨d, hd⟩ := ok_shift u.1 x a.1 b.1 c.1
    obtain ⟨e, he⟩ := ok_plus (rd_T103 ps u.1).f0 (rd_T103 ps u.1).f1 (rd_T103 ps u.1).f2 d.1 d.2.1 d.2.2 1
    obtain ⟨o, ho, o2, o3⟩ := dw_one hl (p := c.2.1) (by omega) (by omega) c.2.2 4
    obtain ⟨v, hv⟩ : ∃ v, spec_l4Reverse.f u.1 x a.1 b.1 c.1 = some v := ⟨_, rfl⟩
    have u4 : u.1 < (ps.length : Int) := by omega
    have q1 : ps.length < 5864062014805 := by omega
    have q2 : zs.length < 3518437208883 := by omega
    have hxn : x < n := by omega
    have hpl : ((ps ++ [(⟨e.1, e.2.1, e.2.2⟩ : S103)]).length : Int) = x + 1 := by rw [List.length_append, List.length_singleton]; omega
    have hzl : ∀ y : S70, ((zs ++ [y]).length : Int) + 1 = x + 1 := by intro y; rw [List.length_append, List.length_singleton]; omega
    have hw : wrap64 (x + 1) = x + 1 := wrap_id (by omega) (by omega)
    by_cases co : o.1 = true
    · obtain ⟨r, hr, r1, r2, r3⟩ := ih (zs ++ [⟨v.1, v.2.1, v.2.2.1, v.2.2.2.1, v.2.2.2.2⟩]) (ps ++ [⟨e.1, e.2.1, e.2.2⟩]) (x + 1) o.2.1 o.2.2 (by clear hw; omega) hpl (hzl _) (by clear hw; omega) (by clear hw; omega) (by clear hw; omega)
      refine ⟨r, Evn.step ?_, r1, by clear hw; omega, by clear hw; omega⟩
      simp only [spec_l1Cur_cave.l0, if_pos hxn, hu, ha, hb, hc, Option.bind_some, if_pos u0, if_pos u4, hd, he, if_pos q1, ho, if_pos co, hv, if_pos q2, hw]
      exact hr
    · obtain ⟨r, hr, r1, r2, r3⟩ := ih (zs ++ [⟨u.1, x, a.1, b.1, c.1⟩]) (ps ++ [⟨e.1, e.2.1, e.2.2⟩]) (x + 1) o.2.1 o.2.2 (by clear hw; omega) hpl (hzl _) (by clear hw; omega) (by clear hw; omega) (by clear hw; omega)
      refine ⟨r, Evn.step ?_, r1, by clear hw; omega, by clear hw; omega⟩
      simp only [spec_l1Cur_cave.l0, if_pos hxn, hu, ha, hb, hc, Option.bind_some, if_pos u0, if_pos u4, hd, he, if_pos q1, ho, if_neg co, if_pos q2, hw]
      exact hr
theorem dw_cave {l : List Int} {p : Int} (hl : Byts l) (h0 : 0 ≤ p) (h1 : p ≤ 600000000) (s : Int) : ∃ r, Evn (fun k => spec_l1Cur_cave.f k l p s) r ∧ r.1.length ≤ 13 ∧ p ≤ r.2.1 ∧ r.2.1 ≤ p + 300 := by
  unfold spec_l1Cur_cave.f
  obtain ⟨a, ha, a0, a1, a2, a3⟩ := dw_pick hl h0 (by omega) s 5
  have hw : wrap64 (2 + a.1) = 2 + a.1 := wrap_id (by omega) (by omega)
  simp only [ha, Option.bind_some, hw]
  clear hw
  obtain ⟨r, hr, r1, r2, r3⟩ := dw_cave_l0 hl (2 + a.1) (by omega) (by omega) (1 + a.1).toNat [] [⟨0, 0, 0⟩] 1 a.2.1 a.2.2 (by omega) rfl rfl (by omega) (by omega) (by omega)
  exact ⟨r, hr, r1, by omega, by omega⟩

theorem dw_twoClubs_l1 {l : List Int} (hl : Byts l) (xs : List S70) : ∀ (D : Nat) (zs : List S70) (p s : Int), zs.length + D ≤ 100 → 0 ≤ p → p ≤ 800000000 - 20 * (D : Int) → ∃ r, Evn (fun k => spec_l1Cur_twoClubs.l1 k xs zs (D : Int) l p s) r ∧ r.1 = xs ∧ r.2.1.length ≤ 100 ∧ p ≤ r.2.2.1 ∧ r.2.2.1 ≤ p + 20 * (D : Int) := by
  intro D
  induction D with
  | zero =>
    intro zs p s hz h0 h1
    have hn : ¬ ((0 : Nat) : Int) > 0 := by decide
    refine ⟨(xs, zs, p, s), Evn.step ?_, rfl, by dsimp only; omega, by dsimp only; omega, by dsimp only; omega⟩
    simp only [spec_l1Cur_twoClubs.l1, if_neg hn]
    exact Evn.done _
  | succ D ih =>
    intro zs p s hz h0 h1
    have hp : ((D + 1 : Nat) : Int) > 0 := by omega
    obtain ⟨v, hv, v1, v2⟩ := dw_leg hl (p := p) (by omega) (by omega) s
    have hq : zs.length < 3518437208883 := by omega
    obtain ⟨r, hr, r1, r2, r3, r4⟩ := ih (zs ++ [⟨v.1, v.2.1, v.2.2.1, v.2.2.2.1, v.2.2.2.2.1⟩]) v.2.2.2.2.2.1 v.2.2.2.2.2.2 (by rw [List.length_append, List.length_singleton]; omega) (by omega) (by omega)
    refine ⟨r, Evn.step ?_, r1, r2, by omega, by omega⟩
    simp only [spec_l1Cur_twoClubs.l1, if_pos hp, wrap_pred (show D < 4611686018427387904 by omega)]
    refine Evn.bind hv ?_
    simp only [if_pos hq]
    exact hr
theorem dw_twoClubs_l0 {l : List Int} (hl : Byts l) (xs : List S70) (hx : xs.length ≤ 50) : ∀ (D i : Nat) (zs : List S70) (p s : Int), i + D = xs.length → zs.length ≤ i → 0 ≤ p → p ≤ 700000000 - 20 * (D : Int) → ∃ r, Evn (fun k => spec_l1Cur_twoClubs.l0 k xs zs (i : Int) l p s) r ∧ r.1 = xs ∧ r.2.1.length ≤ 100 ∧ p ≤ r.2.2.1 ∧ r.2.2.1 ≤ p + 20 * (D : Int) + 100 := by
  intro D
  induction D with
  | zero =>
    intro i zs p s hi hz h0 h1
    have hn : ¬ (i : Int) < (xs.length : Int) := by omega
    obtain ⟨u, hu, u0, u1, u2, u3⟩ := dw_pick hl h0 (by omega) s 3
    obtain ⟨E, hE⟩ : ∃ E : Nat, u.1 = E := ⟨u.1.toNat, by omega⟩
    obtain ⟨r, hr, r1, r2, r3, r4⟩ := dw_twoClubs_l1 hl xs E zs u.2.1 u.2.2 (by omega) (by omega) (by omega)
    refine ⟨r, Evn.step ?_, r1, r2, by omega, by omega⟩
    simp only [spec_l1Cur_twoClubs.l0, if_neg hn, hu, Option.bind_some, hE]
    exact hr
  | succ D ih =>
    intro i zs p s hi hz h0 h1
    have hn : (i : Int) < (xs.length : Int) := by omega
    have hi0 : 0 ≤ (i : Int) := by omega
    have hq : zs.length < 3518437208883 := by omega
    obtain ⟨u, hu, u0, u1, u2, u3⟩ := dw_pick hl h0 (by omega) s 5
    have push : ∀ (y : S70) (p' s' : Int), u.2.1 ≤ p' → p' ≤ u.2.1 + 2 → ∃ r, Evn (fun k => spec_l1Cur_twoClubs.l0 k xs (zs ++ [y]) (wrap64 ((i : Int) + 1)) l p' s') r ∧ r.1 = xs ∧ r.2.1.length ≤ 100 ∧ p ≤ r.2.2.1 ∧ r.2.2.1 ≤ p + 20 * ((D + 1 : Nat) : Int) + 100 := by
      intro y p' s' k1 k2
      rw [wrap_succ (show i < 4611686018427387904 by omega)]
      obtain ⟨r, hr, r1, r2, r3, r4⟩ := ih (i + 1) (zs ++ [y]) p' s' (by omega) (by rw [List.length_append, List.length_singleton]; omega) (by omega) (by omega)
      exact ⟨r, hr, r1, r2, by omega, by omega⟩
    have tail : ∀ q : Bool, ∃ r, Evn (fun k => spec_l1Cur_twoClubs.j1 k xs zs (i : Int) u.1 q l u.2.1 u.2.2) r ∧ r.1 = xs ∧ r.2.1.length ≤ 100 ∧ p ≤ r.2.2.1 ∧ r.2.2.1 ≤ p + 20 * ((D + 1 : Nat) : Int) + 100 := by
      intro q
      cases q with
      | true =>
        obtain ⟨r, hr, r1⟩ := push ⟨(rd_T70 xs (i : Int)).f0, (rd_T70 xs (i : Int)).f1, (rd_T70 xs (i : Int)).f2, (rd_T70 xs (i : Int)).f3, (rd_T70 xs (i : Int)).f4⟩ u.2.1 u.2.2 (by omega) (by omega)
        refine ⟨r, Evn.step ?_, r1⟩
        simp only [spec_l1Cur_twoClubs.j1, if_true, if_pos hi0, if_pos hn, if_pos hq]
        exact hr
      | false =>
        by_cases c2 : u.1 = 2
        · obtain ⟨v, hv⟩ : ∃ v, spec_l4Reverse.f (rd_T70 xs (i : Int)).f0 (rd_T70 xs (i : Int)).f1 (rd_T70 xs (i : Int)).f2 (rd_T70 xs (i : Int)).f3 (rd_T70 xs (i : Int)).f4 = some v := ⟨_, rfl⟩
          obtain ⟨r, hr, r1⟩ := push ⟨v.1, v.2.1, v.2.2.1, v.2.2.2.1, v.2.2.2.2⟩ u.2.1 u.2.2 (by omega) (by omega)
          refine ⟨r, Evn.step ?_, r1⟩
          simp only [spec_l1Cur_twoClubs.j1, Bool.false_eq_true, if_false, if_pos c2, if_pos hi0, if_pos hn, hv, Option.bind_some, if_pos hq]
          exact hr
        by_cases c3 : u.1 = 3
        · obtain ⟨v, hv, v0, v1, v2, v3⟩ := dw_pick hl (p := u.2.1) (by omega) (by omega) u.2.2 4
          obtain ⟨r, hr, r1⟩ := push ⟨(rd_T70 xs (i : Int)).f0, (rd_T70 xs (i : Int)).f1, wrap64 ((rd_T70 xs (i : Int)).f2 + v.1), (rd_T70 xs (i : Int)).f3, (rd_T70 xs (i : Int)).f4⟩ v.2.1 v.2.2 (by omega) (by omega)
          refine ⟨r, Evn.step ?_, r1⟩
          simp only [spec_l1Cur_twoClubs.j1, Bool.false_eq_true, if_false, if_neg c2, if_pos c3, if_pos hi0, if_pos hn, hv, Option.bind_some, if_pos hq]
          exact hr
        · obtain ⟨r, hr, r1, r2, r3, r4⟩ := ih (i + 1) zs u.2.1 u.2.2 (by omega) (by omega) (by omega) (by omega)
          refine ⟨r, Evn.step ?_, r1, r2, by omega, by omega⟩
          simp only [spec_l1Cur_twoClubs.j1, Bool.false_eq_true, if_false, if_neg c2, if_neg c3, wrap_succ (show i < 4611686018427387904 by omega)]
          exact hr
    by_cases c0 : u.1 = 0
    · obtain ⟨r, hr, r1⟩ := tail (u.1 == 0)
      refine ⟨r, Evn.step ?_, r1⟩
      simp only [spec_l1Cur_twoClubs.l0, if_pos hn, hu, Option.bind_some, if_pos c0]
      exact hr
    · obtain ⟨r, hr, r1⟩ := tail (u.1 == 1)
      refine ⟨r, Evn.step ?_, r1⟩
      simp only [spec_l1Cur_twoClubs.l0, if_pos hn, hu, Option.bind_some, if_neg c0]
      exact hr
theorem dw_twoClubs {l : List Int} {p : Int} (hl : Byts l) (h0 : 0 ≤ p) (h1 : p ≤ 500000000) (s : Int) : ∃ r, Evn (fun k => spec_l1Cur_twoClubs.f k l p s) r ∧ r.1.length ≤ 13 ∧ r.2.1.length ≤ 100 ∧ p ≤ r.2.2.1 ∧ r.2.2.1 ≤ p + 1000 := by
  unfold spec_l1Cur_twoClubs.f
  obtain ⟨a, ha, a1, a2, a3⟩ := dw_cave hl h0 (by omega) s
  obtain ⟨r, hr, r1, r2, r3, r4⟩ := dw_twoClubs_l0 hl a.1 (by omega) a.1.length 0 [] a.2.1 a.2.2 (by omega) (by simp) (by omega) (by omega)
  exact ⟨r, Evn.bind ha hr, by rw [r1]; exact a1, r2, by omega, by omega⟩

theorem dw_DrawSharedLegs {l : List Int} (hl : Byts l) : ∃ r, Evn (fun k => spec_DrawSharedLegs.f k l) r ∧ r.1.length ≤ 13 ∧ r.2.length ≤ 100 := by
  unfold spec_DrawSharedLegs.f
  obtain ⟨a, ha, a1, a2, a3, a4⟩ := dw_twoClubs hl (p := 0) (by decide) (by decide) 0
  exact ⟨(a.1, a.2.1), Evn.bind ha (Evn.done _), a1, a2⟩

theorem dw_DrawMergeLegs {l : List Int} (hl : Byts l) : ∃ r, Evn (fun k => spec_DrawMergeLegs.f k l) r ∧ r.1.length ≤ 13 ∧ r.2.length ≤ 100 := by
  unfold spec_DrawMergeLegs.f
  obtain ⟨a, ha, a1, a2⟩ := dw_DrawSharedLegs hl
  exact ⟨(a.1, a.2), Evn.bind ha (Evn.done _), a1, a2⟩

theorem dw_DrawConflictLegs {l : List Int} (hl : Byts l) : ∃ r, Evn (fun k => spec_DrawConflictLegs.f k l) r ∧ r.1.length ≤ 13 ∧ r.2.1.length ≤ 100 ∧ (-1 ≤ r.2.2.1 ∧ r.2.2.1 ≤ 5) ∧ (-1 ≤ r.2.2.2 ∧ r.2.2.2 ≤ 5) := by
  unfold spec_DrawConflictLegs.f
  obtain ⟨a, ha, a1, a2, a3, a4⟩ := dw_twoClubs hl (p := 0) (by decide) (by decide) 0
  obtain ⟨b, hb, bm, b2, b3⟩ := dw_among hl (p := a.2.2.1) (by omega) (by omega) a.2.2.2 [0, 1, 5, (-1)] (by simp)
  obtain ⟨c, hc, cm, c2, c3⟩ := dw_among hl (p := b.2.1) (by omega) (by omega) b.2.2 [0, 1, 2, 5, (-1)] (by simp)
  refine ⟨(a.1, a.2.1, b.1, c.1), Evn.bind ha (Evn.of fun _ => ?_), a1, a2, ?_, ?_⟩
  · simp only [hb, hc, Option.bind_some]
  · simp only [List.mem_cons, List.not_mem_nil, or_false] at bm
    dsimp only
    omega
  · simp only [List.mem_cons, List.not_mem_nil, or_false] at cm
    dsimp only
    omega

theorem im_within (x y z : Int) : impl_within.f x y z = some (decide (y ≤ x ∧ x ≤ z)) := by
  unfold impl_within.f
  by_cases h : x ≥ y <;> simp [h] <;> omega

theorem im_isStation (x : Int) : impl_isStation.f x = some (decide (0 ≤ x ∧ x ≤ 7)) := by
  simp only [impl_isStation.f, im_within, Option.bind_some]

theorem im_IsLeg (x : S70) : impl_IsLeg.f x.f0 x.f1 x.f2 x.f3 x.f4 = some (okLeg x) := by
  simp only [impl_IsLeg.f, im_isStation, impl_isBearing.f, im_within, Option.bind_some, ite_and, ite_not, okLeg]

theorem im_areLegs_l0 (xs : List S70) (hx : xs.length ≤ 4194304) : ∀ (d i : Nat), i + d = xs.length → Evn (fun k => impl_areLegs.l0 k xs xs (xs.length : Int) (i : Int)) ((xs.drop i).all okLeg && decide (xs.length ≤ 12)) := by
  intro d
  induction d with
  | zero =>
    intro i h
    refine Evn.step ?_
    have h1 : ¬ (i : Int) < (xs.length : Int) := by omega
    simp only [impl_areLegs.l0, if_neg h1]
    rw [List.drop_eq_nil_of_le (by omega)]
    refine (Evn.done _).eq_ ?_
    simp only [List.all_nil, Bool.true_and, decide_eq_decide]
    omega
  | succ d ih =>
    intro i h
    refine Evn.step ?_
    have h1 : (i : Int) < (xs.length : Int) := by omega
    have h2 : 0 ≤ (i : Int) := by omega
    simp only [impl_areLegs.l0, if_pos h1, if_pos h2, im_IsLeg, Option.bind_some, wrap_succ (show i < 4611686018427387904 by omega), rd_T70, Int.toNat_natCast]
    rw [getD_drop xs i z70 (by omega), List.all_cons]
    exact Evn.ite (fun c => (ih (i + 1) (by omega)).eq_ (by simp only [c, Bool.true_and])) (fun c => (Evn.done _).eq_ (by simp only [Bool.eq_false_iff.mpr c, Bool.false_and]))
theorem im_areLegs (xs : List S70) (hx : xs.length ≤ 4194304) : Evn (fun k => impl_areLegs.f k xs) (goodLegs xs) := by
  have h := im_areLegs_l0 xs hx xs.length 0 (by omega)
  simpa [impl_areLegs.f, goodLegs] using h

theorem im_joins (x y : S70) : impl_joins.f x.f0 x.f1 x.f2 x.f3 x.f4 y.f0 y.f1 y.f2 y.f3 y.f4 = some (shB x y) := by
  unfold impl_joins.f
  exact shared_form x.f0 x.f1 y.f0 y.f1

theorem im_absolute (a : Int) (h : -9223372036854775807 ≤ a) (h' : a ≤ 9223372036854775807) : impl_absolute.f a = some ((a.natAbs : Nat) : Int) := by
  unfold impl_absolute.f
  rw [wrap_id (by omega) (by omega)]
  unfold mx
  congr 1
  omega

theorem im_agree (x y : S70) (g t : Int) : impl_agree.f x.f0 x.f1 x.f2 x.f3 x.f4 y.f0 y.f1 y.f2 y.f3 y.f4 g t = some (agreeB x y g t) := by
  simp only [impl_agree.f, impl_turn.f, impl_absolute.f, impl_Leg_reverse.f, impl_back.f, Option.bind_some]
  unfold agreeB
  split
  · unfold agB turnI absI
    by_cases c1 : mn (mx (wrap64 (x.f3 - y.f3)) (wrap64 (-wrap64 (x.f3 - y.f3)))) (wrap64 (360 - mx (wrap64 (x.f3 - y.f3)) (wrap64 (-wrap64 (x.f3 - y.f3))))) ≤ g
    · rw [if_pos c1, decide_eq_true c1, Bool.true_and]
      split
      · rename_i c2; rw [decide_eq_true c2, Bool.true_and]
      · rename_i c2; rw [decide_eq_false c2, Bool.false_and]
    · rw [if_neg c1, decide_eq_false c1, Bool.false_and]
  · unfold agB turnI absI revL
    dsimp only
    split
    · rename_i c1
      rw [decide_eq_true c1, Bool.true_and]
      split
      · rename_i c2; rw [decide_eq_true c2, Bool.true_and]
      · rename_i c2; rw [decide_eq_false c2, Bool.false_and]
    · rename_i c1
      rw [decide_eq_false c1, Bool.false_and]

theorem im_xDisagree (x y : S70) (g t : Int) : impl_xDisagree.f x.f0 x.f1 x.f2 x.f3 x.f4 y.f0 y.f1 y.f2 y.f3 y.f4 g t = some (!agreeB x y g t) := by
  unfold impl_xDisagree.f
  rw [im_agree]
  rfl

theorem im_sharedLegs_l1 (xs ys : List S70) (hx : xs.length ≤ 4194304) (hy : ys.length ≤ 4194304) (i m : Nat) (R : List S64) (hi : i < xs.length) (x : S70) (hxx : x = xs.getD i z70)
    (hrest : ∀ zs : List S64, zs.length + m ≤ 100000000 → Evn (fun k => impl_sharedLegs.l0 k ys zs xs (xs.length : Int) ((i + 1 : Nat) : Int)) (zs ++ R)) : ∀ (d j : Nat) (zs : List S64), j + d = ys.length → zs.length + d + m ≤ 100000000 → Evn (fun k => impl_sharedLegs.l1 k ys zs (i : Int) xs (xs.length : Int) (i : Int) ys (ys.length : Int) (j : Int) x.f0 x.f1 x.f2 x.f3 x.f4) (zs ++ (prRow xs ys i d j ++ R)) := by
  intro d
  induction d with
  | zero =>
    intro j zs h hz
    refine Evn.step ?_
    have h1 : ¬ (j : Int) < (ys.length : Int) := by omega
    simp only [impl_sharedLegs.l1, if_neg h1, prRow, List.nil_append, wrap_succ (show i < 4611686018427387904 by omega)]
    exact hrest zs (by omega)
  | succ d ih =>
    intro j zs h hz
    have h1 : (j : Int) < (ys.length : Int) := by omega
    have h4 : 0 ≤ (j : Int) := by omega
    have hw := wrap_succ (show j < 4611686018427387904 by omega)
    refine Evn.step ?_
    simp only [impl_sharedLegs.l1, if_pos h1, if_pos h4, hw, rd_T70, Int.toNat_natCast, im_joins, impl_SharedLegs_1.f, Option.bind_some, prRow, if_true]
    clear hw
    rw [hxx] at ih ⊢
    refine Evn.ite (fun c => ?_) (fun c => ?_)
    · rw [if_pos c]
      refine Evn.ite (fun _ => ?_) (fun c2 => absurd (by omega) c2)
      have h5 := ih (j + 1) (zs ++ [(⟨i, j⟩ : S64)]) (by omega) (by rw [List.length_append, List.length_singleton]; omega)
      rw [List.append_assoc] at h5
      exact h5
    · rw [if_neg c]
      exact ih (j + 1) zs (by omega) (by omega)
theorem im_sharedLegs_l0 (xs ys : List S70) (hx : xs.length ≤ 4194304) (hy : ys.length ≤ 4194304) : ∀ (d i : Nat) (zs : List S64), i + d = xs.length → zs.length + d * ys.length ≤ 100000000 → Evn (fun k => impl_sharedLegs.l0 k ys zs xs (xs.length : Int) (i : Int)) (zs ++ prs xs ys d i) := by
  intro d
  induction d with
  | zero =>
    intro i zs h hz
    refine Evn.step ?_
    have h1 : ¬ (i : Int) < (xs.length : Int) := by omega
    simp only [impl_sharedLegs.l0, if_neg h1, prs, List.append_nil]
    exact Evn.done _
  | succ d ih =>
    intro i zs h hz
    have h1 : (i : Int) < (xs.length : Int) := by omega
    have h2 : 0 ≤ (i : Int) := by omega
    rw [Nat.succ_mul] at hz
    refine Evn.step ?_
    simp only [impl_sharedLegs.l0, if_pos h1, if_pos h2, rd_T70, Int.toNat_natCast, prs]
    exact im_sharedLegs_l1 xs ys hx hy i (d * ys.length) (prs xs ys d (i + 1)) (by omega) _ rfl (fun zs' hz' => ih (i + 1) zs' (by omega) hz') ys.length 0 zs (by omega) (by omega)
theorem im_sharedLegs (xs ys : List S70) (a : Int) (hx : xs.length ≤ 4194304) (hy : ys.length ≤ 4194304) (hm : xs.length * ys.length ≤ 100000000) : Evn (fun k => impl_sharedLegs.f k xs ys a) (prs xs ys xs.length 0) := by
  have h := im_sharedLegs_l0 xs ys hx hy xs.length 0 [] (by omega) (by simpa using hm)
  unfold impl_sharedLegs.f
  simpa using h

theorem im_xSharedC_l1 (xs ys : List S70) (g t : Int) (hx : xs.length ≤ 4194304) (hy : ys.length ≤ 4194304) (i m : Nat) (R : List S64) (hi : i < xs.length) (x : S70) (hxx : x = xs.getD i z70)
    (hrest : ∀ zs : List S64, zs.length + m ≤ 100000000 → Evn (fun k => impl_xSharedC.l0 k ys g t zs xs (xs.length : Int) ((i + 1 : Nat) : Int)) (zs ++ R)) : ∀ (d j : Nat) (zs : List S64), j + d = ys.length → zs.length + d + m ≤ 100000000 → Evn (fun k => impl_xSharedC.l1 k ys g t zs (i : Int) xs (xs.length : Int) (i : Int) ys (ys.length : Int) (j : Int) x.f0 x.f1 x.f2 x.f3 x.f4) (zs ++ (cfRow xs ys g t i d j ++ R)) := by
  intro d
  induction d with
  | zero =>
    intro j zs h hz
    refine Evn.step ?_
    have h1 : ¬ (j : Int) < (ys.length : Int) := by omega
    simp only [impl_xSharedC.l1, if_neg h1, cfRow, List.nil_append, wrap_succ (show i < 4611686018427387904 by omega)]
    exact hrest zs (by omega)
  | succ d ih =>
    intro j zs h hz
    have h1 : (j : Int) < (ys.length : Int) := by omega
    have h4 : 0 ≤ (j : Int) := by omega
    have hw := wrap_succ (show j < 4611686018427387904 by omega)
    refine Evn.step ?_
    simp only [impl_xSharedC.l1, if_pos h1, if_pos h4, hw, rd_T70, Int.toNat_natCast, im_joins, im_xDisagree, Option.bind_some, cfRow, if_true]
    clear hw
    rw [hxx] at ih ⊢
    refine Evn.ite (fun c => ?_) (fun c => ?_)
    · rw [if_pos c]
      refine Evn.ite (fun c3 => ?_) (fun c3 => ?_)
      · rw [if_pos c3]
        refine Evn.ite (fun _ => ?_) (fun c2 => absurd (by omega) c2)
        have h5 := ih (j + 1) (zs ++ [(⟨i, j⟩ : S64)]) (by omega) (by rw [List.length_append, List.length_singleton]; omega)
        rw [List.append_assoc] at h5
        exact h5
      · rw [if_neg c3]
        exact ih (j + 1) zs (by omega) (by omega)
    · rw [if_neg c]
      exact ih (j + 1) zs (by omega) (by omega)
theorem im_xSharedC_l0 (xs ys : List S70) (g t : Int) (hx : xs.length ≤ 4194304) (hy : ys.length ≤ 4194304) : ∀ (d i : Nat) (zs : List S64), i + d = xs.length → zs.length + d * ys.length ≤ 100000000 → Evn (fun k => impl_xSharedC.l0 k ys g t zs xs (xs.length : Int) (i : Int)) (zs ++ cfs xs ys g t d i) := by
  intro d
  induction d with
  | zero =>
    intro i zs h hz
    refine Evn.step ?_
    have h1 : ¬ (i : Int) < (xs.length : Int) := by omega
    simp only [impl_xSharedC.l0, if_neg h1, cfs, List.append_nil]
    exact Evn.done _
  | succ d ih =>
    intro i zs h hz
    have h1 : (i : Int) < (xs.length : Int) := by omega
    have h2 : 0 ≤ (i : Int) := by omega
    rw [Nat.succ_mul] at hz
    refine Evn.step ?_
    simp only [impl_xSharedC.l0, if_pos h1, if_pos h2, rd_T70, Int.toNat_natCast, cfs]
    exact im_xSharedC_l1 xs ys g t hx hy i (d * ys.length) (cfs xs ys g t d (i + 1)) (by omega) _ rfl (fun zs' hz' => ih (i + 1) zs' (by omega) hz') ys.length 0 zs (by omega) (by omega)
theorem im_xSharedC (xs ys : List S70) (g t : Int) (hx : xs.length ≤ 4194304) (hy : ys.length ≤ 4194304) (hm : xs.length * ys.length ≤ 100000000) : Evn (fun k => impl_xSharedC.f k xs ys g t) (cfs xs ys g t xs.length 0) := by
  have h := im_xSharedC_l0 xs ys g t hx hy xs.length 0 [] (by omega) (by simpa using hm)
  unfold impl_xSharedC.f
  simpa using h

theorem im_SharedLegs (xs ys : List S70) (hx : xs.length ≤ 4194304) (hy : ys.length ≤ 4194304) : Evn (fun k => impl_SharedLegs.f k xs ys) (shTs xs ys) := by
  unfold impl_SharedLegs.f shTs
  refine Evn.bind (im_areLegs xs hx) ?_
  refine Evn.ite (fun c1 => ?_) (fun c1 => by rw [if_neg (fun h => c1 h.1)]; exact Evn.done _)
  refine Evn.bind (im_areLegs ys hy) ?_
  refine Evn.ite (fun c2 => ?_) (fun c2 => by rw [if_neg (fun h => c2 h.2)]; exact Evn.done _)
  rw [if_pos ⟨c1, c2⟩]
  have h2 := good_mul c1 c2
  refine Evn.bind (im_sharedLegs xs ys _ hx hy (by omega)) ?_
  exact Evn.done _

theorem some_beq_true (b : Bool) : (some b == some true) = b := by cases b <;> rfl
theorem im_xJoined (xs : List S70) (y : S70) : impl_xJoined.f xs y.f0 y.f1 y.f2 y.f3 y.f4 = some (xs.any fun x => shB x y) := by
  simp only [impl_xJoined.f, im_joins, some_beq_true]

theorem im_MergeLegs_l0 (xs ys : List S70) (hx : xs.length ≤ 12) (hy : ys.length ≤ 12) : ∀ (d i : Nat) (zs : List S70), i + d = ys.length → zs.length ≤ 12 + i → Evn (fun k => impl_MergeLegs.l0 k xs zs ys (ys.length : Int) (i : Int)) (if goodLegs (zs ++ mrg xs (ys.drop i)) = true then (zs ++ mrg xs (ys.drop i), true) else ([], false)) := by
  intro d
  induction d with
  | zero =>
    intro i zs h hz
    refine Evn.step ?_
    have h1 : ¬ (i : Int) < (ys.length : Int) := by omega
    simp only [impl_MergeLegs.l0, if_neg h1]
    rw [List.drop_eq_nil_of_le (by omega)]
    have e : zs ++ mrg xs [] = zs := by simp [mrg]
    rw [e]
    refine Evn.bind (im_areLegs zs (by omega)) ?_
    exact Evn.ite (fun c => by rw [if_pos c]; exact Evn.done _) (fun c => by rw [if_neg c]; exact Evn.done _)
  | succ d ih =>
    intro i zs h hz
    have h1 : (i : Int) < (ys.length : Int) := by omega
    have h2 : 0 ≤ (i : Int) := by omega
    have hw := wrap_succ (show i < 4611686018427387904 by omega)
    refine Evn.step ?_
    simp only [impl_MergeLegs.l0, if_pos h1, if_pos h2, hw, rd_T70, Int.toNat_natCast, im_xJoined, Option.bind_some]
    clear hw
    rw [getD_drop ys i z70 (by omega)]
    refine Evn.ite (fun c => ?_) (fun c => ?_)
    · have e : mrg xs (ys.getD i z70 :: ys.drop (i + 1)) = mrg xs (ys.drop (i + 1)) := by
        unfold mrg
        rw [List.filter_cons, c]
        rfl
      rw [e]
      exact ih (i + 1) zs (by omega) (by omega)
    · have e : mrg xs (ys.getD i z70 :: ys.drop (i + 1)) = ys.getD i z70 :: mrg xs (ys.drop (i + 1)) := by
        unfold mrg
        rw [List.filter_cons, Bool.eq_false_iff.mpr c]
        rfl
      rw [e]
      refine Evn.ite (fun _ => ?_) (fun c2 => absurd (by omega) c2)
      have h5 := ih (i + 1) (zs ++ [ys.getD i z70]) (by omega) (by rw [List.length_append, List.length_singleton]; omega)
      rw [List.append_assoc] at h5
      exact h5
theorem im_MergeLegs (xs ys : List S70) (hx : xs.length ≤ 4194304) (hy : ys.length ≤ 4194304) : Evn (fun k => impl_MergeLegs.f k xs ys) (mrgs xs ys) := by
  unfold impl_MergeLegs.f mrgs
  refine Evn.bind (im_areLegs xs hx) ?_
  refine Evn.ite (fun c => ?_) (fun c => ?_)
  · refine Evn.bind (im_areLegs ys hy) ?_
    refine Evn.step ?_
    simp only [impl_MergeLegs.j0]
    refine Evn.ite (fun c1 => ?_) (fun c1 => ?_)
    · rw [if_neg (by intro h; have h2 := h.2; rw [h2] at c1; cases c1)]
      exact Evn.done _
    · have c2 : goodLegs ys = true := by simpa using c1
      have hx := goodLegs_len c
      have hy := goodLegs_len c2
      rw [if_pos ⟨c, c2⟩]
      simp only [impl_Leg_67.f, if_pos (show xs.length * 40 ≤ 140737488351232 by omega), Option.bind_some]
      have h := im_MergeLegs_l0 xs ys hx hy ys.length 0 xs (by omega) (by omega)
      rw [List.drop_zero] at h
      exact h
  · refine Evn.step ?_
    simp only [impl_MergeLegs.j0, if_true]
    rw [if_neg (fun h => c h.1)]
    exact Evn.done _

theorem im_ConflictLegs (xs ys : List S70) (g t : Int) (hx : xs.length ≤ 4194304) (hy : ys.length ≤ 4194304) : Evn (fun k => impl_ConflictLegs.f k xs ys g t) (cfTs xs ys g t) := by
  unfold impl_ConflictLegs.f cfTs
  refine Evn.bind (im_areLegs xs hx) ?_
  refine Evn.ite (fun c1 => ?_) (fun c1 => by rw [if_neg (fun h => c1 h.1)]; exact Evn.done _)
  refine Evn.bind (im_areLegs ys hy) ?_
  refine Evn.ite (fun c2 => ?_) (fun c2 => by rw [if_neg (fun h => c2 h.2.1)]; exact Evn.done _)
  refine Evn.ite (fun c3 => by rw [if_neg (fun h => by omega)]; exact Evn.done _) (fun c3 => ?_)
  refine Evn.ite (fun c4 => by rw [if_neg (fun h => by omega)]; exact Evn.done _) (fun c4 => ?_)
  rw [if_pos ⟨c1, c2, by omega, by omega⟩]
  have h2 : xs.length * ys.length ≤ 144 := Nat.mul_le_mul (goodLegs_len c1) (goodLegs_len c2)
  refine Evn.bind (im_xSharedC xs ys g t hx hy (by omega)) ?_
  exact Evn.done _
theorem cfTs_len (xs ys : List S70) (g t : Int) : (cfTs xs ys g t).1.length ≤ 4194304 := by
  unfold cfTs
  split
  · rename_i h
    have h1 := cfs_len xs ys g t xs.length 0
    have h2 : xs.length * ys.length ≤ 144 := Nat.mul_le_mul (goodLegs_len h.1) (goodLegs_len h.2.1)
    dsimp only
    omega
  · simp

theorem ev_vLegs_l0 (xs : List S70) : ∀ (D i : Nat), i + D = xs.length → xs.length ≤ 4194304 → Evn (fun k => laws_vLegs.l0 k xs xs (i : Int)) true := by
  intro D
  induction D with
  | zero =>
    intro i h hx
    refine Evn.step ?_
    have h1 : ¬ (i : Int) < (xs.length : Int) := by omega
    simp only [laws_vLegs.l0, if_neg h1]
    exact Evn.done _
  | succ D ih =>
    intro i h hx
    refine Evn.step ?_
    have h1 : (i : Int) < (xs.length : Int) := by omega
    have h2 : 0 ≤ (i : Int) := by omega
    simp only [laws_vLegs.l0, if_pos h1, if_pos h2, beq_self_eq_true, Bool.not_true, Bool.or_self, Bool.false_eq_true, if_false, wrap_succ (show i < 4611686018427387904 by omega)]
    exact ih (i + 1) (by omega) hx
theorem ev_vLegs (xs : List S70) (hx : xs.length ≤ 4194304) : Evn (fun k => laws_vLegs.f k xs xs) true := by
  unfold laws_vLegs.f
  simp only [if_true]
  exact ev_vLegs_l0 xs xs.length 0 (by omega) hx

theorem ev_vPairs_l0 (xs : List S64) : ∀ (D i : Nat), i + D = xs.length → xs.length ≤ 4194304 → Evn (fun k => laws_vPairs.l0 k xs xs (i : Int)) true := by
  intro D
  induction D with
  | zero =>
    intro i h hx
    refine Evn.step ?_
    have h1 : ¬ (i : Int) < (xs.length : Int) := by omega
    simp only [laws_vPairs.l0, if_neg h1]
    exact Evn.done _
  | succ D ih =>
    intro i h hx
    refine Evn.step ?_
    have h1 : (i : Int) < (xs.length : Int) := by omega
    have h2 : 0 ≤ (i : Int) := by omega
    simp only [laws_vPairs.l0, if_pos h1, if_pos h2, beq_self_eq_true, Bool.not_true, Bool.or_self, Bool.false_eq_true, if_false, wrap_succ (show i < 4611686018427387904 by omega)]
    exact ih (i + 1) (by omega) hx
theorem ev_vPairs (xs : List S64) (hx : xs.length ≤ 4194304) : Evn (fun k => laws_vPairs.f k xs xs) true := by
  unfold laws_vPairs.f
  simp only [if_true]
  exact ev_vPairs_l0 xs xs.length 0 (by omega) hx

theorem ev_vHas_l0 (xs : List Int) (x : Int) : ∀ (D i : Nat), i + D = xs.length → xs.length ≤ 4611686018427387904 → Evn (fun k => laws_vHas.l0 k xs x (i : Int)) ((xs.drop i).contains x) := by
  intro D
  induction D with
  | zero =>
    intro i h hx
    refine Evn.step ?_
    have h1 : ¬ (i : Int) < (xs.length : Int) := by omega
    simp only [laws_vHas.l0, if_neg h1]
    rw [List.drop_eq_nil_of_le (by omega)]
    exact Evn.done _
  | succ D ih =>
    intro i h hx
    refine Evn.step ?_
    have h1 : (i : Int) < (xs.length : Int) := by omega
    have h2 : 0 ≤ (i : Int) := by omega
    simp only [laws_vHas.l0, if_pos h1, if_pos h2, wrap_succ (show i < 4611686018427387904 by omega)]
    have e : rd xs (i : Int) = xs.getD i 0 := rfl
    rw [getD_drop xs i 0 (by omega), e, List.contains_cons]
    refine Evn.ite (fun c => ?_) (fun c => ?_)
    · rw [c, beq_self_eq_true, Bool.true_or]; exact Evn.done _
    · rw [beq_eq_false_iff_ne.mpr (Ne.symm c), Bool.false_or]; exact ih (i + 1) (by omega) hx
theorem ev_vHas (xs : List Int) (x : Int) (hx : xs.length ≤ 4611686018427387904) : Evn (fun k => laws_vHas.f k xs x) (xs.contains x) := by
  have h := ev_vHas_l0 xs x xs.length 0 (by omega) hx
  rw [List.drop_zero] at h
  exact h

theorem im_DoAgree (x y : S70) (g t : Int) (hx : okLeg x = true) (hy : okLeg y = true) (hg : 0 ≤ g) (ht : 0 ≤ t) :
    impl_DoAgree.f x.f0 x.f1 x.f2 x.f3 x.f4 y.f0 y.f1 y.f2 y.f3 y.f4 g t = some (if shB x y = true then (agreeB x y g t, true) else (false, false)) := by
  simp only [impl_DoAgree.f, im_IsLeg, hx, hy, Option.bind_some, if_true, if_neg (show ¬ g < 0 by omega), if_neg (show ¬ t < 0 by omega), im_joins, im_agree]
  split <;> rfl

/-! Merged legs, and shared ones. -/
theorem shB_self (y : S70) : shB y y = true := by
  unfold shB
  rw [decide_eq_true rfl, decide_eq_true rfl]
  rfl
theorem mrg_again (xs ys : List S70) : mrg (xs ++ mrg xs ys) ys = [] := by
  unfold mrg
  rw [List.filter_eq_nil_iff]
  intro y hy
  rw [Bool.not_eq_true, Bool.not_eq_false', List.any_append]
  cases c : xs.any fun x => shB x y with
  | true => rfl
  | false =>
    rw [Bool.false_or, List.any_eq_true]
    exact ⟨y, List.mem_filter.2 ⟨hy, by rw [c]; rfl⟩, shB_self y⟩
theorem merge_again {xs ys : List S70} (h : (mrgs xs ys).2 = true) : mrgs (mrgs xs ys).1 ys = ((mrgs xs ys).1, true) ∧ (mrgs xs ys).1 = xs ++ mrg xs ys ∧ goodLegs xs = true ∧ goodLegs ys = true ∧ goodLegs (mrgs xs ys).1 = true := by
  unfold mrgs at h
  by_cases c : goodLegs xs = true ∧ goodLegs ys = true
  · rw [if_pos c] at h
    by_cases g : goodLegs (xs ++ mrg xs ys) = true
    · have e : mrgs xs ys = (xs ++ mrg xs ys, true) := by unfold mrgs; rw [if_pos c, if_pos g]
      rw [e]
      refine ⟨?_, rfl, c.1, c.2, g⟩
      unfold mrgs
      rw [if_pos ⟨g, c.2⟩, mrg_again, List.append_nil, if_pos g]
    · rw [if_neg g] at h; cases h
  · rw [if_neg c] at h; cases h
theorem sub_len {α : Type} [DecidableEq α] : ∀ (l m : List α), l.Nodup → (∀ x ∈ l, x ∈ m) → l.length ≤ m.length := by
  intro l
  induction l with
  | nil => intro m _ _; exact Nat.zero_le _
  | cons x l ih =>
    intro m hn hm
    have hx := hm x (List.mem_cons_self ..)
    obtain ⟨n1, n2⟩ := List.nodup_cons.1 hn
    have h1 := ih (m.erase x) n2 (fun y hy => (List.mem_erase_of_ne (fun e => n1 (by rw [← e]; exact hy))).2 (hm y (List.mem_cons_of_mem _ hy)))
    rw [List.length_erase_of_mem hx] at h1
    have h2 := List.length_pos_of_mem hx
    rw [List.length_cons]
    omega
/-! The second ones of pairs, each once. -/
def dd : List S64 → List Int → List Int
  | [], sh => sh
  | p :: ps, sh => if sh.contains p.f1 = true then dd ps sh else dd ps (sh ++ [p.f1])
theorem dd_nodup : ∀ (ps : List S64) (sh : List Int), sh.Nodup → (dd ps sh).Nodup := by
  intro ps
  induction ps with
  | nil => intro sh h; exact h
  | cons p ps ih =>
    intro sh h
    rw [dd]
    split
    · exact ih sh h
    · rename_i c
      refine ih _ (List.nodup_append.2 ⟨h, by simp, ?_⟩)
      intro a ha b hb e
      rw [List.mem_singleton.1 hb] at e
      subst e
      exact c (List.contains_iff_mem.2 ha)
theorem dd_mem : ∀ (ps : List S64) (sh : List Int) (k : Int), k ∈ dd ps sh ↔ k ∈ sh ∨ ∃ p ∈ ps, p.f1 = k := by
  intro ps
  induction ps with
  | nil => intro sh k; simp [dd]
  | cons p ps ih =>
    intro sh k
    rw [dd]
    split
    · rename_i c
      rw [ih]
      constructor
      · rintro (h | ⟨q, hq, e⟩)
        · exact Or.inl h
        · exact Or.inr ⟨q, List.mem_cons_of_mem _ hq, e⟩
      · rintro (h | ⟨q, hq, e⟩)
        · exact Or.inl h
        · rcases List.mem_cons.1 hq with rfl | hq
          · exact Or.inl (e ▸ List.contains_iff_mem.1 c)
          · exact Or.inr ⟨q, hq, e⟩
    · rw [ih, List.mem_append, List.mem_singleton]
      constructor
      · rintro ((h | h) | ⟨q, hq, e⟩)
        · exact Or.inl h
        · exact Or.inr ⟨p, List.mem_cons_self .., h.symm⟩
        · exact Or.inr ⟨q, List.mem_cons_of_mem _ hq, e⟩
      · rintro (h | ⟨q, hq, e⟩)
        · exact Or.inl (Or.inl h)
        · rcases List.mem_cons.1 hq with rfl | hq
          · exact Or.inl (Or.inr e.symm)
          · exact Or.inr ⟨q, hq, e⟩
theorem prRow_has (xs ys : List S70) (i : Nat) : ∀ (d j k : Nat), j + d = ys.length → j ≤ k → k < ys.length → shB (xs.getD i z70) (ys.getD k z70) = true → (⟨i, k⟩ : S64) ∈ prRow xs ys i d j := by
  intro d
  induction d with
  | zero => intro j k h h1 h2; omega
  | succ d ih =>
    intro j k h h1 h2 hs
    unfold prRow
    by_cases e : j = k
    · subst e
      rw [if_pos hs]
      exact List.mem_cons_self ..
    · have := ih (j + 1) k (by omega) (by omega) h2 hs
      split
      · exact List.mem_cons_of_mem _ this
      · exact this
theorem prs_has (xs ys : List S70) : ∀ (d i m k : Nat), i + d = xs.length → i ≤ m → m < xs.length → k < ys.length → shB (xs.getD m z70) (ys.getD k z70) = true → (⟨m, k⟩ : S64) ∈ prs xs ys d i := by
  intro d
  induction d with
  | zero => intro i m k h h1 h2; omega
  | succ d ih =>
    intro i m k h h1 h2 h3 hs
    rw [prs, List.mem_append]
    by_cases e : i = m
    · subst e
      exact Or.inl (prRow_has xs ys i ys.length 0 k (by omega) (Nat.zero_le _) h3 hs)
    · exact Or.inr (ih (i + 1) m k (by omega) (by omega) h2 h3 hs)
theorem filter_both {α : Type} (p : α → Bool) (l : List α) : (l.filter p).length + (l.filter fun x => !p x).length = l.length := by
  induction l with
  | nil => rfl
  | cons x l ih =>
    rw [List.filter_cons, List.filter_cons, List.length_cons]
    cases p x with
    | true => simp only [if_true, Bool.not_true, Bool.false_eq_true, if_false, List.length_cons]; omega
    | false => simp only [if_true, Bool.not_false, Bool.false_eq_true, if_false, List.length_cons]; omega
theorem shared_count (xs ys : List S70) : (dd (prs xs ys xs.length 0) []).length + (mrg xs ys).length = ys.length := by
  have hr : ys = (List.range ys.length).map fun k => ys.getD k z70 := by
    apply List.ext_getElem
    · rw [List.length_map, List.length_range]
    · intro i h1 h2
      rw [List.getElem_map, List.getElem_range, List.getD_eq_getElem?_getD, List.getElem?_eq_getElem h1]
      rfl
  have hb := filter_both (fun y => xs.any fun x => shB x y) ys
  have hM : (ys.filter fun y => xs.any fun x => shB x y).length = (((List.range ys.length).filter fun k => xs.any fun x => shB x (ys.getD k z70)).map fun k : Nat => (k : Int)).length := by
    rw [List.length_map]
    have h0 := congrArg (fun l => (List.filter (fun y => xs.any fun x => shB x y) l).length) hr
    refine h0.trans ?_
    show (List.filter _ (List.map _ _)).length = _
    rw [List.filter_map, List.length_map]
    rfl
  have hmem : ∀ k, k ∈ dd (prs xs ys xs.length 0) [] ↔ k ∈ ((List.range ys.length).filter fun k => xs.any fun x => shB x (ys.getD k z70)).map fun k : Nat => (k : Int) := by
    intro k
    rw [dd_mem, List.mem_map]
    constructor
    · rintro (h | ⟨p, hp, e⟩)
      · exact absurd h (by simp)
      · obtain ⟨⟨a1, a2⟩, ⟨b1, b2⟩, hs⟩ := prs_ok xs ys xs.length 0 (by omega) p hp
        refine ⟨p.f1.toNat, List.mem_filter.2 ⟨List.mem_range.2 (by omega), ?_⟩, by omega⟩
        rw [List.any_eq_true]
        refine ⟨xs.getD p.f0.toNat z70, ?_, hs⟩
        rw [List.getD_eq_getElem?_getD, List.getElem?_eq_getElem (by omega), Option.getD_some]
        exact List.getElem_mem _
    · rintro ⟨j, hj, rfl⟩
      obtain ⟨h1, h2⟩ := List.mem_filter.1 hj
      obtain ⟨x, hx, hs⟩ := List.any_eq_true.1 h2
      obtain ⟨m, hm, rfl⟩ := List.getElem_of_mem hx
      have e : xs.getD m z70 = xs[m] := by rw [List.getD_eq_getElem?_getD, List.getElem?_eq_getElem hm]; rfl
      rw [← e] at hs
      exact Or.inr ⟨⟨m, j⟩, prs_has xs ys xs.length 0 m j (by omega) (Nat.zero_le _) hm (List.mem_range.1 h1) hs, rfl⟩
  have hn2 : (((List.range ys.length).filter fun k => xs.any fun x => shB x (ys.getD k z70)).map fun k : Nat => (k : Int)).Nodup := by
    have h1 : ((List.range ys.length).filter fun k => xs.any fun x => shB x (ys.getD k z70)).Nodup := List.Nodup.sublist List.filter_sublist List.nodup_range
    rw [List.Nodup, List.pairwise_map]
    exact List.Pairwise.imp (fun h e => h (by omega)) h1
  have l1 := sub_len _ _ (dd_nodup (prs xs ys xs.length 0) [] List.nodup_nil) (fun k hk => (hmem k).1 hk)
  have l2 := sub_len _ _ hn2 (fun k hk => (hmem k).2 hk)
  unfold mrg
  omega
/-! Conflicts are shared legs, and fewer where more is allowed. -/
theorem filter_le {α : Type} (p q : α → Bool) (l : List α) (h : ∀ x, p x = true → q x = true) : (l.filter p).length ≤ (l.filter q).length := by
  induction l with
  | nil => exact Nat.le_refl _
  | cons x l ih =>
    rw [List.filter_cons, List.filter_cons]
    cases hp : p x with
    | true => rw [if_pos rfl, if_pos (h x hp), List.length_cons, List.length_cons]; omega
    | false =>
      rw [if_neg (by decide)]
      split
      · rw [List.length_cons]; omega
      · exact ih
theorem agreeB_up (x y : S70) (g t : Int) (h : agreeB x y g t = true) : agreeB x y (g + 1) (t + 1) = true := by
  have key : ∀ a b : S70, agB a b g t = true → agB a b (g + 1) (t + 1) = true := by
    intro a b h
    unfold agB at h ⊢
    simp only [Bool.and_eq_true, decide_eq_true_eq] at h ⊢
    exact ⟨by omega, by omega, by omega⟩
  unfold agreeB at h ⊢
  split
  · rename_i c
    rw [if_pos c] at h
    exact key _ _ h
  · rename_i c
    rw [if_neg c] at h
    exact key _ _ h
theorem fewer_len (xs ys : List S70) (g t : Int) : (cfs xs ys (g + 1) (t + 1) xs.length 0).length ≤ (cfs xs ys g t xs.length 0).length := by
  rw [← cfs_eq, ← cfs_eq]
  refine filter_le _ _ _ fun p hp => ?_
  unfold cfP at hp ⊢
  cases c : agreeB (xs.getD p.f0.toNat z70) (ys.getD p.f1.toNat z70) g t with
  | false => rfl
  | true => rw [agreeB_up _ _ _ _ c] at hp; cases hp
theorem cfs_le (xs ys : List S70) (g t : Int) : (cfs xs ys g t xs.length 0).length ≤ (prs xs ys xs.length 0).length := by
  rw [← cfs_eq]
  exact List.length_filter_le _ _
theorem cfs_ok (xs ys : List S70) (g t : Int) : ∀ p ∈ cfs xs ys g t xs.length 0, pairOk xs ys p ∧ agreeB (xs.getD p.f0.toNat z70) (ys.getD p.f1.toNat z70) g t = false := by
  intro p hp
  rw [← cfs_eq] at hp
  obtain ⟨h1, h2⟩ := List.mem_filter.1 hp
  refine ⟨prs_ok xs ys xs.length 0 (by omega) p h1, ?_⟩
  unfold cfP at h2
  simpa using h2

theorem byts_of {l : List Int} (h : ∀ x ∈ l, (Lit.int .u8 x).wf = true) : Byts l := by
  intro x hx
  have h1 := h x hx
  simp [Lit.wf, IntKind.min, IntKind.max, IntKind.signed, IntKind.bits] at h1
  omega

theorem mrgs_len (xs ys : List S70) : (mrgs xs ys).1.length ≤ 12 := by
  unfold mrgs
  split
  · split
    · rename_i h; exact goodLegs_len h
    · exact Nat.zero_le _
  · exact Nat.zero_le _
theorem dd_len : ∀ (ps : List S64) (sh : List Int), (dd ps sh).length ≤ ps.length + sh.length := by
  intro ps
  induction ps with
  | nil => intro sh; rw [dd]; omega
  | cons p ps ih =>
    intro sh
    rw [dd]
    split
    · have := ih sh; rw [List.length_cons]; omega
    · have := ih (sh ++ [p.f1]); rw [List.length_append, List.length_singleton] at this; rw [List.length_cons]; omega
theorem FnClubs : laws_FnClubs.Pure := by
  intro l hl _ hb
  apply Evn.get
  have hB : Byts l := byts_of hb
  have l1 : ∀ (x y : List S70) (g t : Int), goodLegs x = true → goodLegs y = true → 0 ≤ g → 0 ≤ t → ∀ (C : List S64), C.length ≤ 4194304 → (∀ p ∈ C, pairOk x y p ∧ agreeB (x.getD p.f0.toNat z70) (y.getD p.f1.toNat z70) g t = false) → ∀ (D i : Nat), i + D = C.length → Evn (fun k => laws_FnClubs.l1 k x y g t C (i : Int)) true := by
    intro x y g t hx hy hg ht C hC hp D
    induction D with
    | zero =>
      intro i h
      refine Evn.step ?_
      simp only [laws_FnClubs.l1, if_neg (show ¬ (i : Int) < (C.length : Int) by omega)]
      exact Evn.done _
    | succ D ih =>
      intro i h
      have hm : C.getD i z64 ∈ C := by rw [List.getD_eq_getElem?_getD, List.getElem?_eq_getElem (by omega), Option.getD_some]; exact List.getElem_mem _
      have hr : rd_T64 C (i : Int) = C.getD i z64 := by unfold rd_T64; rw [Int.toNat_natCast]
      obtain ⟨⟨⟨p1, p2⟩, ⟨p3, p4⟩, p5⟩, p6⟩ := hp _ hm
      have h1 : (i : Int) < (C.length : Int) := by omega
      have h2 : 0 ≤ (i : Int) := by omega
      have next := ih (i + 1) (by omega)
      generalize C.getD i z64 = p at hr p1 p2 p3 p4 p5 p6
      have ok1 := goodLegs_ok hx p.f0.toNat (by omega)
      have ok2 := goodLegs_ok hy p.f1.toNat (by omega)
      have hD := im_DoAgree _ _ g t ok1 ok2 hg ht
      rw [if_pos p5, p6] at hD
      have r1 : rd_T70 x p.f0 = x.getD p.f0.toNat z70 := rfl
      have r2 : rd_T70 y p.f1 = y.getD p.f1.toNat z70 := rfl
      refine Evn.step ?_
      simp only [laws_FnClubs.l1, if_pos h1, if_pos h2, hr, if_pos p1, if_pos p2, if_pos p3, if_pos p4, r1, r2, hD, Option.bind_some, if_true, Bool.false_eq_true, if_false, wrap_succ (show i < 4611686018427387904 by omega)]
      exact next
  have j4 : Evn (fun k => laws_FnClubs.j4 k l) true := by
    refine Evn.step ?_
    simp only [laws_FnClubs.j4]
    obtain ⟨t, ht, t1, t2, t3, t4⟩ := dw_DrawConflictLegs hB
    refine Evn.bind ht ?_
    obtain ⟨x, y, g, t⟩ := t
    dsimp only at t1 t2 t3 t4 ⊢
    have hlen := cfTs_len x y g t
    refine Evn.bind (im_ConflictLegs x y g t (by omega) (by omega)) (Evn.bind (sp_ConflictLegs x y g t (by omega) (by omega)) ?_)
    simp only [bne_self_eq_false, Bool.false_eq_true, if_false]
    refine Evn.bind (ev_vPairs _ (by omega)) ?_
    simp only [Bool.not_true]
    refine Evn.step ?_
    simp only [laws_FnClubs.j5, Bool.false_eq_true, if_false]
    refine Evn.ite (fun ok => ?_) (fun _ => Evn.done _)
    have hc : goodLegs x = true ∧ goodLegs y = true ∧ 0 ≤ g ∧ 0 ≤ t := by
      unfold cfTs at ok
      by_cases c : goodLegs x = true ∧ goodLegs y = true ∧ 0 ≤ g ∧ 0 ≤ t
      · exact c
      · rw [if_neg c] at ok; cases ok
    obtain ⟨c1, c2, c3, c4⟩ := hc
    have w1 : wrap64 (g + 1) = g + 1 := wrap_id (by omega) (by omega)
    have w2 : wrap64 (t + 1) = t + 1 := wrap_id (by omega) (by omega)
    rw [w1, w2]
    clear w1 w2
    have e0 : cfTs x y g t = (cfs x y g t x.length 0, true) := by unfold cfTs; rw [if_pos ⟨c1, c2, c3, c4⟩]
    have e1 : cfTs x y (g + 1) (t + 1) = (cfs x y (g + 1) (t + 1) x.length 0, true) := by unfold cfTs; rw [if_pos ⟨c1, c2, by omega, by omega⟩]
    have e2 : shTs x y = (prs x y x.length 0, true) := by unfold shTs; rw [if_pos ⟨c1, c2⟩]
    have b1 := im_ConflictLegs x y (g + 1) (t + 1) (by omega) (by omega)
    have b2 := im_SharedLegs x y (by omega) (by omega)
    rw [e1] at b1
    rw [e2] at b2
    rw [e0] at hlen ⊢
    have f1 := fewer_len x y g t
    have f2 := cfs_le x y g t
    refine Evn.bind b1 (Evn.bind b2 ?_)
    have n1 : ¬ ((cfs x y (g + 1) (t + 1) x.length 0).length : Int) > ((cfs x y g t x.length 0).length : Int) := by omega
    have n2 : decide (((cfs x y g t x.length 0).length : Int) > ((prs x y x.length 0).length : Int)) = false := decide_eq_false (by omega)
    simp only [if_true, if_neg n1, n2]
    refine Evn.step ?_
    simp only [laws_FnClubs.j6, Bool.false_eq_true, if_false]
    exact l1 x y g t c1 c2 c3 c4 _ hlen (cfs_ok x y g t) _ 0 (Nat.zero_add _)
  have j3 : ∀ (x y : List S70), (mrgs x y).2 = true → x.length ≤ 13 → y.length ≤ 100 → Evn (fun k => laws_FnClubs.j3 k l y (mrgs x y).1 false) true := by
    intro x y ok hx hy
    have hm := mrgs_len x y
    obtain ⟨k1, k2, k3, k4, k5⟩ := merge_again ok
    have b1 := im_MergeLegs (mrgs x y).1 y (by omega) (by omega)
    rw [k1] at b1
    refine Evn.step ?_
    simp only [laws_FnClubs.j3, Bool.false_eq_true, if_false]
    refine Evn.bind b1 ?_
    simp only [if_true]
    refine Evn.bind (ev_vLegs _ (by omega)) ?_
    simp only [if_true]
    exact j4
  have l0 : ∀ (x y : List S70), (mrgs x y).2 = true → x.length ≤ 13 → y.length ≤ 100 → ∀ (P : List S64), P.length ≤ 10000 → ∀ (D i : Nat) (sh : List Int), i + D = P.length → sh.length ≤ i → dd (P.drop i) sh = dd P [] → (dd P []).length + (mrg x y).length = y.length → Evn (fun k => laws_FnClubs.l0 k l x y (mrgs x y).1 P sh (i : Int)) true := by
    intro x y ok hx hy P hP D
    have hm := mrgs_len x y
    obtain ⟨k1, k2, k3, k4, k5⟩ := merge_again ok
    induction D with
    | zero =>
      intro i sh h hs he hc
      rw [List.drop_eq_nil_of_le (by omega), dd] at he
      have hlen : (mrgs x y).1.length = x.length + (mrg x y).length := by rw [k2, List.length_append]
      rw [← he] at hc
      have w1 : wrap64 (wrap64 ((x.length : Int) + (y.length : Int)) - (sh.length : Int)) = (x.length : Int) + (y.length : Int) - (sh.length : Int) := by rw [wrap_id (x := (x.length : Int) + (y.length : Int)) (by omega) (by omega), wrap_id (by omega) (by omega)]
      have n0 : ¬ (i : Int) < (P.length : Int) := by omega
      have n1 : (((mrgs x y).1.length : Nat) : Int) = (x.length : Int) + (y.length : Int) - (sh.length : Int) := by clear w1; omega
      have n2 : (0 : Int) ≤ (x.length : Int) := by clear w1; omega
      have n3 : (x.length : Int) ≤ (((mrgs x y).1.length : Nat) : Int) := by clear w1; omega
      have ht : (mrgs x y).1.take x.length = x := by rw [k2, List.take_left']; rfl
      refine Evn.step ?_
      simp only [laws_FnClubs.l0, if_neg n0, w1, if_pos n1, if_pos n2, if_pos n3, Int.toNat_natCast, ht]
      clear w1
      refine Evn.bind (ev_vLegs x (by omega)) ?_
      simp only [Bool.not_true]
      exact j3 x y ok hx hy
    | succ D ih =>
      intro i sh h hs he hc
      have h1 : (i : Int) < (P.length : Int) := by omega
      have h2 : 0 ≤ (i : Int) := by omega
      have hr : rd_T64 P (i : Int) = P.getD i z64 := by unfold rd_T64; rw [Int.toNat_natCast]
      have hq : sh.length < 17592186044416 := by omega
      rw [getD_drop P i z64 (by omega), dd] at he
      refine Evn.step ?_
      simp only [laws_FnClubs.l0, if_pos h1, if_pos h2, hr, wrap_succ (show i < 4611686018427387904 by omega)]
      refine Evn.bind (ev_vHas sh _ (by omega)) ?_
      refine Evn.ite (fun c => ?_) (fun c => ?_)
      · rw [if_pos c] at he
        exact ih (i + 1) sh (by omega) (by omega) he hc
      · rw [if_neg c] at he
        simp only [if_pos hq]
        exact ih (i + 1) _ (by omega) (by rw [List.length_append, List.length_singleton]; omega) he hc
  unfold laws_FnClubs.f laws_vBig.f
  simp only [Option.bind_some]
  refine Evn.ite (fun _ => Evn.done _) (fun _ => ?_)
  obtain ⟨t, ht, t1, t2⟩ := dw_DrawMergeLegs hB
  refine Evn.bind ht ?_
  obtain ⟨x, y⟩ := t
  dsimp only at t1 t2 ⊢
  have hm := mrgs_len x y
  refine Evn.bind (im_MergeLegs x y (by omega) (by omega)) (Evn.bind (sp_MergeLegs x y (by omega) (by omega)) ?_)
  simp only [bne_self_eq_false, Bool.false_eq_true, if_false]
  refine Evn.bind (ev_vLegs _ (by omega)) ?_
  simp only [Bool.not_true]
  refine Evn.step ?_
  simp only [laws_FnClubs.j0, Bool.false_eq_true, if_false]
  refine Evn.bind (im_SharedLegs x y (by omega) (by omega)) (Evn.bind (sp_SharedLegs x y (by omega) (by omega)) ?_)
  simp only [bne_self_eq_false, Bool.false_eq_true, if_false]
  refine Evn.bind (ev_vPairs _ (shTs_len x y)) ?_
  simp only [Bool.not_true]
  refine Evn.step ?_
  simp only [laws_FnClubs.j1, Bool.false_eq_true, if_false]
  refine Evn.ite (fun ok => ?_) (fun _ => j4)
  obtain ⟨k1, k2, k3, k4, k5⟩ := merge_again ok
  have e2 : shTs x y = (prs x y x.length 0, true) := by unfold shTs; rw [if_pos ⟨k3, k4⟩]
  rw [e2]
  have hpl := prs_len x y x.length 0
  have h2 := good_mul k3 k4
  exact l0 x y ok t1 t2 (prs x y x.length 0) (by omega) _ 0 [] (Nat.zero_add _) (Nat.le_refl _) (by rw [List.drop_zero]) (shared_count x y)

end Go.Proofs.Ytfaojmabalplfaa.Pure
