/- The plain statement of FnRenamings: its plain function returns true at every input. No condition beyond the arguments' own bounds. -/
import Derived.Test.YtfaojmabalplfaaQFnRenamingsx17
import Derived.Test.YtfaojmabalplfaaVRAid
namespace Go.Proofs.Ytfaojmabalplfaa.Pure
open Go.RowKit Go.Proofs.YtfaojmabalplfaaW.PrintWords Go.Proofs.YtfaojmabalplfaaW.PrintLast Go.Proofs.Ytfaojmabalplfaa.Aid Go.Proofs.Ytfaojmabalplfaa.QFnRenamings
set_option linter.unusedVariables false
set_option linter.unusedSimpArgs false

theorem sp_l1In (x y z : Int) : spec_l1In.f x y z = some (decide (y ≤ x ∧ x ≤ z)) := by
  unfold spec_l1In.f
  by_cases h : x ≥ y <;> simp [h] <;> omega

theorem sp_l4Station (x : Int) : spec_l4Station.f x = some (decide (0 ≤ x ∧ x ≤ 7)) := by
  simp only [spec_l4Station.f, sp_l1In, Option.bind_some]

theorem sp_l1Has_l0 (xs : List Int) (v : Int) (hx : xs.length ≤ 4194304) : ∀ (d i : Nat), i + d = xs.length → Evn (fun k => spec_l1Has.l0 k xs v (i : Int)) ((xs.drop i).contains v) := by
  intro d
  induction d with
  | zero =>
    intro i h
    refine Evn.step ?_
    have h1 : ¬ (i : Int) < (xs.length : Int) := by omega
    simp only [spec_l1Has.l0, if_neg h1]
    rw [List.drop_eq_nil_of_le (by omega)]
    exact Evn.done _
  | succ d ih =>
    intro i h
    refine Evn.step ?_
    have h1 : (i : Int) < (xs.length : Int) := by omega
    have h2 : 0 ≤ (i : Int) := by omega
    simp only [spec_l1Has.l0, if_pos h1, if_pos h2, rd, Int.toNat_natCast, wrap_succ (show i < 4611686018427387904 by omega)]
    rw [getD_drop xs i 0 (by omega)]
    refine Evn.ite (fun c => (Evn.done _).eq_ ?_) (fun c => (ih (i + 1) (by omega)).eq_ ?_)
    · rw [List.contains_cons, c]; simp
    · rw [List.contains_cons, show (v == xs.getD i 0) = false from by simpa using fun h => c h.symm]; simp
theorem sp_l1Has (xs : List Int) (v : Int) (hx : xs.length ≤ 4194304) : Evn (fun k => spec_l1Has.f k xs v) (xs.contains v) := by
  have h := sp_l1Has_l0 xs v hx xs.length 0 (by omega)
  simpa [spec_l1Has.f] using h

def goodN (xs : List Int) : Nat → Nat → Bool
  | 0, _ => (xs.length : Int) == 8
  | d + 1, i => (decide (0 ≤ xs.getD i 0 ∧ xs.getD i 0 ≤ 7) && !(xs.take i).contains (xs.getD i 0)) && goodN xs d (i + 1)
def goodNs (xs : List Int) : Bool := goodN xs xs.length 0
theorem goodN_facts (xs : List Int) : ∀ (d i : Nat), i + d = xs.length → goodN xs d i = true → (∀ j, i ≤ j → j < xs.length → (0 ≤ xs.getD j 0 ∧ xs.getD j 0 ≤ 7) ∧ (xs.take j).contains (xs.getD j 0) = false) ∧ xs.length = 8 := by
  intro d
  induction d with
  | zero =>
    intro i h hg
    refine ⟨fun j h1 h2 => by omega, ?_⟩
    simp only [goodN, beq_iff_eq] at hg
    omega
  | succ d ih =>
    intro i h hg
    simp only [goodN, Bool.and_eq_true, decide_eq_true_eq, Bool.not_eq_true'] at hg
    obtain ⟨⟨g1, g2⟩, g3⟩ := hg
    obtain ⟨h1, h2⟩ := ih (i + 1) (by omega) g3
    refine ⟨fun j hj hl => ?_, h2⟩
    rcases Nat.lt_or_ge i j with hc | hc
    · exact h1 j hc hl
    · obtain rfl : j = i := by omega
      exact ⟨g1, g2⟩
theorem goodNs_len {xs : List Int} (h : goodNs xs = true) : xs.length = 8 := (goodN_facts xs xs.length 0 (by omega) h).2
theorem goodNs_in {xs : List Int} (h : goodNs xs = true) (j : Nat) (hj : j < xs.length) : 0 ≤ xs.getD j 0 ∧ xs.getD j 0 ≤ 7 := ((goodN_facts xs xs.length 0 (by omega) h).1 j (by omega) hj).1
theorem goodNs_new {xs : List Int} (h : goodNs xs = true) (j : Nat) (hj : j < xs.length) : (xs.take j).contains (xs.getD j 0) = false := ((goodN_facts xs xs.length 0 (by omega) h).1 j (by omega) hj).2
theorem sp_l20Good_l0 (xs : List Int) (hx : xs.length ≤ 1048576) : ∀ (d i : Nat), i + d = xs.length → Evn (fun k => spec_l20Good.l0 k xs (i : Int)) (goodN xs d i) := by
  intro d
  induction d with
  | zero =>
    intro i h
    refine Evn.step ?_
    have h1 : ¬ (i : Int) < (xs.length : Int) := by omega
    simp only [spec_l20Good.l0, if_neg h1, goodN]
    exact Evn.done _
  | succ d ih =>
    intro i h
    refine Evn.step ?_
    have h1 : (i : Int) < (xs.length : Int) := by omega
    have h2 : 0 ≤ (i : Int) := by omega
    have h3 : (i : Int) ≤ (xs.length : Int) := by omega
    have hl : (xs.take i).length ≤ 4194304 := by rw [List.length_take]; omega
    simp only [spec_l20Good.l0, if_pos h1, if_pos h2, if_pos h3, sp_l4Station, rd, Int.toNat_natCast, Option.bind_some, wrap_succ (show i < 4611686018427387904 by omega), goodN]
    refine Evn.ite (fun c1 => ?_) (fun c1 => (Evn.done _).eq_ (by simp only [Bool.eq_false_iff.mpr c1, Bool.false_and]))
    simp only [c1, Bool.true_and]
    refine Evn.bind (sp_l1Has _ _ hl) ?_
    refine Evn.ite (fun c2 => (Evn.done _).eq_ (by simp only [c2, Bool.not_true, Bool.false_and])) (fun c2 => (ih (i + 1) (by omega)).eq_ (by simp only [Bool.eq_false_iff.mpr c2, Bool.not_false, Bool.true_and]))
theorem sp_l20Good (xs : List Int) (hx : xs.length ≤ 1048576) : Evn (fun k => spec_l20Good.f k xs) (goodNs xs) := sp_l20Good_l0 xs hx xs.length 0 (by omega)

def invN (xs : List Int) : Nat → Nat → List Int → List Int
  | 0, _, ys => ys
  | d + 1, i, ys => invN xs d (i + 1) (ys.set (xs.getD i 0).toNat (i : Int))
theorem invN_len (xs : List Int) : ∀ (d i : Nat) (ys : List Int), (invN xs d i ys).length = ys.length := by
  intro d
  induction d with
  | zero => intro i ys; rfl
  | succ d ih => intro i ys; rw [invN, ih]; simp
def invNs (xs : List Int) : List Int × Bool := if goodNs xs = true then (invN xs xs.length 0 (List.replicate 8 0), true) else ([], false)
theorem sp_InverseRenaming_l0 (xs : List Int) (hx : xs.length ≤ 1048576) (hg : goodNs xs = true) : ∀ (d i : Nat) (ys : List Int), i + d = xs.length → ys.length = 8 → Evn (fun k => spec_InverseRenaming.l0 k xs ys (i : Int)) (invN xs d i ys, true) := by
  intro d
  induction d with
  | zero =>
    intro i ys h hy
    refine Evn.step ?_
    have h1 : ¬ (i : Int) < (xs.length : Int) := by omega
    simp only [spec_InverseRenaming.l0, if_neg h1, invN]
    exact Evn.done _
  | succ d ih =>
    intro i ys h hy
    refine Evn.step ?_
    have h1 : (i : Int) < (xs.length : Int) := by omega
    have h2 : 0 ≤ (i : Int) := by omega
    obtain ⟨g1, g2⟩ := goodNs_in hg i (by omega)
    have h3 : xs.getD i 0 < (ys.length : Int) := by omega
    simp only [spec_InverseRenaming.l0, if_pos h1, if_pos h2, rd, Int.toNat_natCast, if_pos g1, if_pos h3, wrap_succ (show i < 4611686018427387904 by omega), invN]
    exact ih (i + 1) _ (by omega) (by simpa using hy)
theorem sp_InverseRenaming (xs : List Int) (hx : xs.length ≤ 1048576) : Evn (fun k => spec_InverseRenaming.f k xs) (invNs xs) := by
  unfold spec_InverseRenaming.f
  refine Evn.bind (sp_l20Good xs hx) ?_
  unfold invNs
  first | refine Evn.ite (fun c => Evn.ite (fun _ => ?_) (fun h => absurd (by omega) h)) (fun c => ?_) | refine Evn.ite (fun c => ?_) (fun c => ?_)
  · rw [if_pos c]
    exact sp_InverseRenaming_l0 xs hx c xs.length 0 _ (by omega) (by simp)
  · rw [if_neg c]
    exact Evn.done _

def thenNs (xs ys : List Int) : List Int × Bool := if goodNs xs = true ∧ goodNs ys = true then (xs.map (fun s => ys.getD s.toNat 0), true) else ([], false)
theorem then_step {ys zs : List Int} {xs : List Int} {i : Nat} (h : i < xs.length) : zs ++ (xs.drop i).map (fun s => ys.getD s.toNat 0) = (zs ++ [ys.getD (xs.getD i 0).toNat 0]) ++ (xs.drop (i + 1)).map (fun s => ys.getD s.toNat 0) := by
  rw [getD_drop xs i 0 h]; simp
theorem sp_ThenRenaming_l0 (xs ys : List Int) (hx : xs.length ≤ 1048576) (hg : goodNs xs = true) (hg2 : goodNs ys = true) : ∀ (d i : Nat) (zs : List Int), i + d = xs.length → zs.length = i → Evn (fun k => spec_ThenRenaming.l0 k xs ys zs (i : Int)) (zs ++ (xs.drop i).map (fun s => ys.getD s.toNat 0), true) := by
  have hl := goodNs_len hg2
  intro d
  induction d with
  | zero =>
    intro i zs h hz
    refine Evn.step ?_
    have h1 : ¬ (i : Int) < (xs.length : Int) := by omega
    simp only [spec_ThenRenaming.l0, if_neg h1]
    rw [List.drop_eq_nil_of_le (by omega)]
    simpa using Evn.done _
  | succ d ih =>
    intro i zs h hz
    refine Evn.step ?_
    have h1 : (i : Int) < (xs.length : Int) := by omega
    have h2 : 0 ≤ (i : Int) := by omega
    obtain ⟨g1, g2⟩ := goodNs_in hg i (by omega)
    have h3 : xs.getD i 0 < (ys.length : Int) := by omega
    rw [then_step (by omega)]
    simp only [spec_ThenRenaming.l0, if_pos h1, if_pos h2, rd, Int.toNat_natCast, if_pos g1, if_pos h3, wrap_succ (show i < 4611686018427387904 by omega)]
    exact Evn.ite (fun _ => ih (i + 1) _ (by omega) (by simp [hz])) (fun c => absurd (by omega) c)
theorem sp_ThenRenaming (xs ys : List Int) (hx : xs.length ≤ 1048576) (hy : ys.length ≤ 1048576) : Evn (fun k => spec_ThenRenaming.f k xs ys) (thenNs xs ys) := by
  unfold spec_ThenRenaming.f
  simp only [Option.bind_some]
  refine Evn.bind (sp_l20Good xs hx) ?_
  unfold thenNs
  refine Evn.ite (fun c => ?_) (fun c => ?_)
  · refine Evn.bind (sp_l20Good ys hy) (Evn.step ?_)
    simp only [spec_ThenRenaming.j0]
    refine Evn.ite (fun c1 => ?_) (fun c1 => ?_)
    · rw [if_neg (by intro h; rw [h.2] at c1; cases c1)]
      exact Evn.done _
    · have c2 : goodNs ys = true := by simpa using c1
      rw [if_pos ⟨c, c2⟩]
      have h := sp_ThenRenaming_l0 xs ys hx c c2 xs.length 0 [] (by omega) rfl
      simpa using h
  · refine Evn.step ?_
    simp only [spec_ThenRenaming.j0, if_true]
    rw [if_neg (fun h => c h.1)]
    exact Evn.done _

/-! A leg's rules. -/
def okLeg (x : S70) : Bool := decide (0 ≤ x.f0 ∧ x.f0 ≤ 7) && (decide (0 ≤ x.f1 ∧ x.f1 ≤ 7) && (!decide (x.f0 = x.f1) && (decide (1 ≤ x.f2 ∧ x.f2 ≤ 500) && (decide (0 ≤ x.f3 ∧ x.f3 ≤ 359) && decide (-90 ≤ x.f4 ∧ x.f4 ≤ 90)))))
def goodLegs (xs : List S70) : Bool := xs.all okLeg && decide (xs.length ≤ 12)
theorem goodLegs_len {xs : List S70} (h : goodLegs xs = true) : xs.length ≤ 12 := by
  simp only [goodLegs, Bool.and_eq_true, decide_eq_true_eq] at h
  exact h.2
theorem goodLegs_ok {xs : List S70} (h : goodLegs xs = true) (j : Nat) (hj : j < xs.length) : okLeg (xs.getD j z70) = true := by
  simp only [goodLegs, Bool.and_eq_true, List.all_eq_true] at h
  refine h.1 _ ?_
  rw [List.getD_eq_getElem?_getD, List.getElem?_eq_getElem hj]
  exact List.getElem_mem hj
theorem okLeg_in {x : S70} (h : okLeg x = true) : (0 ≤ x.f0 ∧ x.f0 ≤ 7) ∧ (0 ≤ x.f1 ∧ x.f1 ≤ 7) ∧ ¬ x.f0 = x.f1 ∧ (1 ≤ x.f2 ∧ x.f2 ≤ 500) ∧ (0 ≤ x.f3 ∧ x.f3 ≤ 359) ∧ (-90 ≤ x.f4 ∧ x.f4 ≤ 90) := by
  simp only [okLeg, Bool.and_eq_true, decide_eq_true_eq, Bool.not_eq_true', decide_eq_false_iff_not] at h
  exact h
theorem ite_not (c : Prop) [Decidable c] (x : Bool) : (if c then some false else some x) = some (!decide c && x) := by
  by_cases h : c <;> simp [h]

theorem sp_l4Leg (x : S70) : spec_l4Leg.f x.f0 x.f1 x.f2 x.f3 x.f4 = some (okLeg x) := by
  simp only [spec_l4Leg.f, sp_l4Station, spec_l2Bearing.f, sp_l1In, Option.bind_some, ite_and, ite_not, okLeg]

theorem sp_l4Legs_l0 (xs : List S70) (hx : xs.length ≤ 4194304) : ∀ (d i : Nat), i + d = xs.length → Evn (fun k => spec_l4Legs.l0 k xs (i : Int)) ((xs.drop i).all okLeg && decide (xs.length ≤ 12)) := by
  intro d
  induction d with
  | zero =>
    intro i h
    refine Evn.step ?_
    have h1 : ¬ (i : Int) < (xs.length : Int) := by omega
    simp only [spec_l4Legs.l0, if_neg h1]
    rw [List.drop_eq_nil_of_le (by omega)]
    refine (Evn.done _).eq_ ?_
    simp only [List.all_nil, Bool.true_and, decide_eq_decide]
    omega
  | succ d ih =>
    intro i h
    refine Evn.step ?_
    have h1 : (i : Int) < (xs.length : Int) := by omega
    have h2 : 0 ≤ (i : Int) := by omega
    simp only [spec_l4Legs.l0, if_pos h1, if_pos h2, sp_l4Leg, Option.bind_some, wrap_succ (show i < 4611686018427387904 by omega), rd_T70, Int.toNat_natCast]
    rw [getD_drop xs i z70 (by omega), List.all_cons]
    exact Evn.ite (fun c => (ih (i + 1) (by omega)).eq_ (by simp only [c, Bool.true_and])) (fun c => (Evn.done _).eq_ (by simp only [Bool.eq_false_iff.mpr c, Bool.false_and]))
theorem sp_l4Legs (xs : List S70) (hx : xs.length ≤ 4194304) : Evn (fun k => spec_l4Legs.f k xs) (goodLegs xs) := by
  have h := sp_l4Legs_l0 xs hx xs.length 0 (by omega)
  simpa [spec_l4Legs.f, goodLegs] using h

def renL (ys : List Int) (x : S70) : S70 := ⟨ys.getD x.f0.toNat 0, ys.getD x.f1.toNat 0, x.f2, x.f3, x.f4⟩
theorem ren_step {ys : List Int} {zs : List S70} {xs : List S70} {i : Nat} (h : i < xs.length) : zs ++ (xs.drop i).map (renL ys) = (zs ++ [renL ys (xs.getD i z70)]) ++ (xs.drop (i + 1)).map (renL ys) := by
  rw [getD_drop xs i z70 h]; simp
theorem sp_l20Rename (xs : List S70) (ys : List Int) (hg : goodLegs xs = true) (hl : ys.length = 8) : spec_l20Rename.f xs ys = some (xs.map (renL ys)) := by
  have hx := goodLegs_len hg
  unfold spec_l20Rename.f
  rw [if_pos ⟨by omega, fun i hi => by obtain ⟨⟨g1, g2⟩, ⟨g3, g4⟩, _⟩ := okLeg_in (goodLegs_ok hg i hi); omega⟩]
  rfl

def renLs (xs : List S70) (ys : List Int) : List S70 × Bool := if goodLegs xs = true ∧ goodNs ys = true then (xs.map (renL ys), true) else ([], false)
theorem sp_RenameLegs (xs : List S70) (ys : List Int) (hx : xs.length ≤ 4194304) (hy : ys.length ≤ 1048576) : Evn (fun k => spec_RenameLegs.f k xs ys) (renLs xs ys) := by
  unfold spec_RenameLegs.f
  refine Evn.bind (sp_l4Legs xs hx) ?_
  unfold renLs
  refine Evn.ite (fun c => ?_) (fun c => ?_)
  · refine Evn.bind (sp_l20Good ys hy) ?_
    refine Evn.ite (fun c1 => ?_) (fun c1 => ?_)
    · rw [if_pos ⟨c, c1⟩]
      simp only [sp_l20Rename xs ys c (goodNs_len c1), Option.bind_some]
      exact Evn.done _
    · rw [if_neg (fun h => c1 h.2)]
      exact Evn.done _
  · rw [if_neg (fun h => c h.1)]
    exact Evn.done _

theorem sp_l1Most (a b : Int) : spec_l1Most.f a b = some (max a b) := by
  unfold spec_l1Most.f
  split <;> congr 1 <;> omega

def shB (x y : S70) : Bool := (decide (x.f0 = y.f0) && decide (x.f1 = y.f1)) || (decide (x.f0 = y.f1) && decide (x.f1 = y.f0))
theorem shared_form (a b c d : Int) : (if a = c then (if b = d then some true else (if a = d then some (b == c) else some false)) else (if a = d then some (b == c) else some false)) = some ((decide (a = c) && decide (b = d)) || (decide (a = d) && decide (b = c))) := by
  have e : (b == c) = decide (b = c) := rfl
  rw [e]
  by_cases h1 : a = c <;> by_cases h2 : b = d <;> by_cases h3 : a = d <;> simp [h1, h2, h3]
  all_goals (by_cases h4 : c = d <;> simp [h4])

def absI (z : Int) : Int := mx z (wrap64 (-z))
def turnI (a b : Int) : Int := mn (absI (wrap64 (a - b))) (wrap64 (360 - absI (wrap64 (a - b))))
def revL (y : S70) : S70 := ⟨y.f1, y.f0, y.f2, Int.tmod (wrap64 (y.f3 + 180)) 360, wrap64 (-y.f4)⟩
def agB (x y : S70) (g t : Int) : Bool := decide (turnI x.f3 y.f3 ≤ g) && (decide (absI (wrap64 (x.f4 - y.f4)) ≤ g) && decide (absI (wrap64 (x.f2 - y.f2)) ≤ t))
def agreeB (x y : S70) (g t : Int) : Bool := if y.f0 = x.f0 then agB x y g t else agB x (revL y) g t

theorem sp_TurnBetween (a b : Int) (ha : 0 ≤ a ∧ a ≤ 359) (hb : 0 ≤ b ∧ b ≤ 359) : spec_TurnBetween.f a b = some (turnI a b, true) := by
  simp only [spec_TurnBetween.f, spec_l2Bearing.f, sp_l1In, Option.bind_some, decide_eq_true ha, decide_eq_true hb, if_true]
  unfold turnI absI mn mx
  have e1 : wrap64 (a - b) = a - b := wrap_id (by omega) (by omega)
  rw [e1]
  clear e1
  have e2 : wrap64 (a - b + 360) = a - b + 360 := wrap_id (by omega) (by omega)
  have e3 : wrap64 (-(a - b)) = -(a - b) := wrap_id (by clear e2; omega) (by clear e2; omega)
  rw [e2, e3, Int.tmod_eq_emod_of_nonneg (by clear e2 e3; omega)]
  clear e2 e3
  have hm : 0 ≤ (a - b + 360) % 360 ∧ (a - b + 360) % 360 < 360 := by omega
  have e4 : wrap64 (360 - (a - b + 360) % 360) = 360 - (a - b + 360) % 360 := wrap_id (by omega) (by omega)
  rw [e4]
  clear e4
  have hs : ∀ z : Int, 0 ≤ z → z ≤ 359 → wrap64 (360 - z) = 360 - z := fun z _ _ => wrap_id (by omega) (by omega)
  unfold spec_l1Least.f
  by_cases h : a - b < -(a - b)
  · rw [if_pos h, hs _ (by clear hs; omega) (by clear hs; omega)]
    clear hs
    have e5 : (a - b + 360) % 360 = a - b + 360 := by omega
    rw [e5]
    split <;> split <;> simp only [Option.bind_some, Option.some.injEq, Prod.mk.injEq, and_true] <;> omega
  · rw [if_neg h, hs _ (by clear hs; omega) (by clear hs; omega)]
    clear hs
    have e5 : (a - b + 360) % 360 = a - b := by omega
    rw [e5]
    split <;> split <;> simp only [Option.bind_some, Option.some.injEq, Prod.mk.injEq, and_true] <;> omega
theorem most_abs (a b : Int) (h : -1000 ≤ a ∧ a ≤ 1000) (h' : -1000 ≤ b ∧ b ≤ 1000) : spec_l1Most.f (wrap64 (a - b)) (wrap64 (b - a)) = some (absI (wrap64 (a - b))) := by
  have e1 : wrap64 (a - b) = a - b := wrap_id (by omega) (by omega)
  have e2 : wrap64 (b - a) = b - a := wrap_id (by clear e1; omega) (by clear e1; omega)
  have e3 : wrap64 (-(a - b)) = -(a - b) := wrap_id (by clear e1 e2; omega) (by clear e1 e2; omega)
  unfold spec_l1Most.f absI mx
  rw [e1, e2, e3]
  clear e1 e2 e3
  split <;> split <;> simp only [Option.some.injEq] <;> omega
theorem sp_agree_end (x z : S70) (g t : Int) (h3 : 0 ≤ x.f3 ∧ x.f3 ≤ 359) (h4 : -90 ≤ x.f4 ∧ x.f4 ≤ 90) (h2 : 1 ≤ x.f2 ∧ x.f2 ≤ 500) (k3 : 0 ≤ z.f3 ∧ z.f3 ≤ 359) (k4 : -90 ≤ z.f4 ∧ z.f4 ≤ 90) (k2 : 1 ≤ z.f2 ∧ z.f2 ≤ 500) :
    Evn (fun k => spec_DoAgree.j3 k g t false x.f0 x.f1 x.f2 x.f3 x.f4 z.f0 z.f1 z.f2 z.f3 z.f4) (agB x z g t, true) := by
  refine Evn.step ?_
  simp only [spec_DoAgree.j3, Bool.false_eq_true, if_false, sp_TurnBetween _ _ h3 k3, most_abs x.f4 z.f4 (by omega) (by omega), most_abs x.f2 z.f2 (by omega) (by omega), Option.bind_some]
  unfold agB
  refine Evn.ite (fun c1 => Evn.ite (fun c2 => ?_) (fun c2 => ?_)) (fun c1 => ?_)
  · rw [decide_eq_true c1, decide_eq_true c2, Bool.true_and, Bool.true_and]; exact Evn.done _
  · rw [decide_eq_false c2, Bool.false_and, Bool.and_false]; exact Evn.done _
  · rw [decide_eq_false c1, Bool.false_and]; exact Evn.done _
theorem rev_ok {y : S70} (h3 : 0 ≤ y.f3 ∧ y.f3 ≤ 359) (h4 : -90 ≤ y.f4 ∧ y.f4 ≤ 90) : (0 ≤ (revL y).f3 ∧ (revL y).f3 ≤ 359) ∧ (-90 ≤ (revL y).f4 ∧ (revL y).f4 ≤ 90) := by
  unfold revL
  dsimp only
  have e2 : wrap64 (y.f3 + 180) = y.f3 + 180 := wrap_id (by omega) (by omega)
  have e3 : wrap64 (-y.f4) = -y.f4 := wrap_id (by clear e2; omega) (by clear e2; omega)
  rw [e2, e3, Int.tmod_eq_emod_of_nonneg (by clear e2 e3; omega)]
  clear e2 e3
  omega
theorem sp_DoAgree (x y : S70) (g t : Int) (hx : okLeg x = true) (hy : okLeg y = true) (hg : 0 ≤ g) (ht : 0 ≤ t) :
    Evn (fun k => spec_DoAgree.f k x.f0 x.f1 x.f2 x.f3 x.f4 y.f0 y.f1 y.f2 y.f3 y.f4 g t) (if shB x y = true then (agreeB x y g t, true) else (false, false)) := by
  obtain ⟨_, _, hn, h2, h3, h4⟩ := okLeg_in hx
  obtain ⟨_, _, hm, k2, k3, k4⟩ := okLeg_in hy
  obtain ⟨r3, r4⟩ := rev_ok k3 k4
  have hg' : ¬ g < 0 := by omega
  have ht' : decide (t < 0) = false := decide_eq_false (by omega)
  simp only [spec_DoAgree.f, sp_l4Leg, hx, hy, if_true, Option.bind_some, if_neg hg', ht']
  refine Evn.step ?_
  simp only [spec_DoAgree.j0, Bool.false_eq_true, if_false]
  have tail : ¬ (x.f0 = y.f1 ∧ x.f1 = y.f0) → Evn (fun k => spec_DoAgree.j2 k g t x.f0 x.f1 x.f2 x.f3 x.f4 y.f0 y.f1 y.f2 y.f3 y.f4) (if shB x y = true then (agreeB x y g t, true) else (false, false)) := by
    intro hr
    refine Evn.step ?_
    simp only [spec_DoAgree.j2]
    by_cases c1 : x.f0 = y.f0
    · simp only [if_pos c1]
      by_cases c2 : x.f1 = y.f1
      · have e1 : (x.f1 != y.f1) = false := bne_eq_false_iff_eq.2 c2
        have e2 : shB x y = true := by unfold shB; rw [decide_eq_true c1, decide_eq_true c2]; rfl
        have e3 : agreeB x y g t = agB x y g t := by unfold agreeB; rw [if_pos c1.symm]
        rw [e1, e2, if_pos rfl, e3]
        exact sp_agree_end x y g t h3 h4 h2 k3 k4 k2
      · have e1 : (x.f1 != y.f1) = true := bne_iff_ne.2 c2
        have e2 : shB x y = false := by
          unfold shB
          rw [decide_eq_false c2, Bool.and_false, Bool.false_or]
          by_cases c3 : x.f0 = y.f1
          · rw [decide_eq_false (fun h => hr ⟨c3, h⟩), Bool.and_false]
          · rw [decide_eq_false c3, Bool.false_and]
        rw [e1, e2, if_neg (by decide)]
        refine Evn.step ?_
        simp only [spec_DoAgree.j3, if_true]
        exact Evn.done _
    · simp only [if_neg c1]
      have e2 : shB x y = false := by
        unfold shB
        rw [decide_eq_false c1, Bool.false_and, Bool.false_or]
        by_cases c3 : x.f0 = y.f1
        · rw [decide_eq_false (fun h => hr ⟨c3, h⟩), Bool.and_false]
        · rw [decide_eq_false c3, Bool.false_and]
      rw [e2, if_neg (by decide)]
      refine Evn.step ?_
      simp only [spec_DoAgree.j3, if_true]
      exact Evn.done _
  refine Evn.ite (fun c1 => Evn.step ?_) (fun c1 => Evn.step ?_)
  · simp only [spec_DoAgree.j1]
    refine Evn.ite (fun c2 => ?_) (fun c2 => ?_)
    · have c3 : x.f1 = y.f0 := beq_iff_eq.1 c2
      simp only [spec_l4Reverse.f, Option.bind_some]
      have e2 : shB x y = true := by unfold shB; rw [decide_eq_true c1, decide_eq_true c3, Bool.and_self, Bool.or_true]
      have e3 : agreeB x y g t = agB x (revL y) g t := by unfold agreeB; rw [if_neg (by omega)]
      rw [e2, if_pos rfl, e3]
      refine Evn.step ?_
      simp only [spec_DoAgree.j2, if_pos c1]
      have e1 : (x.f1 != y.f0) = false := bne_eq_false_iff_eq.2 c3
      rw [e1]
      exact sp_agree_end x (revL y) g t h3 h4 h2 r3 r4 k2
    · exact tail (fun h => c2 (beq_iff_eq.2 h.2))
  · simp only [spec_DoAgree.j1, Bool.false_eq_true, if_false]
    exact tail (fun h => c1 h.1)

def hit (xs : List S70) (y : S70) : Bool := xs.any fun x => shB x y && agreeB x y 0 0
def sc (xs : List S70) : List S70 → Int
  | [] => 0
  | y :: l => (if hit xs y = true then 1 else 0) + sc xs l
theorem sc_le (xs : List S70) : ∀ l, 0 ≤ sc xs l ∧ sc xs l ≤ l.length := by
  intro l
  induction l with
  | nil => exact ⟨Int.le_refl _, Int.le_refl _⟩
  | cons y l ih =>
    rw [sc, List.length_cons]
    split <;> omega
theorem goodNs_ne {ys : List Int} (h : goodNs ys = true) {i j : Nat} (hij : i < j) (hj : j < ys.length) : ys.getD i 0 ≠ ys.getD j 0 := by
  intro e
  have h1 := goodNs_new h j hj
  rw [← e] at h1
  have hm : ys.getD i 0 ∈ ys.take j := by
    refine List.mem_iff_getElem?.2 ⟨i, ?_⟩
    rw [List.getElem?_take_of_lt hij, List.getD_eq_getElem?_getD, List.getElem?_eq_getElem (by omega)]
    rfl
  rw [List.contains_eq_mem, decide_eq_false_iff_not] at h1
  exact h1 hm
theorem ren_ok {ys : List Int} (h : goodNs ys = true) {x : S70} (hx : okLeg x = true) : okLeg (renL ys x) = true := by
  obtain ⟨⟨a1, a2⟩, ⟨b1, b2⟩, hn, h2, h3, h4⟩ := okLeg_in hx
  have hl := goodNs_len h
  have g0 := goodNs_in h x.f0.toNat (by omega)
  have g1 := goodNs_in h x.f1.toNat (by omega)
  have hne : ys.getD x.f0.toNat 0 ≠ ys.getD x.f1.toNat 0 := by
    rcases Nat.lt_or_ge x.f0.toNat x.f1.toNat with hc | hc
    · exact goodNs_ne h hc (by omega)
    · exact (goodNs_ne h (show x.f1.toNat < x.f0.toNat by omega) (by omega)).symm
  unfold okLeg renL
  dsimp only
  rw [decide_eq_true g0, decide_eq_true g1, decide_eq_false hne, decide_eq_true h2, decide_eq_true h3, decide_eq_true h4]
  rfl

theorem sp_l20Score_l1 (xs ys : List S70) (hx : goodLegs xs = true) (hy : ∀ y ∈ ys, okLeg y = true) (i : Nat) (hi : i < ys.length) (m : Int) (R : Int)
    (r1 : Evn (fun k => spec_l20Score.l0 k xs ys (wrap64 (m + 1)) ((i + 1 : Nat) : Int)) (1 + R)) (r0 : Evn (fun k => spec_l20Score.l0 k xs ys m ((i + 1 : Nat) : Int)) R) (hil : ys.length ≤ 4194304) :
    ∀ (d j : Nat) (f : Bool), j + d = xs.length → Evn (fun k => spec_l20Score.l1 k xs ys m (i : Int) f (j : Int)) ((if (f || (xs.drop j).any fun x => shB x (ys.getD i z70) && agreeB x (ys.getD i z70) 0 0) = true then 1 else 0) + R) := by
  have hxl := goodLegs_len hx
  have hyi : okLeg (ys.getD i z70) = true := by
    refine hy _ ?_
    rw [List.getD_eq_getElem?_getD, List.getElem?_eq_getElem hi]
    exact List.getElem_mem hi
  have hw := wrap_succ (show i < 4611686018427387904 by omega)
  intro d
  induction d with
  | zero =>
    intro j f h
    refine Evn.step ?_
    have h1 : ¬ (j : Int) < (xs.length : Int) := by clear hw; omega
    rw [List.drop_eq_nil_of_le (by clear hw; omega), List.any_nil, Bool.or_false]
    simp only [spec_l20Score.l1, if_neg h1, hw]
    refine Evn.ite (fun c => ?_) (fun c => ?_)
    · rw [if_pos c]; exact r1
    · rw [if_neg c]; exact r0.eq_ (by omega)
  | succ d ih =>
    intro j f h
    have h1 : (j : Int) < (xs.length : Int) := by clear hw; omega
    have h2 : 0 ≤ (j : Int) := by omega
    have h3 : 0 ≤ (i : Int) := by omega
    have h4 : (i : Int) < (ys.length : Int) := by clear hw; omega
    have hwj := wrap_succ (show j < 4611686018427387904 by clear hw; omega)
    refine Evn.step ?_
    rw [getD_drop xs j z70 (by clear hw hwj; omega), List.any_cons]
    simp only [spec_l20Score.l1, if_pos h1, if_pos h2, if_pos h3, if_pos h4, rd_T70, Int.toNat_natCast, hwj]
    refine Evn.bind (sp_DoAgree (xs.getD j z70) (ys.getD i z70) 0 0 (goodLegs_ok hx j (by clear hw hwj; omega)) hyi (by decide) (by decide)) ?_
    have e1 : (if shB (xs.getD j z70) (ys.getD i z70) = true then (agreeB (xs.getD j z70) (ys.getD i z70) 0 0, true) else (false, false)).1 = (shB (xs.getD j z70) (ys.getD i z70) && agreeB (xs.getD j z70) (ys.getD i z70) 0 0) := by
      split
      · rename_i c; rw [c, Bool.true_and]
      · rename_i c; rw [Bool.eq_false_iff.mpr c, Bool.false_and]
    rw [e1]
    refine Evn.ite (fun c => ?_) (fun c => ?_)
    · have h5 := ih (j + 1) true (by clear hw hwj; omega)
      rw [c, Bool.true_or]
      rw [Bool.true_or] at h5
      exact h5
    · have h5 := ih (j + 1) (shB (xs.getD j z70) (ys.getD i z70) && agreeB (xs.getD j z70) (ys.getD i z70) 0 0) (by clear hw hwj; omega)
      rw [Bool.eq_false_iff.mpr c, Bool.false_or]
      exact h5
theorem sp_l20Score_l0 (xs ys : List S70) (hx : goodLegs xs = true) (hy : ∀ y ∈ ys, okLeg y = true) (hil : ys.length ≤ 4194304) : ∀ (d i : Nat) (m : Int), i + d = ys.length → 0 ≤ m → m ≤ i → Evn (fun k => spec_l20Score.l0 k xs ys m (i : Int)) (m + sc xs (ys.drop i)) := by
  intro d
  induction d with
  | zero =>
    intro i m h _ _
    refine Evn.step ?_
    have h1 : ¬ (i : Int) < (ys.length : Int) := by omega
    simp only [spec_l20Score.l0, if_neg h1]
    rw [List.drop_eq_nil_of_le (by omega), sc, Int.add_zero]
    exact Evn.done _
  | succ d ih =>
    intro i m h h0 hm
    have h1 : (i : Int) < (ys.length : Int) := by omega
    have hw : wrap64 (m + 1) = m + 1 := wrap_id (by omega) (by omega)
    refine Evn.step ?_
    rw [getD_drop ys i z70 (by clear hw; omega), sc]
    simp only [spec_l20Score.l0, if_pos h1]
    have h2 := sp_l20Score_l1 xs ys hx hy i (by clear hw; omega) m (m + sc xs (ys.drop (i + 1))) (by rw [hw]; exact (ih (i + 1) (m + 1) (by clear hw; omega) (by clear hw; omega) (by clear hw; omega)).eq_ (by clear hw; omega)) (ih (i + 1) m (by clear hw; omega) (by clear hw; omega) (by clear hw; omega)) hil xs.length 0 false (by omega)
    rw [List.drop_zero, Bool.false_or] at h2
    refine h2.eq_ ?_
    unfold hit
    clear hw
    omega
theorem sp_l20Score (xs ys : List S70) (hx : goodLegs xs = true) (hy : ∀ y ∈ ys, okLeg y = true) (hil : ys.length ≤ 4194304) : Evn (fun k => spec_l20Score.f k xs ys) (sc xs ys) := by
  have h := sp_l20Score_l0 xs ys hx hy hil ys.length 0 0 (by omega) (by omega) (by omega)
  rw [List.drop_zero] at h
  unfold spec_l20Score.f
  exact h.eq_ (by omega)

def scTs (xs ys : List S70) (rs : List Int) : Int × Bool := if goodLegs xs = true ∧ goodLegs ys = true ∧ goodNs rs = true then (sc xs (ys.map (renL rs)), true) else (0, false)
theorem ren_all {rs : List Int} (h : goodNs rs = true) {ys : List S70} (hy : goodLegs ys = true) : ∀ y ∈ ys.map (renL rs), okLeg y = true := by
  intro y hm
  obtain ⟨x, hx, rfl⟩ := List.mem_map.1 hm
  refine ren_ok h ?_
  simp only [goodLegs, Bool.and_eq_true, List.all_eq_true] at hy
  exact hy.1 x hx
theorem sp_MatchScore (xs ys : List S70) (rs : List Int) (hx : xs.length ≤ 4194304) (hy : ys.length ≤ 4194304) (hr : rs.length ≤ 1048576) : Evn (fun k => spec_MatchScore.f k xs ys rs) (scTs xs ys rs) := by
  unfold spec_MatchScore.f scTs
  have no : ¬ (goodLegs xs = true ∧ goodLegs ys = true ∧ goodNs rs = true) → Evn (fun k => spec_MatchScore.j0 k xs ys rs true) (if goodLegs xs = true ∧ goodLegs ys = true ∧ goodNs rs = true then (sc xs (ys.map (renL rs)), true) else (0, false)) := by
    intro h
    rw [if_neg h]
    refine Evn.step ?_
    simp only [spec_MatchScore.j0, if_true]
    exact Evn.done _
  refine Evn.bind (sp_l4Legs xs hx) ?_
  refine Evn.ite (fun c1 => ?_) (fun c1 => no (fun h => c1 h.1))
  refine Evn.bind (sp_l4Legs ys hy) ?_
  refine Evn.ite (fun c2 => ?_) (fun c2 => no (fun h => c2 h.2.1))
  refine Evn.bind (sp_l20Good rs hr) ?_
  by_cases c3 : goodNs rs = true
  · rw [if_pos ⟨c1, c2, c3⟩]
    simp only [c3, Bool.not_true]
    refine Evn.step ?_
    simp only [spec_MatchScore.j0, Bool.false_eq_true, if_false, sp_l20Rename ys rs c2 (goodNs_len c3), Option.bind_some]
    refine Evn.bind (sp_l20Score xs (ys.map (renL rs)) c1 (ren_all c3 c2) (by rw [List.length_map]; exact hy)) ?_
    exact Evn.done _
  · have e : (!goodNs rs) = true := by rw [Bool.eq_false_iff.mpr c3]; rfl
    simp only [e]
    exact no (fun h => c3 h.2.2)

def perm8 (rs : List Int) : Prop := rs.length = 8 ∧ (∀ i, i < 8 → 0 ≤ rs.getD i 0 ∧ rs.getD i 0 ≤ 7) ∧ ∀ i j, i < j → j < 8 → rs.getD i 0 ≠ rs.getD j 0
theorem perm8_good {rs : List Int} (h : goodNs rs = true) : perm8 rs := by
  have hl := goodNs_len h
  exact ⟨hl, fun i hi => goodNs_in h i (by omega), fun i j hij hj => goodNs_ne h hij (by omega)⟩
theorem ren_ok8 {rs : List Int} (h : perm8 rs) {x : S70} (hx : okLeg x = true) : okLeg (renL rs x) = true := by
  obtain ⟨⟨a1, a2⟩, ⟨b1, b2⟩, hn, h2, h3, h4⟩ := okLeg_in hx
  have g0 := h.2.1 x.f0.toNat (by omega)
  have g1 := h.2.1 x.f1.toNat (by omega)
  have hne : rs.getD x.f0.toNat 0 ≠ rs.getD x.f1.toNat 0 := by
    rcases Nat.lt_or_ge x.f0.toNat x.f1.toNat with hc | hc
    · exact h.2.2 _ _ hc (by omega)
    · exact (h.2.2 x.f1.toNat x.f0.toNat (by omega) (by omega)).symm
  unfold okLeg renL
  dsimp only
  rw [decide_eq_true g0, decide_eq_true g1, decide_eq_false hne, decide_eq_true h2, decide_eq_true h3, decide_eq_true h4]
  rfl
theorem ren_all8 {rs : List Int} (h : perm8 rs) {ys : List S70} (hy : goodLegs ys = true) : ∀ y ∈ ys.map (renL rs), okLeg y = true := by
  intro y hm
  obtain ⟨x, hx, rfl⟩ := List.mem_map.1 hm
  refine ren_ok8 h ?_
  simp only [goodLegs, Bool.and_eq_true, List.all_eq_true] at hy
  exact hy.1 x hx
def swapL (rs : List Int) (i j : Nat) : List Int := (rs.set i (rs.getD j 0)).set j (rs.getD i 0)
theorem swapL_len (rs : List Int) (i j : Nat) : (swapL rs i j).length = rs.length := by unfold swapL; rw [List.length_set, List.length_set]
theorem getD_set_ (l : List Int) (i k : Nat) (v : Int) (hi : i < l.length) : (l.set i v).getD k 0 = if k = i then v else l.getD k 0 := by
  rw [List.getD_eq_getElem?_getD, List.getElem?_set, List.getD_eq_getElem?_getD]
  by_cases h : i = k
  · rw [if_pos h, if_pos h.symm, if_pos hi]; rfl
  · rw [if_neg h, if_neg (fun e => h e.symm)]
theorem swapL_getD (rs : List Int) (i j k : Nat) (hi : i < rs.length) (hj : j < rs.length) : (swapL rs i j).getD k 0 = if k = j then rs.getD i 0 else if k = i then rs.getD j 0 else rs.getD k 0 := by
  unfold swapL
  rw [getD_set_ _ j k _ (by rw [List.length_set]; exact hj), getD_set_ rs i k _ hi]
theorem perm8_swap {rs : List Int} (h : perm8 rs) {i j : Nat} (hi : i < 8) (hj : j < 8) : perm8 (swapL rs i j) := by
  obtain ⟨hl, hr, hn⟩ := h
  have hne : ∀ a b, a < 8 → b < 8 → a ≠ b → rs.getD a 0 ≠ rs.getD b 0 := by
    intro a b ha hb hab
    rcases Nat.lt_or_ge a b with hc | hc
    · exact hn a b hc hb
    · exact (hn b a (by omega) ha).symm
  refine ⟨by rw [swapL_len]; exact hl, fun k hk => ?_, fun a b hab hb => ?_⟩
  · rw [swapL_getD rs i j k (by omega) (by omega)]
    split
    · exact hr i hi
    · split
      · exact hr j hj
      · exact hr k hk
  · rw [swapL_getD rs i j a (by omega) (by omega), swapL_getD rs i j b (by omega) (by omega)]
    repeat' split
    all_goals first | exact hne _ _ (by omega) (by omega) (by omega) | (exfalso; omega)
def better (b : List Int × Int) (own : List Int) (s : Int) : List Int × Int := if s > b.2 then (own, s) else b
def impJ (xs ys : List S70) (rs : List Int) (i : Nat) : Nat → Nat → List Int × Int → List Int × Int
  | 0, _, b => b
  | d + 1, j, b => impJ xs ys rs i d (j + 1) (better b (swapL rs i j) (sc xs (ys.map (renL (swapL rs i j)))))
def impI (xs ys : List S70) (rs : List Int) : Nat → Nat → List Int × Int → List Int × Int
  | 0, _, b => b
  | d + 1, i, b => impI xs ys rs d (i + 1) (impJ xs ys rs i (8 - (i + 1)) (i + 1) b)
def impTs (xs ys : List S70) (rs : List Int) : List Int × Int × Bool :=
  if goodLegs xs = true ∧ goodLegs ys = true ∧ goodNs rs = true then ((impI xs ys rs 8 0 (rs, sc xs (ys.map (renL rs)))).1, (impI xs ys rs 8 0 (rs, sc xs (ys.map (renL rs)))).2, true) else ([], 0, false)
theorem impJ_len (xs ys : List S70) (rs : List Int) (i : Nat) : ∀ d j b, b.1.length = rs.length → (impJ xs ys rs i d j b).1.length = rs.length := by
  intro d
  induction d with
  | zero => intro j b h; exact h
  | succ d ih =>
    intro j b h
    refine ih (j + 1) _ ?_
    unfold better
    split
    · exact swapL_len rs i j
    · exact h
theorem impI_len (xs ys : List S70) (rs : List Int) : ∀ d i b, b.1.length = rs.length → (impI xs ys rs d i b).1.length = rs.length := by
  intro d
  induction d with
  | zero => intro i b h; exact h
  | succ d ih => intro i b h; exact ih (i + 1) _ (impJ_len xs ys rs i _ _ b h)

theorem sp_l1Own (l : List Int) (h : l.length ≤ 4194304) : spec_l1Own.f l = some l := by
  unfold spec_l1Own.f
  simp only [Option.bind_some, List.length_nil, List.nil_append]
  rw [if_pos (by omega)]
theorem sp_Improve_l1 (xs ys : List S70) (rs : List Int) (hx : goodLegs xs = true) (hy : goodLegs ys = true) (hp : perm8 rs) (i : Nat) (hi : i < 8) (R : List Int × Int → List Int × Int × Bool)
    (hrest : ∀ (b : List Int) (m : Int), Evn (fun k => spec_ImproveRenaming.l0 k xs ys rs b m ((i + 1 : Nat) : Int)) (R (b, m))) :
    ∀ (d j : Nat) (b : List Int) (m : Int), j + d = 8 → i < j → Evn (fun k => spec_ImproveRenaming.l1 k xs ys rs b m (i : Int) (j : Int)) (R (impJ xs ys rs i d j (b, m))) := by
  have hl := hp.1
  have hyl := goodLegs_len hy
  intro d
  induction d with
  | zero =>
    intro j b m h hij
    refine Evn.step ?_
    have h1 : ¬ (j : Int) < (rs.length : Int) := by omega
    simp only [spec_ImproveRenaming.l1, if_neg h1, wrap_succ (show i < 4611686018427387904 by omega), impJ]
    exact hrest b m
  | succ d ih =>
    intro j b m h hij
    have h1 : (j : Int) < (rs.length : Int) := by omega
    have h2 : 0 ≤ (j : Int) := by omega
    have h3 : 0 ≤ (i : Int) := by omega
    have h4 : (i : Int) < (rs.length : Int) := by omega
    have hp2 := perm8_swap hp hi (show j < 8 by omega)
    have hw := wrap_succ (show j < 4611686018427387904 by omega)
    refine Evn.step ?_
    simp only [spec_ImproveRenaming.l1, if_pos h1, sp_l1Own rs (by omega), Option.bind_some, if_pos h2, if_pos h3, if_pos h4, rd, Int.toNat_natCast, hw]
    clear hw
    have hr := sp_l20Rename ys (swapL rs i j) hy hp2.1
    unfold swapL at hr
    simp only [hr, Option.bind_some]
    refine Evn.bind (sp_l20Score xs (ys.map (renL (swapL rs i j))) hx (ren_all8 hp2 hy) (by rw [List.length_map]; omega)) ?_
    unfold impJ better
    refine Evn.ite (fun c => ?_) (fun c => ?_)
    · rw [if_pos c]; exact ih (j + 1) _ _ (by omega) (by omega)
    · rw [if_neg c]; exact ih (j + 1) b m (by omega) (by omega)
theorem sp_Improve_l0 (xs ys : List S70) (rs : List Int) (hx : goodLegs xs = true) (hy : goodLegs ys = true) (hp : perm8 rs) :
    ∀ (d i : Nat) (b : List Int) (m : Int), i + d = 8 → Evn (fun k => spec_ImproveRenaming.l0 k xs ys rs b m (i : Int)) ((impI xs ys rs d i (b, m)).1, (impI xs ys rs d i (b, m)).2, true) := by
  have hl := hp.1
  intro d
  induction d with
  | zero =>
    intro i b m h
    refine Evn.step ?_
    have h1 : ¬ (i : Int) < (rs.length : Int) := by omega
    simp only [spec_ImproveRenaming.l0, if_neg h1, impI]
    exact Evn.done _
  | succ d ih =>
    intro i b m h
    have h1 : (i : Int) < (rs.length : Int) := by omega
    refine Evn.step ?_
    simp only [spec_ImproveRenaming.l0, if_pos h1, wrap_succ (show i < 4611686018427387904 by omega), impI]
    exact sp_Improve_l1 xs ys rs hx hy hp i (by omega) (fun p => ((impI xs ys rs d (i + 1) p).1, (impI xs ys rs d (i + 1) p).2, true)) (fun b m => ih (i + 1) b m (by omega)) (8 - (i + 1)) (i + 1) b m (by omega) (by omega)
theorem sp_ImproveRenaming (xs ys : List S70) (rs : List Int) (hx : xs.length ≤ 4194304) (hy : ys.length ≤ 4194304) (hr : rs.length ≤ 1048576) : Evn (fun k => spec_ImproveRenaming.f k xs ys rs) (impTs xs ys rs) := by
  unfold spec_ImproveRenaming.f impTs
  have no : ¬ (goodLegs xs = true ∧ goodLegs ys = true ∧ goodNs rs = true) → Evn (fun k => spec_ImproveRenaming.j0 k xs ys rs true) (if goodLegs xs = true ∧ goodLegs ys = true ∧ goodNs rs = true then ((impI xs ys rs 8 0 (rs, sc xs (ys.map (renL rs)))).1, (impI xs ys rs 8 0 (rs, sc xs (ys.map (renL rs)))).2, true) else ([], 0, false)) := by
    intro h
    rw [if_neg h]
    refine Evn.step ?_
    simp only [spec_ImproveRenaming.j0, if_true]
    exact Evn.done _
  refine Evn.bind (sp_l4Legs xs hx) ?_
  refine Evn.ite (fun c1 => ?_) (fun c1 => no (fun h => c1 h.1))
  refine Evn.bind (sp_l4Legs ys hy) ?_
  refine Evn.ite (fun c2 => ?_) (fun c2 => no (fun h => c2 h.2.1))
  refine Evn.bind (sp_l20Good rs hr) ?_
  by_cases c3 : goodNs rs = true
  · rw [if_pos ⟨c1, c2, c3⟩]
    have hp := perm8_good c3
    simp only [c3, Bool.not_true]
    refine Evn.step ?_
    simp only [spec_ImproveRenaming.j0, Bool.false_eq_true, if_false, sp_l20Rename ys rs c2 (goodNs_len c3), sp_l1Own rs (by omega), Option.bind_some]
    refine Evn.bind (sp_l20Score xs (ys.map (renL rs)) c1 (ren_all8 hp c2) (by rw [List.length_map]; exact hy)) ?_
    exact sp_Improve_l0 xs ys rs c1 c2 hp 8 0 rs _ (by omega)
  · have e : (!goodNs rs) = true := by rw [Bool.eq_false_iff.mpr c3]; rfl
    simp only [e]
    exact no (fun h => c3 h.2.2)

theorem tm360 (a : Int) : 0 ≤ Int.tmod (wrap64 (Int.tmod a 360 + 360)) 360 ∧ Int.tmod (wrap64 (Int.tmod a 360 + 360)) 360 < 360 := by
  have h1 : -360 < Int.tmod a 360 := Int.lt_tmod_of_pos a (by decide)
  have h2 : Int.tmod a 360 < 360 := Int.tmod_lt_of_pos a (by decide)
  rw [wrap_id (by omega) (by omega)]
  exact ⟨Int.tmod_nonneg 360 (by omega), Int.tmod_lt_of_pos _ (by decide)⟩
theorem ok_sine (a : Int) : ∃ r, spec_l2Sine.f a = some r := by
  obtain ⟨d0, d1⟩ := tm360 a
  unfold spec_l2Sine.f
  generalize Int.tmod (wrap64 (Int.tmod a 360 + 360)) 360 = d at d0 d1
  obtain ⟨T, hT, hl⟩ : ∃ T, spec_l2Table.f = some T ∧ T.length = 91 := ⟨_, rfl, rfl⟩
  simp only [hT, Option.bind_some, hl]
  by_cases c1 : d ≤ 90
  · rw [if_pos c1, if_pos d0, if_pos (show d < ((91 : Nat) : Int) by omega)]; exact ⟨_, rfl⟩
  rw [if_neg c1]
  by_cases c2 : d ≤ 180
  · rw [if_pos c2, wrap_id (x := 180 - d) (by omega) (by omega), if_pos (show 0 ≤ 180 - d by omega), if_pos (show 180 - d < ((91 : Nat) : Int) by omega)]; exact ⟨_, rfl⟩
  rw [if_neg c2]
  by_cases c3 : d ≤ 270
  · rw [if_pos c3, wrap_id (x := d - 180) (by omega) (by omega), if_pos (show 0 ≤ d - 180 by omega), if_pos (show d - 180 < ((91 : Nat) : Int) by omega)]; exact ⟨_, rfl⟩
  · rw [if_neg c3, wrap_id (x := 360 - d) (by omega) (by omega), if_pos (show 0 ≤ 360 - d by omega), if_pos (show 360 - d < ((91 : Nat) : Int) by omega)]; exact ⟨_, rfl⟩

theorem ok_cosine (a : Int) : ∃ r, spec_l2Cosine.f a = some r := by
  unfold spec_l2Cosine.f
  obtain ⟨r, hr⟩ := ok_sine (wrap64 (a + 90))
  rw [hr]
  exact ⟨r, rfl⟩

theorem ok_div (a : Int) : ∃ r, spec_l2Div.f a 1000 = some r := by
  unfold spec_l2Div.f
  have h : ¬ wrap64 (2 * 1000) = 0 := by rw [wrap_id (by omega) (by omega)]; omega
  by_cases c : a < 0
  · rw [if_pos c, if_neg h]; exact ⟨_, rfl⟩
  · rw [if_neg c, if_neg h]; exact ⟨_, rfl⟩
theorem ok_shift (a b c d e : Int) : ∃ r, spec_l4Shift.f a b c d e = some r := by
  unfold spec_l4Shift.f
  obtain ⟨r1, h1⟩ := ok_cosine e
  obtain ⟨r2, h2⟩ := ok_div (wrap64 (c * r1))
  obtain ⟨r3, h3⟩ := ok_sine d
  obtain ⟨r4, h4⟩ := ok_div (wrap64 (r2 * r3))
  obtain ⟨r5, h5⟩ := ok_cosine d
  obtain ⟨r6, h6⟩ := ok_div (wrap64 (r2 * r5))
  obtain ⟨r7, h7⟩ := ok_sine e
  obtain ⟨r8, h8⟩ := ok_div (wrap64 (c * r7))
  simp only [h1, h2, h3, h4, h5, h6, h7, h8, Option.bind_some]
  exact ⟨_, rfl⟩
theorem ok_plus (a b c d e f g : Int) : ∃ r, spec_l4Plus.f a b c d e f g = some r := ⟨_, rfl⟩

/-! That something comes out, whatever it is. -/
theorem Ex.ite {α : Type} {c : Prop} [Decidable c] {g g' : Nat → Option α} (h : c → ∃ r, Evn g r) (h' : ¬ c → ∃ r, Evn g' r) : ∃ r, Evn (fun k => if c then g k else g' k) r := by
  by_cases hc : c
  · simp only [if_pos hc]; exact h hc
  · simp only [if_neg hc]; exact h' hc
theorem Ex.bind {α β : Type} {g : Nat → Option α} {f : Nat → α → Option β} (h : ∃ a, Evn g a) (h' : ∀ a, ∃ r, Evn (fun k => f k a) r) : ∃ r, Evn (fun k => (g k).bind (f k)) r := by
  obtain ⟨a, ha⟩ := h
  obtain ⟨r, hr⟩ := h' a
  exact ⟨r, Evn.bind ha hr⟩
theorem Ex.step {α : Type} {g : Nat → Option α} (h : ∃ r, Evn (fun k => g (k + 1)) r) : ∃ r, Evn g r := by
  obtain ⟨r, hr⟩ := h
  exact ⟨r, Evn.step hr⟩

theorem ok_long (a : Int) : ∃ b, spec_l2Long.f a = some b := by
  unfold spec_l2Long.f
  rw [sp_l1In, Option.bind_some]
  exact ⟨_, rfl⟩
theorem ok_LengthOf_l0 (S : Int) : ∀ (D : Nat) (lo hi : Int), hi - lo ≤ (D : Int) → 0 ≤ lo → lo ≤ 200000 → -1 ≤ hi → hi ≤ 200000 → ∃ r, Evn (fun k => spec_LengthOf.l0 k S lo hi) r := by
  intro D
  induction D with
  | zero =>
    intro lo hi h _ _ _ _
    refine ⟨(lo, true), Evn.step ?_⟩
    simp only [spec_LengthOf.l0, if_neg (show ¬ lo < hi by omega)]
    exact Evn.done _
  | succ D ih =>
    intro lo hi h h0 h1 h2 h3
    by_cases c : lo < hi
    · have e : wrap64 (Int.tdiv (wrap64 (wrap64 (lo + hi) + 1)) 2) = (lo + hi + 1) / 2 := by
        rw [wrap_id (x := lo + hi) (by omega) (by omega), wrap_id (x := lo + hi + 1) (by omega) (by omega), Int.tdiv_eq_ediv_of_nonneg (by omega), wrap_id (by omega) (by omega)]
      have e2 : wrap64 ((lo + hi + 1) / 2 - 1) = (lo + hi + 1) / 2 - 1 := wrap_id (by omega) (by omega)
      obtain ⟨r1, hr1⟩ := ih ((lo + hi + 1) / 2) hi (by omega) (by omega) (by omega) (by omega) (by omega)
      obtain ⟨r2, hr2⟩ := ih lo ((lo + hi + 1) / 2 - 1) (by omega) (by omega) (by omega) (by omega) (by omega)
      refine Ex.step ?_
      simp only [spec_LengthOf.l0, if_pos c, e, e2]
      exact Ex.ite (fun _ => ⟨r1, hr1⟩) (fun _ => ⟨r2, hr2⟩)
    · refine ⟨(lo, true), Evn.step ?_⟩
      simp only [spec_LengthOf.l0, if_neg c]
      exact Evn.done _
theorem ok_LengthOf (a b c : Int) : ∃ r, Evn (fun k => spec_LengthOf.f k a b c) r := by
  have j0 : ∀ q : Bool, ∃ r, Evn (fun k => spec_LengthOf.j0 k a b c q) r := by
    intro q
    refine Ex.step ?_
    simp only [spec_LengthOf.j0]
    exact Ex.ite (fun _ => ⟨_, Evn.done _⟩) (fun _ => ok_LengthOf_l0 _ 200000 0 200000 (by decide) (by decide) (by decide) (by decide) (by decide))
  unfold spec_LengthOf.f
  obtain ⟨x, hx⟩ := ok_long a
  obtain ⟨y, hy⟩ := ok_long b
  obtain ⟨z, hz⟩ := ok_long c
  simp only [hx, hy, hz, Option.bind_some]
  exact Ex.ite (fun _ => Ex.ite (fun _ => j0 _) (fun _ => j0 _)) (fun _ => j0 _)

theorem ok_BearingTo_l0 (a b : Int) : ∀ (D : Nat) (best x : Int), x + (D : Int) = 360 → 1 ≤ x → ∃ r, Evn (fun k => spec_BearingTo.l0 k a b best x) r := by
  intro D
  induction D with
  | zero =>
    intro best x h _
    refine ⟨(best, true), Evn.step ?_⟩
    simp only [spec_BearingTo.l0, if_neg (show ¬ x < 360 by omega)]
    exact Evn.done _
  | succ D ih =>
    intro best x h h0
    have hw : wrap64 (x + 1) = x + 1 := wrap_id (by omega) (by omega)
    obtain ⟨r1, h1⟩ := ok_sine x
    obtain ⟨r2, h2⟩ := ok_cosine x
    obtain ⟨r3, h3⟩ := ok_sine best
    obtain ⟨r4, h4⟩ := ok_cosine best
    refine Ex.step ?_
    simp only [spec_BearingTo.l0, if_pos (show x < 360 by omega), h1, h2, h3, h4, Option.bind_some, hw]
    clear hw
    exact Ex.ite (fun _ => ih x (x + 1) (by omega) (by omega)) (fun _ => ih best (x + 1) (by omega) (by omega))
theorem ok_BearingTo (a b : Int) : ∃ r, Evn (fun k => spec_BearingTo.f k a b) r := by
  have j0 : ∀ q : Bool, ∃ r, Evn (fun k => spec_BearingTo.j0 k a b q) r := by
    intro q
    refine Ex.step ?_
    simp only [spec_BearingTo.j0]
    exact Ex.ite (fun _ => ⟨_, Evn.done _⟩) (fun _ => ok_BearingTo_l0 a b 359 0 1 (by decide) (by decide))
  unfold spec_BearingTo.f
  obtain ⟨x, hx⟩ := ok_long a
  obtain ⟨y, hy⟩ := ok_long b
  simp only [hx, hy, Option.bind_some]
  exact Ex.ite (fun _ => Ex.ite (fun _ => Ex.ite (fun _ => j0 _) (fun _ => j0 _)) (fun _ => j0 _)) (fun _ => j0 _)

theorem ok_SlopeTo_l1 (a b x : Int) (hr : ∀ best, ∃ r, Evn (fun k => spec_SlopeTo.l0 k a b best (wrap64 (x + 1))) r) : ∀ (D : Nat) (best y : Int), y = 2 * (D : Int) - 3 → D ≤ 2 → ∃ r, Evn (fun k => spec_SlopeTo.l1 k a b best x y) r := by
  intro D
  induction D with
  | zero =>
    intro best y h _
    refine Ex.step ?_
    simp only [spec_SlopeTo.l1, if_neg (show ¬ y ≥ (-1) by omega)]
    exact hr best
  | succ D ih =>
    intro best y h h0
    have hw : wrap64 (y - 2) = y - 2 := wrap_id (by omega) (by omega)
    obtain ⟨r1, h1⟩ := ok_cosine x
    obtain ⟨r2, h2⟩ := ok_sine (wrap64 (y * x))
    obtain ⟨r3, h3⟩ := ok_cosine best
    obtain ⟨r4, h4⟩ := ok_sine best
    refine Ex.step ?_
    simp only [spec_SlopeTo.l1, if_pos (show y ≥ (-1) by omega), h1, h2, h3, h4, Option.bind_some, hw]
    clear hw
    exact Ex.ite (fun _ => ih _ (y - 2) (by omega) (by omega)) (fun _ => ih best (y - 2) (by omega) (by omega))
theorem ok_SlopeTo_l0 (a b : Int) : ∀ (D : Nat) (best x : Int), x + (D : Int) = 91 → 1 ≤ x → ∃ r, Evn (fun k => spec_SlopeTo.l0 k a b best x) r := by
  intro D
  induction D with
  | zero =>
    intro best x h _
    refine ⟨(best, true), Evn.step ?_⟩
    simp only [spec_SlopeTo.l0, if_neg (show ¬ x ≤ 90 by omega)]
    exact Evn.done _
  | succ D ih =>
    intro best x h h0
    have hn : ∀ best, ∃ r, Evn (fun k => spec_SlopeTo.l0 k a b best (wrap64 (x + 1))) r := by
      intro best
      rw [wrap_id (x := x + 1) (by omega) (by omega)]
      exact ih best (x + 1) (by omega) (by omega)
    refine Ex.step ?_
    simp only [spec_SlopeTo.l0, if_pos (show x ≤ 90 by omega)]
    exact ok_SlopeTo_l1 a b x hn 2 best 1 (by decide) (by decide)
theorem ok_SlopeTo (a b : Int) : ∃ r, Evn (fun k => spec_SlopeTo.f k a b) r := by
  have j0 : ∀ q : Bool, ∃ r, Evn (fun k => spec_SlopeTo.j0 k a b q) r := by
    intro q
    refine Ex.step ?_
    simp only [spec_SlopeTo.j0]
    exact Ex.ite (fun _ => ⟨_, Evn.done _⟩) (fun _ => ok_SlopeTo_l0 a b 90 0 1 (by decide) (by decide))
  unfold spec_SlopeTo.f
  obtain ⟨y, hy⟩ := ok_long b
  simp only [sp_l1In, hy, Option.bind_some]
  exact Ex.ite (fun _ => Ex.ite (fun _ => Ex.ite (fun _ => j0 _) (fun _ => j0 _)) (fun _ => j0 _)) (fun _ => j0 _)

/-! The draws: a cursor over bytes. -/
def Byts (l : List Int) : Prop := ∀ x ∈ l, 0 ≤ x ∧ x ≤ 255
theorem bits255 (x : Int) : 0 ≤ Go.bits .and .u64 x 255 ∧ Go.bits .and .u64 x 255 ≤ 255 := by
  have h : (BitVec.ofInt 64 x &&& BitVec.ofInt 64 255).toNat ≤ 255 := by rw [BitVec.toNat_and]; exact Nat.le_trans Nat.and_le_right (by decide)
  have e : Go.bits .and .u64 x 255 = IntKind.u64.wrap ((BitVec.ofInt 64 x &&& BitVec.ofInt 64 255).toNat : Int) := rfl
  rw [e, IntKind.wrap_u64]
  omega
theorem Byts.at_ {l : List Int} (h : Byts l) (p : Int) : 0 ≤ rd l p ∧ rd l p ≤ 255 := by
  unfold rd
  by_cases g : p.toNat < l.length
  · rw [List.getD_eq_getElem?_getD, List.getElem?_eq_getElem g, Option.getD_some]
    exact h _ (List.getElem_mem g)
  · rw [List.getD_eq_getElem?_getD, List.getElem?_eq_none (by omega), Option.getD_none]
    omega
theorem dw_next {l : List Int} {p : Int} (hl : Byts l) (h0 : 0 ≤ p) (h1 : p ≤ 2000000000) (s : Int) : ∃ r, spec_l1Cur_next.f l p s = some r ∧ 0 ≤ r.1 ∧ r.1 ≤ 255 ∧ r.2.1 = p + 1 := by
  have hr := hl.at_ p
  have e : wrap64 (rd l p) = rd l p := wrap_id (by omega) (by omega)
  have e2 : wrap64 (p + 1) = p + 1 := wrap_id (by omega) (by omega)
  unfold spec_l1Cur_next.f
  rw [e, e2]
  split
  · (try rw [if_pos h0])
    split
    · exact ⟨_, rfl, hr.1, hr.2, rfl⟩
    · refine ⟨_, rfl, ?_, ?_, rfl⟩
      · dsimp only; rw [wrap_id (by have := bits255; exact Int.le_trans (by decide) (this _).1) (Int.le_trans (bits255 _).2 (by decide))]; exact (bits255 _).1
      · dsimp only; rw [wrap_id (by have := bits255; exact Int.le_trans (by decide) (this _).1) (Int.le_trans (bits255 _).2 (by decide))]; exact (bits255 _).2
  · split
    · exact ⟨_, rfl, by dsimp only; omega, by dsimp only; omega, rfl⟩
    · refine ⟨_, rfl, ?_, ?_, rfl⟩
      · dsimp only; rw [wrap_id (by have := bits255; exact Int.le_trans (by decide) (this _).1) (Int.le_trans (bits255 _).2 (by decide))]; exact (bits255 _).1
      · dsimp only; rw [wrap_id (by have := bits255; exact Int.le_trans (by decide) (this _).1) (Int.le_trans (bits255 _).2 (by decide))]; exact (bits255 _).2

theorem tmod_in {x n : Int} (hx : 0 ≤ x) (hn : 1 < n) : 0 ≤ Int.tmod x n ∧ Int.tmod x n < n := by
  rw [Int.tmod_eq_emod_of_nonneg hx]
  exact ⟨Int.emod_nonneg _ (by omega), Int.emod_lt_of_pos _ (by omega)⟩
theorem dw_pick {l : List Int} {p : Int} (hl : Byts l) (h0 : 0 ≤ p) (h1 : p ≤ 1000000000) (s n : Int) : ∃ r, spec_l1Cur_pick.f l p s n = some r ∧ 0 ≤ r.1 ∧ (r.1 < n ∨ r.1 = 0) ∧ p ≤ r.2.1 ∧ r.2.1 ≤ p + 2 := by
  unfold spec_l1Cur_pick.f
  by_cases c : n ≤ 1
  · rw [if_pos c]
    exact ⟨_, rfl, by dsimp only; omega, Or.inr rfl, Int.le_refl _, by dsimp only; omega⟩
  · rw [if_neg c]
    obtain ⟨a, ha, a0, a1, a2⟩ := dw_next hl h0 (by omega) s
    rw [ha, Option.bind_some]
    split
    · obtain ⟨b, hb, b0, b1, b2⟩ := dw_next hl (p := a.2.1) (by omega) (by omega) a.2.2
      rw [hb, Option.bind_some, if_neg (by omega)]
      have t := tmod_in (x := wrap64 (wrap64 (a.1 * 256) + b.1)) (n := n) (by rw [wrap_id (x := a.1 * 256) (by omega) (by omega), wrap_id (by omega) (by omega)]; omega) (by omega)
      exact ⟨_, rfl, t.1, Or.inl t.2, by dsimp only; omega, by dsimp only; omega⟩
    · rw [if_neg (by omega)]
      have t := tmod_in (x := a.1) (n := n) a0 (by omega)
      exact ⟨_, rfl, t.1, Or.inl t.2, by dsimp only; omega, by dsimp only; omega⟩

theorem dw_one {l : List Int} {p : Int} (hl : Byts l) (h0 : 0 ≤ p) (h1 : p ≤ 1000000000) (s n : Int) : ∃ r, spec_l1Cur_one.f l p s n = some r ∧ p ≤ r.2.1 ∧ r.2.1 ≤ p + 2 := by
  unfold spec_l1Cur_one.f
  obtain ⟨a, ha, a0, a1, a2, a3⟩ := dw_pick hl h0 h1 s n
  rw [ha, Option.bind_some]
  exact ⟨_, rfl, a2, a3⟩

theorem rd_mem {L : List Int} {i : Int} (h0 : 0 ≤ i) (h1 : i < L.length) : rd L i ∈ L := by
  unfold rd
  rw [List.getD_eq_getElem?_getD, List.getElem?_eq_getElem (by omega), Option.getD_some]
  exact List.getElem_mem _
theorem dw_among {l : List Int} {p : Int} (hl : Byts l) (h0 : 0 ≤ p) (h1 : p ≤ 1000000000) (s : Int) (L : List Int) (hL : 0 < L.length) : ∃ r, spec_l1Cur_among.f l p s L = some r ∧ r.1 ∈ L ∧ p ≤ r.2.1 ∧ r.2.1 ≤ p + 2 := by
  unfold spec_l1Cur_among.f
  obtain ⟨a, ha, a0, a1, a2, a3⟩ := dw_pick hl h0 h1 s (L.length : Int)
  have a4 : a.1 < (L.length : Int) := by omega
  rw [ha, Option.bind_some, if_pos a0, if_pos a4]
  exact ⟨_, rfl, rd_mem a0 a4, a2, a3⟩

theorem dw_leg {l : List Int} {p : Int} (hl : Byts l) (h0 : 0 ≤ p) (h1 : p ≤ 900000000) (s : Int) : ∃ r, Evn (fun k => spec_l1Cur_leg.f k l p s) r ∧ p ≤ r.2.2.2.2.2.1 ∧ r.2.2.2.2.2.1 ≤ p + 14 := by
  have go : ∀ (q t a b c d e : Int), p ≤ q → q ≤ p + 10 → ∃ r, Evn (fun k => spec_l1Cur_leg.j0 k l q t a b c d e) r ∧ p ≤ r.2.2.2.2.2.1 ∧ r.2.2.2.2.2.1 ≤ p + 14 := by
    intro q t a b c d e hq hq2
    obtain ⟨u, hu, u0, u1, u2, u3⟩ := dw_pick hl (p := q) (by omega) (by omega) t 40
    by_cases c0 : u.1 = 0
    · obtain ⟨v, hv, _, v2, v3⟩ := dw_among hl (p := u.2.1) (by omega) (by omega) u.2.2 [-1, 7, 8, a] (by simp)
      refine ⟨(a, v.1, c, d, e, v.2.1, v.2.2), Evn.step ?_, by dsimp only; omega, by dsimp only; omega⟩
      simp only [spec_l1Cur_leg.j0, hu, Option.bind_some, if_pos c0, hv]
      exact Evn.done _
    by_cases c1 : u.1 = 1
    · obtain ⟨v, hv, _, v2, v3⟩ := dw_among hl (p := u.2.1) (by omega) (by omega) u.2.2 [0, 501] (by simp)
      refine ⟨(a, b, v.1, d, e, v.2.1, v.2.2), Evn.step ?_, by dsimp only; omega, by dsimp only; omega⟩
      simp only [spec_l1Cur_leg.j0, hu, Option.bind_some, if_neg c0, if_pos c1, hv]
      exact Evn.done _
    by_cases c2 : u.1 = 2
    · obtain ⟨v, hv, _, v2, v3⟩ := dw_among hl (p := u.2.1) (by omega) (by omega) u.2.2 [-1, 360] (by simp)
      refine ⟨(a, b, c, v.1, e, v.2.1, v.2.2), Evn.step ?_, by dsimp only; omega, by dsimp only; omega⟩
      simp only [spec_l1Cur_leg.j0, hu, Option.bind_some, if_neg c0, if_neg c1, if_pos c2, hv]
      exact Evn.done _
    by_cases c3 : u.1 = 3
    · obtain ⟨v, hv, _, v2, v3⟩ := dw_among hl (p := u.2.1) (by omega) (by omega) u.2.2 [-91, 91] (by simp)
      refine ⟨(a, b, c, d, v.1, v.2.1, v.2.2), Evn.step ?_, by dsimp only; omega, by dsimp only; omega⟩
      simp only [spec_l1Cur_leg.j0, hu, Option.bind_some, if_neg c0, if_neg c1, if_neg c2, if_pos c3, hv]
      exact Evn.done _
    refine ⟨(a, b, c, d, e, u.2.1, u.2.2), Evn.step ?_, by dsimp only; omega, by dsimp only; omega⟩
    simp only [spec_l1Cur_leg.j0, hu, Option.bind_some, if_neg c0, if_neg c1, if_neg c2, if_neg c3]
    exact Evn.done _
  unfold spec_l1Cur_leg.f
  obtain ⟨a, ha, a0, a1, a2, a3⟩ := dw_pick hl h0 (by omega) s 6
  obtain ⟨b, hb, b0, b1, b2, b3⟩ := dw_pick hl (p := a.2.1) (by omega) (by omega) a.2.2 6
  obtain ⟨c, hc, _, c2, c3⟩ := dw_among hl (p := b.2.1) (by omega) (by omega) b.2.2 [1, 10, 50, 100, 120, 250, 500] (by simp)
  obtain ⟨d, hd, _, d2, d3⟩ := dw_among hl (p := c.2.1) (by omega) (by omega) c.2.2 [0, 45, 90, 135, 180, 270, 359, 17, 222] (by simp)
  obtain ⟨e, he, _, e2, e3⟩ := dw_among hl (p := d.2.1) (by omega) (by omega) d.2.2 [0, 0, 0, 5, (-5), 30, (-45), 90, (-90)] (by simp)
  simp only [ha, hb, hc, hd, he, Option.bind_some]
  by_cases cc : a.1 = b.1
  · simp only [if_pos cc]
    exact go _ _ _ _ _ _ _ (by omega) (by omega)
  · simp only [if_neg cc]
    exact go _ _ _ _ _ _ _ (by omega) (by omega)

theorem dw_cave_l1 {l : List Int} (hl : Byts l) (n : Int) (n2 : 2 ≤ n) (n6 : n ≤ 6) (ps : List S103) (hps : (ps.length : Int) = n) : ∀ (D : Nat) (zs : List S70) (p s : Int), 1 ≤ zs.length → zs.length + D ≤ 12 → 0 ≤ p → p ≤ 800000000 - 20 * (D : Int) → ∃ r, Evn (fun k => spec_l1Cur_cave.l1 k zs n ps (D : Int) l p s) r ∧ r.1.length ≤ 13 ∧ p ≤ r.2.1 ∧ r.2.1 ≤ p + 20 * (D : Int) + 20 := by
  intro D
  induction D with
  | zero =>
    intro zs p s hz hz2 h0 h1
    have hn : ¬ ((0 : Nat) : Int) > 0 := by decide
    obtain ⟨u, hu, u0, u1, u2, u3⟩ := dw_pick hl h0 (by omega) s 24
    by_cases c0 : u.1 = 0
    · obtain ⟨v, hv, v1, v2⟩ := dw_leg hl (p := u.2.1) (by omega) (by omega) u.2.2
      have hq : 0 < (zs.length : Int) := by omega
      refine ⟨(zs.set (0 : Int).toNat (⟨v.1, v.2.1, v.2.2.1, v.2.2.2.1, v.2.2.2.2.1⟩ : S70), v.2.2.2.2.2.1, v.2.2.2.2.2.2), Evn.step ?_, by dsimp only; rw [List.length_set]; omega, by dsimp only; omega, by dsimp only; omega⟩
      simp only [spec_l1Cur_cave.l1, if_neg hn, hu, Option.bind_some, if_pos c0]
      refine Evn.bind hv ?_
      simp only [if_pos hq]
      exact Evn.done _
    by_cases c1 : u.1 = 1
    · obtain ⟨v, hv, v1, v2⟩ := dw_leg hl (p := u.2.1) (by omega) (by omega) u.2.2
      have hq : zs.length < 3518437208883 := by omega
      refine ⟨(zs ++ [(⟨v.1, v.2.1, v.2.2.1, v.2.2.2.1, v.2.2.2.2.1⟩ : S70)], v.2.2.2.2.2.1, v.2.2.2.2.2.2), Evn.step ?_, by dsimp only; rw [List.length_append, List.length_singleton]; omega, by dsimp only; omega, by dsimp only; omega⟩
      simp only [spec_l1Cur_cave.l1, if_neg hn, hu, Option.bind_some, if_neg c0, if_pos c1]
      refine Evn.bind hv ?_
      simp only [if_pos hq]
      exact Evn.done _
    by_cases c2 : u.1 = 2
    · have hq : 1 ≤ (zs.length : Int) := by omega
      have hq2 : ([] : List S70).length + (zs.drop 1).length < 3518437208883 := by simp only [List.length_nil, List.length_drop]; omega
      refine ⟨(zs.drop 1, u.2.1, u.2.2), Evn.step ?_, by dsimp only; rw [List.length_drop]; omega, by dsimp only; omega, by dsimp only; omega⟩
      simp only [spec_l1Cur_cave.l1, if_neg hn, hu, Option.bind_some, if_neg c0, if_neg c1, if_pos c2, if_pos hq, if_pos hq2, List.nil_append]
      exact Evn.done _
    · refine ⟨(zs, u.2.1, u.2.2), Evn.step ?_, by dsimp only; omega, by dsimp only; omega, by dsimp only; omega⟩
      simp only [spec_l1Cur_cave.l1, if_neg hn, hu, Option.bind_some, if_neg c0, if_neg c1, if_neg c2]
      exact Evn.done _
  | succ D ih =>
    intro zs p s hz hz2 h0 h1
    have hp : ((D + 1 : Nat) : Int) > 0 := by omega
    obtain ⟨u, hu, u0, u1, u2, u3⟩ := dw_pick hl h0 (by omega) s n
    obtain ⟨v, hv, v0, v1, v2, v3⟩ := dw_pick hl (p := u.2.1) (by omega) (by omega) u.2.2 n
    have u4 : u.1 < (ps.length : Int) := by omega
    have v4 : v.1 < (ps.length : Int) := by omega
    obtain ⟨d, hd⟩ := ok_plus (rd_T103 ps v.1).f0 (rd_T103 ps v.1).f1 (rd_T103 ps v.1).f2 (rd_T103 ps u.1).f0 (rd_T103 ps u.1).f1 (rd_T103 ps u.1).f2 (-1)
    obtain ⟨a, ha⟩ := ok_LengthOf d.1 d.2.1 0
    obtain ⟨b, hb⟩ := ok_LengthOf d.1 d.2.1 d.2.2
    have tail : ∀ (q : Bool) (x9 x10 x12 x14 : Int), ∃ r, Evn (fun k => spec_l1Cur_cave.j2 k zs n ps ((D + 1 : Nat) : Int) x9 x10 x12 x14 q l v.2.1 v.2.2 d.1 d.2.1 d.2.2) r ∧ r.1.length ≤ 13 ∧ p ≤ r.2.1 ∧ r.2.1 ≤ p + 20 * ((D + 1 : Nat) : Int) + 20 := by
      intro q x9 x10 x12 x14
      cases q with
      | true =>
        obtain ⟨r, hr, r1, r2, r3⟩ := ih zs v.2.1 v.2.2 hz (by omega) (by omega) (by omega)
        refine ⟨r, Evn.step ?_, r1, by omega, by omega⟩
        simp only [spec_l1Cur_cave.j2, if_true, wrap_pred (show D < 4611686018427387904 by omega)]
        exact hr
      | false =>
        obtain ⟨e, he⟩ := ok_BearingTo d.1 d.2.1
        obtain ⟨f, hf⟩ := ok_SlopeTo x12 d.2.2
        obtain ⟨g, hg, _, _, g2, g3⟩ := dw_pick hl (p := v.2.1) (by omega) (by omega) v.2.2 4
        obtain ⟨h, hh, _, _, h2, h3⟩ := dw_pick hl (p := g.2.1) (by omega) (by omega) g.2.2 3
        have hq : zs.length < 3518437208883 := by omega
        obtain ⟨r, hr, r1, r2, r3⟩ := ih (zs ++ [⟨x9, x10, wrap64 (x14 + g.1), Int.tmod (wrap64 (e.1 + h.1)) 360, f.1⟩]) h.2.1 h.2.2 (by rw [List.length_append, List.length_singleton]; omega) (by rw [List.length_append, List.length_singleton]; omega) (by omega) (by omega)
        refine ⟨r, Evn.step ?_, r1, by omega, by omega⟩
        simp only [spec_l1Cur_cave.j2, Bool.false_eq_true, if_false, wrap_pred (show D < 4611686018427387904 by omega)]
        refine Evn.bind he (Evn.bind hf ?_)
        simp only [hg, hh, Option.bind_some, if_pos hq]
        exact hr
    by_cases c : u.1 = v.1
    · obtain ⟨r, hr, r1⟩ := tail true u.1 v.1 a.1 b.1
      refine ⟨r, Evn.step ?_, r1⟩
      simp only [spec_l1Cur_cave.l1, if_pos hp, hu, hv, Option.bind_some, if_pos v0, if_pos v4, if_pos u0, if_pos u4, hd]
      refine Evn.bind ha (Evn.bind hb ?_)
      simp only [if_pos c]
      exact hr
    · obtain ⟨r, hr, r1⟩ := tail (!decide (4 ≤ wrap64 (b.1 + 3) ∧ wrap64 (b.1 + 3) ≤ 500)) u.1 v.1 a.1 b.1
      refine ⟨r, Evn.step ?_, r1⟩
      simp only [spec_l1Cur_cave.l1, if_pos hp, hu, hv, Option.bind_some, if_pos v0, if_pos v4, if_pos u0, if_pos u4, hd]
      refine Evn.bind ha (Evn.bind hb ?_)
      simp only [if_neg c, sp_l1In, Option.bind_some]
      exact hr
theorem dw_cave_l0 {l : List Int} (hl : Byts l) (n : Int) (n2 : 2 ≤ n) (n6 : n ≤ 6) : ∀ (D : Nat) (zs : List S70) (ps : List S103) (x p s : Int), x + (D : Int) = n → (ps.length : Int) = x → (zs.length : Int) + 1 = x → 1 ≤ x → 0 ≤ p → p ≤ 700000000 - 20 * (D : Int) → ∃ r, Evn (fun k => spec_l1Cur_cave.l0 k zs n ps x l p s) r ∧ r.1.length ≤ 13 ∧ p ≤ r.2.1 ∧ r.2.1 ≤ p + 20 * (D : Int) + 100 := by
  intro D
  induction D with
  | zero =>
    intro zs ps x p s hx hps hzs h1 h0 hp
    obtain ⟨u, hu, u0, u1, u2, u3⟩ := dw_pick hl h0 (by omega) s 4
    obtain ⟨E, hE⟩ : ∃ E : Nat, u.1 = E := ⟨u.1.toNat, by omega⟩
    obtain ⟨r, hr, r1, r2, r3⟩ := dw_cave_l1 hl n n2 n6 ps (by omega) E zs u.2.1 u.2.2 (by omega) (by omega) (by omega) (by omega)
    refine ⟨r, Evn.step ?_, r1, by omega, by omega⟩
    simp only [spec_l1Cur_cave.l0, if_neg (show ¬ x < n by omega), hu, Option.bind_some, hE]
    exact hr
  | succ D ih =>
    intro zs ps x p s hx hps hzs h1 h0 hp
    obtain ⟨u, hu, u0, u1, u2, u3⟩ := dw_pick hl h0 (by omega) s x
    obtain ⟨a, ha, _, a2, a3⟩ := dw_among hl (p := u.2.1) (by omega) (by omega) u.2.2 [10, 50, 100, 120, 250] (by simp)
    obtain ⟨b, hb, _, b2, b3⟩ := dw_among hl (p := a.2.1) (by omega) (by omega) a.2.2 [0, 45, 90, 135, 180, 270, 300] (by simp)
    obtain ⟨c, hc, _, c2, c3⟩ := dw_among hl (p := b.2.1) (by omega) (by omega) b.2.2 [0, 0, (-10), (-30), 20, (-90)] (by simp)
    obtain ⟨d, hd⟩ := ok_shift u.1 x a.1 b.1 c.1
    obtain ⟨e, he⟩ := ok_plus (rd_T103 ps u.1).f0 (rd_T103 ps u.1).f1 (rd_T103 ps u.1).f2 d.1 d.2.1 d.2.2 1
    obtain ⟨o, ho, o2, o3⟩ := dw_one hl (p := c.2.1) (by omega) (by omega) c.2.2 4
    obtain ⟨v, hv⟩ : ∃ v, spec_l4Reverse.f u.1 x a.1 b.1 c.1 = some v := ⟨_, rfl⟩
    have u4 : u.1 < (ps.length : Int) := by omega
    have q1 : ps.length < 5864062014805 := by omega
    have q2 : zs.length < 3518437208883 := by omega
    have hxn : x < n := by omega
    have hpl : ((ps ++ [(⟨e.1, e.2.1, e.2.2⟩ : S103)]).length : Int) = x + 1 := by rw [List.length_append, List.length_singleton]; omega
    have hzl : ∀ y : S70, ((zs ++ [y]).length : Int) + 1 = x + 1 := by intro y; rw [List.length_append, List.length_singleton]; omega
    have hw : wrap64 (x + 1) = x + 1 := wrap_id (by omega) (by omega)
    by_cases co : o.1 = true
    · obtain ⟨r, hr, r1, r2, r3⟩ := ih (zs ++ [⟨v.1, v.2.1, v.2.2.1, v.2.2.2.1, v.2.2.2.2⟩]) (ps ++ [⟨e.1, e.2.1, e.2.2⟩]) (x + 1) o.2.1 o.2.2 (by clear hw; omega) hpl (hzl _) (by clear hw; omega) (by clear hw; omega) (by clear hw; omega)
      refine ⟨r, Evn.step ?_, r1, by clear hw; omega, by clear hw; omega⟩
      simp only [spec_l1Cur_cave.l0, if_pos hxn, hu, ha, hb, hc, Option.bind_some, if_pos u0, if_pos u4, hd, he, if_pos q1, ho, if_pos co, hv, if_pos q2, hw]
      exact hr
    · obtain ⟨r, hr, r1, r2, r3⟩ := ih (zs ++ [⟨u.1, x, a.1, b.1, c.1⟩]) (ps ++ [⟨e.1, e.2.1, e.2.2⟩]) (x + 1) o.2.1 o.2.2 (by clear hw; omega) hpl (hzl _) (by clear hw; omega) (by clear hw; omega) (by clear hw; omega)
      refine ⟨r, Evn.step ?_, r1, by clear hw; omega, by clear hw; omega⟩
      simp only [spec_l1Cur_cave.l0, if_pos hxn, hu, ha, hb, hc, Option.bind_some, if_pos u0, if_pos u4, hd, he, if_pos q1, ho, if_neg co, if_pos q2, hw]
      exact hr
theorem dw_cave {l : List Int} {p : Int} (hl : Byts l) (h0 : 0 ≤ p) (h1 : p ≤ 600000000) (s : Int) : ∃ r, Evn (fun k => spec_l1Cur_cave.f k l p s) r ∧ r.1.length ≤ 13 ∧ p ≤ r.2.1 ∧ r.2.1 ≤ p + 300 := by
  unfold spec_l1Cur_cave.f
  obtain ⟨a, ha, a0, a1, a2, a3⟩ := dw_pick hl h0 (by omega) s 5
  have hw : wrap64 (2 + a.1) = 2 + a.1 := wrap_id (by omega) (by omega)
  simp only [ha, Option.bind_some, hw]
  clear hw
  obtain ⟨r, hr, r1, r2, r3⟩ := dw_cave_l0 hl (2 + a.1) (by omega) (by omega) (1 + a.1).toNat [] [⟨0, 0, 0⟩] 1 a.2.1 a.2.2 (by omega) rfl rfl (by omega) (by omega) (by omega)
  exact ⟨r, hr, r1, by omega, by omega⟩

theorem dw_renaming_l0 {l : List Int} (hl : Byts l) : ∀ (D : Nat) (zs : List Int) (p s : Int), zs.length = 8 → D ≤ 8 → 0 ≤ p → p ≤ 800000000 - 4 * (D : Int) → ∃ r, Evn (fun k => spec_l1Cur_renaming.l0 k zs (D : Int) l p s) r ∧ r.1.length ≤ 9 ∧ p ≤ r.2.1 ∧ r.2.1 ≤ p + 4 * (D : Int) + 10 := by
  intro D
  induction D with
  | zero =>
    intro zs p s hz hD h0 h1
    have hn : ¬ ((0 : Nat) : Int) > 0 := by decide
    obtain ⟨u, hu, u0, u1, u2, u3⟩ := dw_pick hl h0 (by omega) s 24
    by_cases c0 : u.1 = 0
    · obtain ⟨v, hv, v0, v1, v2, v3⟩ := dw_pick hl (p := u.2.1) (by omega) (by omega) u.2.2 8
      obtain ⟨w, hw, _, w2, w3⟩ := dw_among hl (p := v.2.1) (by omega) (by omega) v.2.2 [(-1), 0, 8] (by simp)
      have v4 : v.1 < (zs.length : Int) := by omega
      refine ⟨(zs.set v.1.toNat w.1, w.2.1, w.2.2), Evn.step ?_, by dsimp only; rw [List.length_set]; omega, by dsimp only; omega, by dsimp only; omega⟩
      simp only [spec_l1Cur_renaming.l0, if_neg hn, hu, Option.bind_some, if_pos c0, hv, hw, if_pos v0, if_pos v4]
      exact Evn.done _
    by_cases c1 : u.1 = 1
    · have hq : zs.length < 17592186044416 := by omega
      refine ⟨(zs ++ [0], u.2.1, u.2.2), Evn.step ?_, by dsimp only; rw [List.length_append, List.length_singleton]; omega, by dsimp only; omega, by dsimp only; omega⟩
      simp only [spec_l1Cur_renaming.l0, if_neg hn, hu, Option.bind_some, if_neg c0, if_pos c1, if_pos hq]
      exact Evn.done _
    · refine ⟨(zs, u.2.1, u.2.2), Evn.step ?_, by dsimp only; omega, by dsimp only; omega, by dsimp only; omega⟩
      simp only [spec_l1Cur_renaming.l0, if_neg hn, hu, Option.bind_some, if_neg c0, if_neg c1]
      exact Evn.done _
  | succ D ih =>
    intro zs p s hz hD h0 h1
    have hp : ((D + 1 : Nat) : Int) > 0 := by omega
    obtain ⟨u, hu, u0, u1, u2, u3⟩ := dw_pick hl h0 (by omega) s 6
    obtain ⟨v, hv, v0, v1, v2, v3⟩ := dw_pick hl (p := u.2.1) (by omega) (by omega) u.2.2 6
    have u4 : u.1 < (zs.length : Int) := by omega
    have v4 : v.1 < (zs.length : Int) := by omega
    obtain ⟨r, hr, r1, r2, r3⟩ := ih ((zs.set u.1.toNat (rd zs v.1)).set v.1.toNat (rd zs u.1)) v.2.1 v.2.2 (by rw [List.length_set, List.length_set]; exact hz) (by omega) (by omega) (by omega)
    refine ⟨r, Evn.step ?_, r1, by omega, by omega⟩
    simp only [spec_l1Cur_renaming.l0, if_pos hp, hu, hv, Option.bind_some, if_pos u0, if_pos u4, if_pos v0, if_pos v4, wrap_pred (show D < 4611686018427387904 by omega)]
    exact hr
theorem dw_renaming {l : List Int} {p : Int} (hl : Byts l) (h0 : 0 ≤ p) (h1 : p ≤ 700000000) (s : Int) : ∃ r, Evn (fun k => spec_l1Cur_renaming.f k l p s) r ∧ r.1.length ≤ 9 ∧ p ≤ r.2.1 ∧ r.2.1 ≤ p + 100 := by
  unfold spec_l1Cur_renaming.f
  obtain ⟨a, ha, a0, a1, a2, a3⟩ := dw_pick hl h0 (by omega) s 4
  obtain ⟨D, hD⟩ : ∃ D : Nat, a.1 = D := ⟨a.1.toNat, by omega⟩
  simp only [ha, Option.bind_some, hD]
  obtain ⟨r, hr, r1, r2, r3⟩ := dw_renaming_l0 hl D [0, 1, 2, 3, 4, 5, 6, 7] a.2.1 a.2.2 rfl (by omega) (by omega) (by omega)
  exact ⟨r, hr, r1, by omega, by omega⟩

theorem dw_DrawRenameLegs {l : List Int} (hl : Byts l) : ∃ r, Evn (fun k => spec_DrawRenameLegs.f k l) r ∧ r.1.length ≤ 13 ∧ r.2.length ≤ 9 := by
  unfold spec_DrawRenameLegs.f
  obtain ⟨a, ha, a1, a2, a3⟩ := dw_cave hl (p := 0) (by decide) (by decide) 0
  obtain ⟨b, hb, b1, b2, b3⟩ := dw_renaming hl (p := a.2.1) (by omega) (by omega) a.2.2
  exact ⟨(a.1, b.1), Evn.bind ha (Evn.bind hb (Evn.done _)), a1, b1⟩

theorem dw_DrawThenRenaming {l : List Int} (hl : Byts l) : ∃ r, Evn (fun k => spec_DrawThenRenaming.f k l) r ∧ r.1.length ≤ 9 ∧ r.2.length ≤ 9 := by
  unfold spec_DrawThenRenaming.f
  obtain ⟨a, ha, a1, a2, a3⟩ := dw_renaming hl (p := 0) (by decide) (by decide) 0
  obtain ⟨b, hb, b1, b2, b3⟩ := dw_renaming hl (p := a.2.1) (by omega) (by omega) a.2.2
  exact ⟨(a.1, b.1), Evn.bind ha (Evn.bind hb (Evn.done _)), a1, b1⟩

theorem dw_twoClubs_l1 {l : List Int} (hl : Byts l) (xs : List S70) : ∀ (D : Nat) (zs : List S70) (p s : Int), zs.length + D ≤ 100 → 0 ≤ p → p ≤ 800000000 - 20 * (D : Int) → ∃ r, Evn (fun k => spec_l1Cur_twoClubs.l1 k xs zs (D : Int) l p s) r ∧ r.1 = xs ∧ r.2.1.length ≤ 100 ∧ p ≤ r.2.2.1 ∧ r.2.2.1 ≤ p + 20 * (D : Int) := by
  intro D
  induction D with
  | zero =>
    intro zs p s hz h0 h1
    have hn : ¬ ((0 : Nat) : Int) > 0 := by decide
    refine ⟨(xs, zs, p, s), Evn.step ?_, rfl, by dsimp only; omega, by dsimp only; omega, by dsimp only; omega⟩
    simp only [spec_l1Cur_twoClubs.l1, if_neg hn]
    exact Evn.done _
  | succ D ih =>
    intro zs p s hz h0 h1
    have hp : ((D + 1 : Nat) : Int) > 0 := by omega
    obtain ⟨v, hv, v1, v2⟩ := dw_leg hl (p := p) (by omega) (by omega) s
    have hq : zs.length < 3518437208883 := by omega
    obtain ⟨r, hr, r1, r2, r3, r4⟩ := ih (zs ++ [⟨v.1, v.2.1, v.2.2.1, v.2.2.2.1, v.2.2.2.2.1⟩]) v.2.2.2.2.2.1 v.2.2.2.2.2.2 (by rw [List.length_append, List.length_singleton]; omega) (by omega) (by omega)
    refine ⟨r, Evn.step ?_, r1, r2, by omega, by omega⟩
    simp only [spec_l1Cur_twoClubs.l1, if_pos hp, wrap_pred (show D < 4611686018427387904 by omega)]
    refine Evn.bind hv ?_
    simp only [if_pos hq]
    exact hr
theorem dw_twoClubs_l0 {l : List Int} (hl : Byts l) (xs : List S70) (hx : xs.length ≤ 50) : ∀ (D i : Nat) (zs : List S70) (p s : Int), i + D = xs.length → zs.length ≤ i → 0 ≤ p → p ≤ 700000000 - 20 * (D : Int) → ∃ r, Evn (fun k => spec_l1Cur_twoClubs.l0 k xs zs (i : Int) l p s) r ∧ r.1 = xs ∧ r.2.1.length ≤ 100 ∧ p ≤ r.2.2.1 ∧ r.2.2.1 ≤ p + 20 * (D : Int) + 100 := by
  intro D
  induction D with
  | zero =>
    intro i zs p s hi hz h0 h1
    have hn : ¬ (i : Int) < (xs.length : Int) := by omega
    obtain ⟨u, hu, u0, u1, u2, u3⟩ := dw_pick hl h0 (by omega) s 3
    obtain ⟨E, hE⟩ : ∃ E : Nat, u.1 = E := ⟨u.1.toNat, by omega⟩
    obtain ⟨r, hr, r1, r2, r3, r4⟩ := dw_twoClubs_l1 hl xs E zs u.2.1 u.2.2 (by omega) (by omega) (by omega)
    refine ⟨r, Evn.step ?_, r1, r2, by omega, by omega⟩
    simp only [spec_l1Cur_twoClubs.l0, if_neg hn, hu, Option.bind_some, hE]
    exact hr
  | succ D ih =>
    intro i zs p s hi hz h0 h1
    have hn : (i : Int) < (xs.length : Int) := by omega
    have hi0 : 0 ≤ (i : Int) := by omega
    have hq : zs.length < 3518437208883 := by omega
    obtain ⟨u, hu, u0, u1, u2, u3⟩ := dw_pick hl h0 (by omega) s 5
    have push : ∀ (y : S70) (p' s' : Int), u.2.1 ≤ p' → p' ≤ u.2.1 + 2 → ∃ r, Evn (fun k => spec_l1Cur_twoClubs.l0 k xs (zs ++ [y]) (wrap64 ((i : Int) + 1)) l p' s') r ∧ r.1 = xs ∧ r.2.1.length ≤ 100 ∧ p ≤ r.2.2.1 ∧ r.2.2.1 ≤ p + 20 * ((D + 1 : Nat) : Int) + 100 := by
      intro y p' s' k1 k2
      rw [wrap_succ (show i < 4611686018427387904 by omega)]
      obtain ⟨r, hr, r1, r2, r3, r4⟩ := ih (i + 1) (zs ++ [y]) p' s' (by omega) (by rw [List.length_append, List.length_singleton]; omega) (by omega) (by omega)
      exact ⟨r, hr, r1, r2, by omega, by omega⟩
    have tail : ∀ q : Bool, ∃ r, Evn (fun k => spec_l1Cur_twoClubs.j1 k xs zs (i : Int) u.1 q l u.2.1 u.2.2) r ∧ r.1 = xs ∧ r.2.1.length ≤ 100 ∧ p ≤ r.2.2.1 ∧ r.2.2.1 ≤ p + 20 * ((D + 1 : Nat) : Int) + 100 := by
      intro q
      cases q with
      | true =>
        obtain ⟨r, hr, r1⟩ := push ⟨(rd_T70 xs (i : Int)).f0, (rd_T70 xs (i : Int)).f1, (rd_T70 xs (i : Int)).f2, (rd_T70 xs (i : Int)).f3, (rd_T70 xs (i : Int)).f4⟩ u.2.1 u.2.2 (by omega) (by omega)
        refine ⟨r, Evn.step ?_, r1⟩
        simp only [spec_l1Cur_twoClubs.j1, if_true, if_pos hi0, if_pos hn, if_pos hq]
        exact hr
      | false =>
        by_cases c2 : u.1 = 2
        · obtain ⟨v, hv⟩ : ∃ v, spec_l4Reverse.f (rd_T70 xs (i : Int)).f0 (rd_T70 xs (i : Int)).f1 (rd_T70 xs (i : Int)).f2 (rd_T70 xs (i : Int)).f3 (rd_T70 xs (i : Int)).f4 = some v := ⟨_, rfl⟩
          obtain ⟨r, hr, r1⟩ := push ⟨v.1, v.2.1, v.2.2.1, v.2.2.2.1, v.2.2.2.2⟩ u.2.1 u.2.2 (by omega) (by omega)
          refine ⟨r, Evn.step ?_, r1⟩
          simp only [spec_l1Cur_twoClubs.j1, Bool.false_eq_true, if_false, if_pos c2, if_pos hi0, if_pos hn, hv, Option.bind_some, if_pos hq]
          exact hr
        by_cases c3 : u.1 = 3
        · obtain ⟨v, hv, v0, v1, v2, v3⟩ := dw_pick hl (p := u.2.1) (by omega) (by omega) u.2.2 4
          obtain ⟨r, hr, r1⟩ := push ⟨(rd_T70 xs (i : Int)).f0, (rd_T70 xs (i : Int)).f1, wrap64 ((rd_T70 xs (i : Int)).f2 + v.1), (rd_T70 xs (i : Int)).f3, (rd_T70 xs (i : Int)).f4⟩ v.2.1 v.2.2 (by omega) (by omega)
          refine ⟨r, Evn.step ?_, r1⟩
          simp only [spec_l1Cur_twoClubs.j1, Bool.false_eq_true, if_false, if_neg c2, if_pos c3, if_pos hi0, if_pos hn, hv, Option.bind_some, if_pos hq]
          exact hr
        · obtain ⟨r, hr, r1, r2, r3, r4⟩ := ih (i + 1) zs u.2.1 u.2.2 (by omega) (by omega) (by omega) (by omega)
          refine ⟨r, Evn.step ?_, r1, r2, by omega, by omega⟩
          simp only [spec_l1Cur_twoClubs.j1, Bool.false_eq_true, if_false, if_neg c2, if_neg c3, wrap_succ (show i < 4611686018427387904 by omega)]
          exact hr
    by_cases c0 : u.1 = 0
    · obtain ⟨r, hr, r1⟩ := tail (u.1 == 0)
      refine ⟨r, Evn.step ?_, r1⟩
      simp only [spec_l1Cur_twoClubs.l0, if_pos hn, hu, Option.bind_some, if_pos c0]
      exact hr
    · obtain ⟨r, hr, r1⟩ := tail (u.1 == 1)
      refine ⟨r, Evn.step ?_, r1⟩
      simp only [spec_l1Cur_twoClubs.l0, if_pos hn, hu, Option.bind_some, if_neg c0]
      exact hr
theorem dw_twoClubs {l : List Int} {p : Int} (hl : Byts l) (h0 : 0 ≤ p) (h1 : p ≤ 500000000) (s : Int) : ∃ r, Evn (fun k => spec_l1Cur_twoClubs.f k l p s) r ∧ r.1.length ≤ 13 ∧ r.2.1.length ≤ 100 ∧ p ≤ r.2.2.1 ∧ r.2.2.1 ≤ p + 1000 := by
  unfold spec_l1Cur_twoClubs.f
  obtain ⟨a, ha, a1, a2, a3⟩ := dw_cave hl h0 (by omega) s
  obtain ⟨r, hr, r1, r2, r3, r4⟩ := dw_twoClubs_l0 hl a.1 (by omega) a.1.length 0 [] a.2.1 a.2.2 (by omega) (by simp) (by omega) (by omega)
  exact ⟨r, Evn.bind ha hr, by rw [r1]; exact a1, r2, by omega, by omega⟩

theorem dw_DrawMatchScore {l : List Int} (hl : Byts l) : ∃ r, Evn (fun k => spec_DrawMatchScore.f k l) r ∧ r.1.length ≤ 13 ∧ r.2.1.length ≤ 100 ∧ r.2.2.length ≤ 9 := by
  unfold spec_DrawMatchScore.f
  obtain ⟨a, ha, a1, a2, a3, a4⟩ := dw_twoClubs hl (p := 0) (by decide) (by decide) 0
  obtain ⟨b, hb, b1, b2, b3⟩ := dw_renaming hl (p := a.2.2.1) (by omega) (by omega) a.2.2.2
  have hi := sp_InverseRenaming b.1 (by omega)
  have hg := sp_l4Legs a.2.1 (by omega)
  obtain ⟨o, ho, o2, o3⟩ := dw_one hl (p := b.2.1) (by omega) (by omega) b.2.2 2
  by_cases c1 : (invNs b.1).2 = true
  · by_cases c2 : goodLegs a.2.1 = true
    · by_cases c3 : o.1 = true
      · have h8 : (invNs b.1).1.length = 8 := by
          unfold invNs at c1 ⊢
          split
          · rw [invN_len, List.length_replicate]
          · rename_i c; rw [if_neg c] at c1; cases c1
        have hr := sp_l20Rename a.2.1 (invNs b.1).1 c2 h8
        refine ⟨(a.1, a.2.1.map (renL (invNs b.1).1), b.1), Evn.bind ha (Evn.bind hb (Evn.bind hi ?_)), a1, by dsimp only; rw [List.length_map]; exact a2, b1⟩
        simp only [if_pos c1]
        refine Evn.bind hg ?_
        simp only [if_pos c2, ho, Option.bind_some, if_pos c3, hr]
        exact Evn.done _
      · refine ⟨(a.1, a.2.1, b.1), Evn.bind ha (Evn.bind hb (Evn.bind hi ?_)), a1, a2, b1⟩
        simp only [if_pos c1]
        refine Evn.bind hg ?_
        simp only [if_pos c2, ho, Option.bind_some, if_neg c3]
        exact Evn.done _
    · refine ⟨(a.1, a.2.1, b.1), Evn.bind ha (Evn.bind hb (Evn.bind hi ?_)), a1, a2, b1⟩
      simp only [if_pos c1]
      refine Evn.bind hg ?_
      simp only [if_neg c2]
      exact Evn.done _
  · refine ⟨(a.1, a.2.1, b.1), Evn.bind ha (Evn.bind hb (Evn.bind hi ?_)), a1, a2, b1⟩
    simp only [if_neg c1]
    exact Evn.done _

theorem dw_DrawImproveRenaming {l : List Int} (hl : Byts l) : ∃ r, Evn (fun k => spec_DrawImproveRenaming.f k l) r ∧ r.1.length ≤ 13 ∧ r.2.1.length ≤ 100 ∧ r.2.2.length ≤ 9 := by
  unfold spec_DrawImproveRenaming.f
  obtain ⟨a, ha, a1, a2, a3⟩ := dw_DrawMatchScore hl
  have hg := sp_l20Good a.2.2 (by omega)
  have no : ∀ q t : Int, ∃ r, Evn (fun k => spec_DrawImproveRenaming.j0 k a.1 a.2.1 a.2.2 false l q t) r ∧ r.1.length ≤ 13 ∧ r.2.1.length ≤ 100 ∧ r.2.2.length ≤ 9 := by
    intro q t
    refine ⟨(a.1, a.2.1, a.2.2), Evn.step ?_, a1, a2, a3⟩
    simp only [spec_DrawImproveRenaming.j0, Bool.false_eq_true, if_false]
    exact Evn.done _
  by_cases c : goodNs a.2.2 = true
  · have h8 := goodNs_len c
    obtain ⟨o, ho, o2, o3⟩ := dw_one hl (p := 0) (by decide) (by decide) 0 2
    cases ho1 : o.1 with
    | false =>
      obtain ⟨r, hr, r1⟩ := no o.2.1 o.2.2
      refine ⟨r, Evn.bind ha (Evn.bind hg ?_), r1⟩
      simp only [if_pos c, ho, Option.bind_some, ho1]
      exact hr
    | true =>
      obtain ⟨u, hu, u0, u1, u2, u3⟩ := dw_pick hl (p := o.2.1) (by omega) (by omega) o.2.2 8
      obtain ⟨v, hv, v0, v1, v2, v3⟩ := dw_pick hl (p := u.2.1) (by omega) (by omega) u.2.2 8
      have u4 : u.1 < (a.2.2.length : Int) := by omega
      have v4 : v.1 < (a.2.2.length : Int) := by omega
      refine ⟨(a.1, a.2.1, (a.2.2.set u.1.toNat (rd a.2.2 v.1)).set v.1.toNat (rd a.2.2 u.1)), Evn.bind ha (Evn.bind hg ?_), a1, a2, by dsimp only; rw [List.length_set, List.length_set]; exact a3⟩
      simp only [if_pos c, ho, Option.bind_some, ho1]
      refine Evn.step ?_
      simp only [spec_DrawImproveRenaming.j0, if_true, hu, hv, Option.bind_some, if_pos u0, if_pos u4, if_pos v0, if_pos v4]
      exact Evn.done _
  · obtain ⟨r, hr, r1⟩ := no 0 0
    refine ⟨r, Evn.bind ha (Evn.bind hg ?_), r1⟩
    simp only [if_neg c]
    exact hr

theorem im_within (x y z : Int) : impl_within.f x y z = some (decide (y ≤ x ∧ x ≤ z)) := by
  unfold impl_within.f
  by_cases h : x ≥ y <;> simp [h] <;> omega

theorem im_isStation (x : Int) : impl_isStation.f x = some (decide (0 ≤ x ∧ x ≤ 7)) := by
  simp only [impl_isStation.f, im_within, Option.bind_some]

def idxI (xs : List Int) (v : Int) : Nat → Int → Int
  | 0, _ => -1
  | d + 1, i => if v = xs.getD i.toNat 0 then i else idxI xs v d (i + 1)
theorem idxI_has (xs : List Int) (v : Int) : ∀ (d i : Nat), i + d = xs.length → decide (idxI xs v d (i : Int) ≥ 0) = (xs.drop i).contains v := by
  intro d
  induction d with
  | zero => intro i h; rw [List.drop_eq_nil_of_le (by omega)]; simp [idxI]
  | succ d ih =>
    intro i h
    rw [getD_drop xs i 0 (by omega), List.contains_cons]
    unfold idxI
    rw [Int.toNat_natCast]
    by_cases c : v = xs.getD i 0
    · rw [if_pos c, ← c]; simp
    · rw [if_neg c, show (v == xs.getD i 0) = false from by simpa using c, Bool.false_or]
      exact ih (i + 1) (by omega)
theorem li_Index_l0 (xs : List Int) (v : Int) (hx : xs.length ≤ 4194304) : ∀ (d i : Nat), i + d = xs.length → Evn (fun k => slices_Index_int_int.l0 k xs v (xs.length : Int) (i : Int)) (idxI xs v d (i : Int)) := by
  intro d
  induction d with
  | zero =>
    intro i h
    refine Evn.step ?_
    have h1 : ¬ (i : Int) < (xs.length : Int) := by omega
    simp only [slices_Index_int_int.l0, if_neg h1]
    exact Evn.done _
  | succ d ih =>
    intro i h
    refine Evn.step ?_
    have h1 : (i : Int) < (xs.length : Int) := by omega
    have h2 : 0 ≤ (i : Int) := by omega
    simp only [slices_Index_int_int.l0, if_pos h1, if_pos h2, rd, wrap_succ (show i < 4611686018427387904 by omega), idxI]
    refine Evn.ite (fun c => (Evn.done _).eq_ ?_) (fun c => (ih (i + 1) (by omega)).eq_ ?_)
    · rw [if_pos c]
    · rw [if_neg c]; rfl

theorem im_has (xs : List Int) (v : Int) (hx : xs.length ≤ 4194304) : Evn (fun k => impl_has.f k xs v) (xs.contains v) := by
  unfold impl_has.f slices_Contains_int_int.f slices_Index_int_int.f
  refine Evn.bind (Evn.bind (li_Index_l0 xs v hx xs.length 0 (by omega)) (Evn.done _)) ?_
  refine (Evn.done _).eq_ ?_
  have h := idxI_has xs v xs.length 0 (by omega)
  simpa using h

theorem im_IsRenaming_l0 (xs : List Int) (hx : xs.length ≤ 1048576) : ∀ (d i : Nat), i + d = xs.length → Evn (fun k => impl_IsRenaming.l0 k xs xs (xs.length : Int) (i : Int)) (goodN xs d i) := by
  intro d
  induction d with
  | zero =>
    intro i h
    refine Evn.step ?_
    have h1 : ¬ (i : Int) < (xs.length : Int) := by omega
    simp only [impl_IsRenaming.l0, if_neg h1, goodN]
    exact Evn.done _
  | succ d ih =>
    intro i h
    refine Evn.step ?_
    have h1 : (i : Int) < (xs.length : Int) := by omega
    have h2 : 0 ≤ (i : Int) := by omega
    have h3 : (i : Int) ≤ (xs.length : Int) := by omega
    have hl : (xs.take i).length ≤ 4194304 := by rw [List.length_take]; omega
    simp only [impl_IsRenaming.l0, if_pos h1, if_pos h2, if_pos h3, im_isStation, rd, Int.toNat_natCast, Option.bind_some, wrap_succ (show i < 4611686018427387904 by omega), goodN]
    refine Evn.ite (fun c1 => ?_) (fun c1 => (Evn.done _).eq_ (by simp only [Bool.eq_false_iff.mpr c1, Bool.false_and]))
    simp only [c1, Bool.true_and]
    refine Evn.bind (im_has _ _ hl) ?_
    refine Evn.ite (fun c2 => (Evn.done _).eq_ (by simp only [c2, Bool.not_true, Bool.false_and])) (fun c2 => (ih (i + 1) (by omega)).eq_ (by simp only [Bool.eq_false_iff.mpr c2, Bool.not_false, Bool.true_and]))
theorem im_IsRenaming (xs : List Int) (hx : xs.length ≤ 1048576) : Evn (fun k => impl_IsRenaming.f k xs) (goodNs xs) := im_IsRenaming_l0 xs hx xs.length 0 (by omega)

theorem im_InverseRenaming_l0 (xs : List Int) (hx : xs.length ≤ 1048576) (hg : goodNs xs = true) : ∀ (d i : Nat) (ys : List Int), i + d = xs.length → ys.length = 8 → Evn (fun k => impl_InverseRenaming.l0 k ys xs (xs.length : Int) (i : Int)) (invN xs d i ys, true) := by
  intro d
  induction d with
  | zero =>
    intro i ys h hy
    refine Evn.step ?_
    have h1 : ¬ (i : Int) < (xs.length : Int) := by omega
    simp only [impl_InverseRenaming.l0, if_neg h1, invN]
    exact Evn.done _
  | succ d ih =>
    intro i ys h hy
    refine Evn.step ?_
    have h1 : (i : Int) < (xs.length : Int) := by omega
    have h2 : 0 ≤ (i : Int) := by omega
    obtain ⟨g1, g2⟩ := goodNs_in hg i (by omega)
    have h3 : xs.getD i 0 < (ys.length : Int) := by omega
    simp only [impl_InverseRenaming.l0, if_pos h1, if_pos h2, rd, Int.toNat_natCast, if_pos g1, if_pos h3, wrap_succ (show i < 4611686018427387904 by omega), invN]
    exact ih (i + 1) _ (by omega) (by simpa using hy)
theorem im_InverseRenaming (xs : List Int) (hx : xs.length ≤ 1048576) : Evn (fun k => impl_InverseRenaming.f k xs) (invNs xs) := by
  unfold impl_InverseRenaming.f
  refine Evn.bind (im_IsRenaming xs hx) ?_
  unfold invNs
  first | refine Evn.ite (fun c => Evn.ite (fun _ => ?_) (fun h => absurd (by omega) h)) (fun c => ?_) | refine Evn.ite (fun c => ?_) (fun c => ?_)
  · rw [if_pos c]
    exact im_InverseRenaming_l0 xs hx c xs.length 0 _ (by omega) (by simp)
  · rw [if_neg c]
    exact Evn.done _

theorem im_ThenRenaming_l0 (xs ys : List Int) (hx : xs.length ≤ 1048576) (hg : goodNs xs = true) (hg2 : goodNs ys = true) : ∀ (d i : Nat) (zs : List Int), i + d = xs.length → zs.length = i → Evn (fun k => impl_ThenRenaming.l0 k ys zs xs (xs.length : Int) (i : Int)) (zs ++ (xs.drop i).map (fun s => ys.getD s.toNat 0), true) := by
  have hl := goodNs_len hg2
  intro d
  induction d with
  | zero =>
    intro i zs h hz
    refine Evn.step ?_
    have h1 : ¬ (i : Int) < (xs.length : Int) := by omega
    simp only [impl_ThenRenaming.l0, if_neg h1]
    rw [List.drop_eq_nil_of_le (by omega)]
    simpa using Evn.done _
  | succ d ih =>
    intro i zs h hz
    refine Evn.step ?_
    have h1 : (i : Int) < (xs.length : Int) := by omega
    have h2 : 0 ≤ (i : Int) := by omega
    obtain ⟨g1, g2⟩ := goodNs_in hg i (by omega)
    have h3 : xs.getD i 0 < (ys.length : Int) := by omega
    rw [then_step (by omega)]
    simp only [impl_ThenRenaming.l0, if_pos h1, if_pos h2, rd, Int.toNat_natCast, if_pos g1, if_pos h3, wrap_succ (show i < 4611686018427387904 by omega)]
    exact Evn.ite (fun _ => ih (i + 1) _ (by omega) (by simp [hz])) (fun c => absurd (by omega) c)
theorem im_ThenRenaming (xs ys : List Int) (hx : xs.length ≤ 1048576) (hy : ys.length ≤ 1048576) : Evn (fun k => impl_ThenRenaming.f k xs ys) (thenNs xs ys) := by
  unfold impl_ThenRenaming.f
  refine Evn.bind (im_IsRenaming xs hx) ?_
  unfold thenNs
  refine Evn.ite (fun c => ?_) (fun c => ?_)
  · refine Evn.bind (im_IsRenaming ys hy) (Evn.step ?_)
    simp only [impl_ThenRenaming.j0]
    refine Evn.ite (fun c1 => ?_) (fun c1 => ?_)
    · rw [if_neg (by intro h; rw [h.2] at c1; cases c1)]
      exact Evn.done _
    · have c2 : goodNs ys = true := by simpa using c1
      rw [if_pos ⟨c, c2⟩]
      have h := im_ThenRenaming_l0 xs ys hx c c2 xs.length 0 [] (by omega) rfl
      simpa using h
  · refine Evn.step ?_
    simp only [impl_ThenRenaming.j0, if_true]
    rw [if_neg (fun h => c h.1)]
    exact Evn.done _

theorem im_IsLeg (x : S70) : impl_IsLeg.f x.f0 x.f1 x.f2 x.f3 x.f4 = some (okLeg x) := by
  simp only [impl_IsLeg.f, im_isStation, impl_isBearing.f, im_within, Option.bind_some, ite_and, ite_not, okLeg]

theorem im_areLegs_l0 (xs : List S70) (hx : xs.length ≤ 4194304) : ∀ (d i : Nat), i + d = xs.length → Evn (fun k => impl_areLegs.l0 k xs xs (xs.length : Int) (i : Int)) ((xs.drop i).all okLeg && decide (xs.length ≤ 12)) := by
  intro d
  induction d with
  | zero =>
    intro i h
    refine Evn.step ?_
    have h1 : ¬ (i : Int) < (xs.length : Int) := by omega
    simp only [impl_areLegs.l0, if_neg h1]
    rw [List.drop_eq_nil_of_le (by omega)]
    refine (Evn.done _).eq_ ?_
    simp only [List.all_nil, Bool.true_and, decide_eq_decide]
    omega
  | succ d ih =>
    intro i h
    refine Evn.step ?_
    have h1 : (i : Int) < (xs.length : Int) := by omega
    have h2 : 0 ≤ (i : Int) := by omega
    simp only [impl_areLegs.l0, if_pos h1, if_pos h2, im_IsLeg, Option.bind_some, wrap_succ (show i < 4611686018427387904 by omega), rd_T70, Int.toNat_natCast]
    rw [getD_drop xs i z70 (by omega), List.all_cons]
    exact Evn.ite (fun c => (ih (i + 1) (by omega)).eq_ (by simp only [c, Bool.true_and])) (fun c => (Evn.done _).eq_ (by simp only [Bool.eq_false_iff.mpr c, Bool.false_and]))
theorem im_areLegs (xs : List S70) (hx : xs.length ≤ 4194304) : Evn (fun k => impl_areLegs.f k xs) (goodLegs xs) := by
  have h := im_areLegs_l0 xs hx xs.length 0 (by omega)
  simpa [impl_areLegs.f, goodLegs] using h

theorem im_RenameLegs_l0 (xs : List S70) (ys : List Int) (hg : goodLegs xs = true) (hl : ys.length = 8) : ∀ (d i : Nat) (zs : List S70), i + d = xs.length → zs.length = i → Evn (fun k => impl_RenameLegs.l0 k ys zs xs (xs.length : Int) (i : Int)) (zs ++ (xs.drop i).map (renL ys), true) := by
  have hx := goodLegs_len hg
  intro d
  induction d with
  | zero =>
    intro i zs h hz
    refine Evn.step ?_
    have h1 : ¬ (i : Int) < (xs.length : Int) := by omega
    simp only [impl_RenameLegs.l0, if_neg h1]
    rw [List.drop_eq_nil_of_le (by omega)]
    simpa using Evn.done _
  | succ d ih =>
    intro i zs h hz
    refine Evn.step ?_
    have h1 : (i : Int) < (xs.length : Int) := by omega
    have h2 : 0 ≤ (i : Int) := by omega
    obtain ⟨⟨g1, g2⟩, ⟨g3, g4⟩, _⟩ := okLeg_in (goodLegs_ok hg i (by omega))
    have hc : 0 ≤ (xs.getD i z70).f0 ∧ (xs.getD i z70).f0 < (ys.length : Int) ∧ 0 ≤ (xs.getD i z70).f1 ∧ (xs.getD i z70).f1 < (ys.length : Int) := by omega
    rw [ren_step (by omega)]
    simp only [impl_RenameLegs.l0, if_pos h1, if_pos h2, rd_T70, Int.toNat_natCast, wrap_succ (show i < 4611686018427387904 by omega)]
    simp only [impl_renamed.f]
    simp only [if_pos hc, Option.bind_some]
    exact Evn.ite (fun _ => ih (i + 1) _ (by omega) (by rw [List.length_append, hz]; rfl)) (fun c => absurd (by omega) c)
theorem im_RenameLegs (xs : List S70) (ys : List Int) (hx : xs.length ≤ 4194304) (hy : ys.length ≤ 1048576) : Evn (fun k => impl_RenameLegs.f k xs ys) (renLs xs ys) := by
  unfold impl_RenameLegs.f
  refine Evn.bind (im_areLegs xs hx) ?_
  unfold renLs
  refine Evn.ite (fun c => ?_) (fun c => ?_)
  · refine Evn.bind (im_IsRenaming ys hy) (Evn.step ?_)
    simp only [impl_RenameLegs.j0]
    refine Evn.ite (fun c1 => ?_) (fun c1 => ?_)
    · rw [if_neg (by intro h; rw [h.2] at c1; cases c1)]
      exact Evn.done _
    · have c2 : goodNs ys = true := by simpa using c1
      rw [if_pos ⟨c, c2⟩]
      have h := im_RenameLegs_l0 xs ys c (goodNs_len c2) xs.length 0 [] (by omega) rfl
      simpa using h
  · refine Evn.step ?_
    simp only [impl_RenameLegs.j0, if_true]
    rw [if_neg (fun h => c h.1)]
    exact Evn.done _

theorem im_joins (x y : S70) : impl_joins.f x.f0 x.f1 x.f2 x.f3 x.f4 y.f0 y.f1 y.f2 y.f3 y.f4 = some (shB x y) := by
  unfold impl_joins.f
  exact shared_form x.f0 x.f1 y.f0 y.f1

theorem im_absolute (a : Int) (h : -9223372036854775807 ≤ a) (h' : a ≤ 9223372036854775807) : impl_absolute.f a = some ((a.natAbs : Nat) : Int) := by
  unfold impl_absolute.f
  rw [wrap_id (by omega) (by omega)]
  unfold mx
  congr 1
  omega

theorem im_agree (x y : S70) (g t : Int) : impl_agree.f x.f0 x.f1 x.f2 x.f3 x.f4 y.f0 y.f1 y.f2 y.f3 y.f4 g t = some (agreeB x y g t) := by
  simp only [impl_agree.f, impl_turn.f, impl_absolute.f, impl_Leg_reverse.f, impl_back.f, Option.bind_some]
  unfold agreeB
  split
  · unfold agB turnI absI
    by_cases c1 : mn (mx (wrap64 (x.f3 - y.f3)) (wrap64 (-wrap64 (x.f3 - y.f3)))) (wrap64 (360 - mx (wrap64 (x.f3 - y.f3)) (wrap64 (-wrap64 (x.f3 - y.f3))))) ≤ g
    · rw [if_pos c1, decide_eq_true c1, Bool.true_and]
      split
      · rename_i c2; rw [decide_eq_true c2, Bool.true_and]
      · rename_i c2; rw [decide_eq_false c2, Bool.false_and]
    · rw [if_neg c1, decide_eq_false c1, Bool.false_and]
  · unfold agB turnI absI revL
    dsimp only
    split
    · rename_i c1
      rw [decide_eq_true c1, Bool.true_and]
      split
      · rename_i c2; rw [decide_eq_true c2, Bool.true_and]
      · rename_i c2; rw [decide_eq_false c2, Bool.false_and]
    · rename_i c1
      rw [decide_eq_false c1, Bool.false_and]

theorem some_beq_t (b : Bool) : (some b == some true) = b := by cases b <;> rfl
theorem im_xMatched (xs : List S70) (y : S70) : impl_xMatched.f xs y.f0 y.f1 y.f2 y.f3 y.f4 = some (hit xs y) := by
  unfold impl_xMatched.f hit
  simp only [im_joins, im_agree, some_beq_t, Option.isSome_some, List.all_eq_true, implies_true, if_true]
theorem im_matchScore_l0 (xs ys : List S70) (rs : List Int) (hg : goodLegs ys = true) (hl : rs.length = 8) : ∀ (d i : Nat) (m : Int), i + d = ys.length → 0 ≤ m → m ≤ i → Evn (fun k => impl_matchScore.l0 k xs rs m ys (ys.length : Int) (i : Int)) (m + sc xs ((ys.drop i).map (renL rs))) := by
  have hx := goodLegs_len hg
  intro d
  induction d with
  | zero =>
    intro i m h _ _
    refine Evn.step ?_
    have h1 : ¬ (i : Int) < (ys.length : Int) := by omega
    simp only [impl_matchScore.l0, if_neg h1]
    rw [List.drop_eq_nil_of_le (by omega), List.map_nil, sc, Int.add_zero]
    exact Evn.done _
  | succ d ih =>
    intro i m h h0 hm
    have h1 : (i : Int) < (ys.length : Int) := by omega
    have h2 : 0 ≤ (i : Int) := by omega
    obtain ⟨⟨g1, g2⟩, ⟨g3, g4⟩, _⟩ := okLeg_in (goodLegs_ok hg i (by omega))
    have hc : 0 ≤ (ys.getD i z70).f0 ∧ (ys.getD i z70).f0 < (rs.length : Int) ∧ 0 ≤ (ys.getD i z70).f1 ∧ (ys.getD i z70).f1 < (rs.length : Int) := by omega
    have hw := wrap_succ (show i < 4611686018427387904 by omega)
    have hw2 : wrap64 (m + 1) = m + 1 := wrap_id (by clear hw; omega) (by clear hw; omega)
    refine Evn.step ?_
    rw [getD_drop ys i z70 (by clear hw hw2; omega), List.map_cons, sc]
    have hm' := im_xMatched xs (renL rs (ys.getD i z70))
    unfold renL at hm'
    dsimp only at hm'
    simp only [impl_matchScore.l0, if_pos h1, if_pos h2, rd_T70, Int.toNat_natCast, hw, hw2]
    simp only [impl_renamed.f]
    simp only [if_pos hc, Option.bind_some, rd]
    clear hw hw2
    rw [show (fun k => (impl_xMatched.f xs (rs.getD (ys.getD i z70).f0.toNat 0) (rs.getD (ys.getD i z70).f1.toNat 0) (ys.getD i z70).f2 (ys.getD i z70).f3 (ys.getD i z70).f4).bind fun t215 => if t215 = true then impl_matchScore.l0 k xs rs (m + 1) ys (ys.length : Int) ((i + 1 : Nat) : Int) else impl_matchScore.l0 k xs rs m ys (ys.length : Int) ((i + 1 : Nat) : Int)) = fun k => if hit xs (renL rs (ys.getD i z70)) = true then impl_matchScore.l0 k xs rs (m + 1) ys (ys.length : Int) ((i + 1 : Nat) : Int) else impl_matchScore.l0 k xs rs m ys (ys.length : Int) ((i + 1 : Nat) : Int) from by funext k; rw [hm']; rfl]
    refine Evn.ite (fun c => ?_) (fun c => ?_)
    · rw [if_pos c]
      exact (ih (i + 1) (m + 1) (by omega) (by omega) (by omega)).eq_ (by omega)
    · rw [if_neg c]
      exact (ih (i + 1) m (by omega) (by omega) (by omega)).eq_ (by omega)
theorem im_matchScore (xs ys : List S70) (rs : List Int) (hg : goodLegs ys = true) (hl : rs.length = 8) : Evn (fun k => impl_matchScore.f k xs ys rs) (sc xs (ys.map (renL rs))) := by
  have h := im_matchScore_l0 xs ys rs hg hl ys.length 0 0 (by omega) (by omega) (by omega)
  rw [List.drop_zero] at h
  unfold impl_matchScore.f
  exact h.eq_ (by omega)

theorem im_MatchScore (xs ys : List S70) (rs : List Int) (hx : xs.length ≤ 4194304) (hy : ys.length ≤ 4194304) (hr : rs.length ≤ 1048576) : Evn (fun k => impl_MatchScore.f k xs ys rs) (scTs xs ys rs) := by
  unfold impl_MatchScore.f scTs
  refine Evn.bind (im_areLegs xs hx) ?_
  refine Evn.ite (fun c1 => ?_) (fun c1 => by rw [if_neg (fun h => c1 h.1)]; exact Evn.done _)
  refine Evn.bind (im_areLegs ys hy) ?_
  refine Evn.ite (fun c2 => ?_) (fun c2 => by rw [if_neg (fun h => c2 h.2.1)]; exact Evn.done _)
  refine Evn.bind (im_IsRenaming rs hr) ?_
  refine Evn.ite (fun c3 => ?_) (fun c3 => by rw [if_neg (fun h => c3 h.2.2)]; exact Evn.done _)
  rw [if_pos ⟨c1, c2, c3⟩]
  refine Evn.bind (im_matchScore xs ys rs c2 (goodNs_len c3)) ?_
  exact Evn.done _

theorem clone_int (l : List Int) (h : l.length ≤ 4194304) : slices_Clone_int_int.f l = some l := by
  unfold slices_Clone_int_int.f
  rw [if_pos (by omega)]
theorem im_Improve_l1 (xs ys : List S70) (rs : List Int) (hy : goodLegs ys = true) (hl : rs.length = 8) (i : Nat) (hi : i < 8) (R : List Int × Int → List Int × Int × Bool)
    (hrest : ∀ (b : List Int) (m : Int), Evn (fun k => impl_ImproveRenaming.l0 k xs ys rs b m (rs.length : Int) ((i + 1 : Nat) : Int)) (R (b, m))) :
    ∀ (d j : Nat) (b : List Int) (m : Int), j + d = 8 → i < j → Evn (fun k => impl_ImproveRenaming.l1 k xs ys rs b m (i : Int) (j : Int) (rs.length : Int) (i : Int)) (R (impJ xs ys rs i d j (b, m))) := by
  have hyl := goodLegs_len hy
  intro d
  induction d with
  | zero =>
    intro j b m h hij
    refine Evn.step ?_
    have h1 : ¬ (j : Int) < (rs.length : Int) := by omega
    simp only [impl_ImproveRenaming.l1, if_neg h1, wrap_succ (show i < 4611686018427387904 by omega), impJ]
    exact hrest b m
  | succ d ih =>
    intro j b m h hij
    have h1 : (j : Int) < (rs.length : Int) := by omega
    have h2 : 0 ≤ (j : Int) := by omega
    have h3 : 0 ≤ (i : Int) := by omega
    have h4 : (i : Int) < (rs.length : Int) := by omega
    have hw := wrap_succ (show j < 4611686018427387904 by omega)
    refine Evn.step ?_
    simp only [impl_ImproveRenaming.l1, if_pos h1, clone_int rs (by omega), Option.bind_some, if_pos h2, if_pos h3, if_pos h4, rd, Int.toNat_natCast, hw]
    clear hw
    refine Evn.bind (im_matchScore xs ys (swapL rs i j) hy (by rw [swapL_len]; exact hl)) ?_
    unfold impJ better
    refine Evn.ite (fun c => ?_) (fun c => ?_)
    · rw [if_pos c]; exact ih (j + 1) _ _ (by omega) (by omega)
    · rw [if_neg c]; exact ih (j + 1) b m (by omega) (by omega)
theorem im_Improve_l0 (xs ys : List S70) (rs : List Int) (hy : goodLegs ys = true) (hl : rs.length = 8) :
    ∀ (d i : Nat) (b : List Int) (m : Int), i + d = 8 → Evn (fun k => impl_ImproveRenaming.l0 k xs ys rs b m (rs.length : Int) (i : Int)) ((impI xs ys rs d i (b, m)).1, (impI xs ys rs d i (b, m)).2, true) := by
  intro d
  induction d with
  | zero =>
    intro i b m h
    refine Evn.step ?_
    have h1 : ¬ (i : Int) < (rs.length : Int) := by omega
    simp only [impl_ImproveRenaming.l0, if_neg h1, impI]
    exact Evn.done _
  | succ d ih =>
    intro i b m h
    have h1 : (i : Int) < (rs.length : Int) := by omega
    refine Evn.step ?_
    simp only [impl_ImproveRenaming.l0, if_pos h1, wrap_succ (show i < 4611686018427387904 by omega), impI]
    exact im_Improve_l1 xs ys rs hy hl i (by omega) (fun p => ((impI xs ys rs d (i + 1) p).1, (impI xs ys rs d (i + 1) p).2, true)) (fun b m => ih (i + 1) b m (by omega)) (8 - (i + 1)) (i + 1) b m (by omega) (by omega)
theorem im_ImproveRenaming (xs ys : List S70) (rs : List Int) (hx : xs.length ≤ 4194304) (hy : ys.length ≤ 4194304) (hr : rs.length ≤ 1048576) : Evn (fun k => impl_ImproveRenaming.f k xs ys rs) (impTs xs ys rs) := by
  unfold impl_ImproveRenaming.f impTs
  have no : ¬ (goodLegs xs = true ∧ goodLegs ys = true ∧ goodNs rs = true) → Evn (fun k => impl_ImproveRenaming.j0 k xs ys rs true) (if goodLegs xs = true ∧ goodLegs ys = true ∧ goodNs rs = true then ((impI xs ys rs 8 0 (rs, sc xs (ys.map (renL rs)))).1, (impI xs ys rs 8 0 (rs, sc xs (ys.map (renL rs)))).2, true) else ([], 0, false)) := by
    intro h
    rw [if_neg h]
    refine Evn.step ?_
    simp only [impl_ImproveRenaming.j0, if_true]
    exact Evn.done _
  refine Evn.bind (im_areLegs xs hx) ?_
  refine Evn.ite (fun c1 => ?_) (fun c1 => no (fun h => c1 h.1))
  refine Evn.bind (im_areLegs ys hy) ?_
  refine Evn.ite (fun c2 => ?_) (fun c2 => no (fun h => c2 h.2.1))
  refine Evn.bind (im_IsRenaming rs hr) ?_
  by_cases c3 : goodNs rs = true
  · rw [if_pos ⟨c1, c2, c3⟩]
    have hl := goodNs_len c3
    simp only [c3, Bool.not_true]
    refine Evn.step ?_
    simp only [impl_ImproveRenaming.j0, Bool.false_eq_true, if_false, clone_int rs (by omega), Option.bind_some]
    refine Evn.bind (im_matchScore xs ys rs c2 hl) ?_
    exact im_Improve_l0 xs ys rs c2 hl 8 0 rs _ (by omega)
  · have e : (!goodNs rs) = true := by rw [Bool.eq_false_iff.mpr c3]; rfl
    simp only [e]
    exact no (fun h => c3 h.2.2)

theorem ev_vLegs_l0 (xs : List S70) : ∀ (D i : Nat), i + D = xs.length → xs.length ≤ 4194304 → Evn (fun k => laws_vLegs.l0 k xs xs (i : Int)) true := by
  intro D
  induction D with
  | zero =>
    intro i h hx
    refine Evn.step ?_
    have h1 : ¬ (i : Int) < (xs.length : Int) := by omega
    simp only [laws_vLegs.l0, if_neg h1]
    exact Evn.done _
  | succ D ih =>
    intro i h hx
    refine Evn.step ?_
    have h1 : (i : Int) < (xs.length : Int) := by omega
    have h2 : 0 ≤ (i : Int) := by omega
    simp only [laws_vLegs.l0, if_pos h1, if_pos h2, beq_self_eq_true, Bool.not_true, Bool.or_self, Bool.false_eq_true, if_false, wrap_succ (show i < 4611686018427387904 by omega)]
    exact ih (i + 1) (by omega) hx
theorem ev_vLegs (xs : List S70) (hx : xs.length ≤ 4194304) : Evn (fun k => laws_vLegs.f k xs xs) true := by
  unfold laws_vLegs.f
  simp only [if_true]
  exact ev_vLegs_l0 xs xs.length 0 (by omega) hx

theorem ev_vInts_l0 (xs ys : List Int) (e : xs = ys) : ∀ (D i : Nat), i + D = xs.length → xs.length ≤ 4611686018427387904 → Evn (fun k => laws_vInts.l0 k xs ys (i : Int)) true := by
  subst e
  intro D
  induction D with
  | zero =>
    intro i h hx
    refine Evn.step ?_
    have h1 : ¬ (i : Int) < (xs.length : Int) := by omega
    simp only [laws_vInts.l0, if_neg h1]
    exact Evn.done _
  | succ D ih =>
    intro i h hx
    refine Evn.step ?_
    have h1 : (i : Int) < (xs.length : Int) := by omega
    have h2 : 0 ≤ (i : Int) := by omega
    simp only [laws_vInts.l0, if_pos h1, if_pos h2, if_true, wrap_succ (show i < 4611686018427387904 by omega)]
    exact ih (i + 1) (by omega) hx
theorem ev_vInts (xs : List Int) (hx : xs.length ≤ 4611686018427387904) : Evn (fun k => laws_vInts.f k xs xs) true := by
  unfold laws_vInts.f
  simp only [if_true]
  exact ev_vInts_l0 xs xs rfl xs.length 0 (by omega) hx

/-! Renamed and renamed back. -/
theorem pig0 : ∀ (n : Nat) (l : List Nat), l.Nodup → (∀ x ∈ l, x < n) → l.length ≤ n := by
  intro n
  induction n with
  | zero =>
    intro l _ h
    cases l with
    | nil => exact Nat.le_refl _
    | cons x l => exact absurd (h x (List.mem_cons_self ..)) (by omega)
  | succ n ih =>
    intro l hn h
    have h1 := ih (l.erase n) (hn.erase n) (fun x hx => by
      have h2 := (hn.mem_erase_iff).1 hx
      have h3 := h x h2.2
      omega)
    rw [List.length_erase] at h1
    split at h1 <;> omega
theorem pig (l : List Nat) (n : Nat) (hn : l.Nodup) (h : ∀ x ∈ l, x < n) (hl : l.length = n) (p : Nat) (hp : p < n) : p ∈ l := by
  by_cases c : p ∈ l
  · exact c
  · have := pig0 n (p :: l) (List.nodup_cons.2 ⟨c, hn⟩) (fun x hx => by
      rcases List.mem_cons.1 hx with rfl | hx
      · exact hp
      · exact h x hx)
    rw [List.length_cons] at this
    omega
theorem perm8_onto {rs : List Int} (h : perm8 rs) (p : Nat) (hp : p < 8) : ∃ j, j < 8 ∧ rs.getD j 0 = (p : Int) := by
  obtain ⟨hl, hr, hn⟩ := h
  have hg : ∀ j (hj : j < rs.length), rs.getD j 0 = rs[j] := by
    intro j hj
    rw [List.getD_eq_getElem?_getD, List.getElem?_eq_getElem hj]
    rfl
  have hnd : (rs.map Int.toNat).Nodup := by
    rw [List.Nodup, List.pairwise_iff_getElem]
    intro i j hi hj hij
    rw [List.length_map] at hi hj
    rw [List.getElem_map, List.getElem_map]
    have h1 := hn i j hij (by omega)
    have h2 := hr i (by omega)
    have h3 := hr j (by omega)
    rw [hg i hi] at h1 h2
    rw [hg j hj] at h1 h3
    intro e
    apply h1
    omega
  have hm := pig (rs.map Int.toNat) 8 hnd (fun x hx => by
    obtain ⟨y, hy, rfl⟩ := List.mem_map.1 hx
    obtain ⟨j, hj, rfl⟩ := List.getElem_of_mem hy
    have := hr j (by omega)
    rw [hg j hj] at this
    omega) (by rw [List.length_map]; exact hl) p hp
  obtain ⟨y, hy, he⟩ := List.mem_map.1 hm
  obtain ⟨j, hj, rfl⟩ := List.getElem_of_mem hy
  refine ⟨j, by omega, ?_⟩
  have := hr j (by omega)
  rw [hg j hj] at this ⊢
  omega
theorem good_of_perm8 {rs : List Int} (h : perm8 rs) : goodNs rs = true := by
  obtain ⟨hl, hr, hn⟩ := h
  have go : ∀ (d i : Nat), i + d = 8 → goodN rs d i = true := by
    intro d
    induction d with
    | zero => intro i _; rw [goodN, hl]; rfl
    | succ d ih =>
      intro i hi
      rw [goodN, Bool.and_eq_true, Bool.and_eq_true]
      refine ⟨⟨decide_eq_true (hr i (by omega)), ?_⟩, ih (i + 1) (by omega)⟩
      rw [Bool.not_eq_true', List.contains_eq_mem, decide_eq_false_iff_not]
      intro hm
      obtain ⟨j, hj, he⟩ := List.mem_take_iff_getElem.1 hm
      have h1 := hn j i (by omega) (by omega)
      rw [List.getD_eq_getElem?_getD, List.getElem?_eq_getElem (by omega), Option.getD_some, he] at h1
      exact h1 rfl
  unfold goodNs
  rw [hl]
  exact go 8 0 (by omega)
theorem inv_keep (xs : List Int) (p : Nat) : ∀ (d i : Nat) (ys : List Int), i + d = 8 → ys.length = 8 → (∀ j, i ≤ j → j < 8 → (xs.getD j 0).toNat ≠ p) → (invN xs d i ys).getD p 0 = ys.getD p 0 := by
  intro d
  induction d with
  | zero => intro i ys _ _ _; rfl
  | succ d ih =>
    intro i ys h hy hp
    rw [invN, ih (i + 1) _ (by omega) (by rw [List.length_set]; exact hy) (fun j h1 h2 => hp j (by omega) h2)]
    rw [List.getD_eq_getElem?_getD, List.getElem?_set_ne (hp i (Nat.le_refl _) (by omega)), ← List.getD_eq_getElem?_getD]
theorem inv_hit {xs : List Int} (hx : perm8 xs) : ∀ (d i : Nat) (ys : List Int), i + d = 8 → ys.length = 8 → ∀ j, i ≤ j → j < 8 → (invN xs d i ys).getD (xs.getD j 0).toNat 0 = (j : Int) := by
  intro d
  induction d with
  | zero => intro i ys h _ j h1 h2; omega
  | succ d ih =>
    intro i ys h hy j h1 h2
    rw [invN]
    have hi := hx.2.1 i (by omega)
    by_cases e : j = i
    · subst e
      rw [inv_keep xs _ d (j + 1) _ (by omega) (by rw [List.length_set]; exact hy) (fun m h3 h4 => by
        have h5 := hx.2.2 j m (by omega) h4
        have h6 := hx.2.1 m h4
        omega)]
      rw [getD_set_ ys _ _ _ (by omega), if_pos rfl]
    · exact ih (i + 1) _ (by omega) (by rw [List.length_set]; exact hy) j (by omega) h2
theorem invR (xs : List Int) : ∀ (d i : Nat) (ys : List Int), i + d = 8 → (∀ p, 0 ≤ ys.getD p 0 ∧ ys.getD p 0 ≤ 7) → ∀ p, 0 ≤ (invN xs d i ys).getD p 0 ∧ (invN xs d i ys).getD p 0 ≤ 7 := by
  intro d
  induction d with
  | zero => intro i ys _ h; exact h
  | succ d ih =>
    intro i ys hi h
    refine ih (i + 1) _ (by omega) (fun p => ?_)
    rw [List.getD_eq_getElem?_getD, List.getElem?_set]
    split
    · split
      · show 0 ≤ (i : Int) ∧ (i : Int) ≤ 7
        omega
      · show (0 : Int) ≤ 0 ∧ (0 : Int) ≤ 7
        omega
    · rw [← List.getD_eq_getElem?_getD]; exact h p
theorem rep_getD (p : Nat) : (List.replicate 8 (0 : Int)).getD p 0 = 0 := by
  rw [List.getD_eq_getElem?_getD, List.getElem?_replicate]
  split <;> rfl
def invL (xs : List Int) : List Int := invN xs 8 0 (List.replicate 8 0)
theorem invL_hit {xs : List Int} (hx : perm8 xs) (j : Nat) (hj : j < 8) : (invL xs).getD (xs.getD j 0).toNat 0 = (j : Int) := inv_hit hx 8 0 _ (by omega) (by simp) j (Nat.zero_le _) hj
theorem invL_perm {xs : List Int} (hx : perm8 xs) : perm8 (invL xs) := by
  refine ⟨by unfold invL; rw [invN_len, List.length_replicate], fun i _ => invR xs 8 0 _ (by omega) (fun p => by rw [rep_getD]; omega) i, fun i j hij hj => ?_⟩
  obtain ⟨a, ha, ea⟩ := perm8_onto hx i (by omega)
  obtain ⟨b, hb, eb⟩ := perm8_onto hx j hj
  have h1 := invL_hit hx a ha
  have h2 := invL_hit hx b hb
  rw [ea, Int.toNat_natCast] at h1
  rw [eb, Int.toNat_natCast] at h2
  rw [h1, h2]
  intro e
  have e : a = b := by omega
  subst e
  omega
theorem invNs_eq {xs : List Int} (h : goodNs xs = true) : invNs xs = (invL xs, true) := by
  unfold invNs invL
  rw [if_pos h, goodNs_len h]
theorem ren_back {ys : List Int} (h : perm8 ys) {x : S70} (hx : okLeg x = true) : renL (invL ys) (renL ys x) = x := by
  obtain ⟨⟨a1, a2⟩, ⟨b1, b2⟩, _⟩ := okLeg_in hx
  have h1 := invL_hit h x.f0.toNat (by omega)
  have h2 := invL_hit h x.f1.toNat (by omega)
  unfold renL
  dsimp only
  rw [h1, h2]
  have e1 : ((x.f0.toNat : Nat) : Int) = x.f0 := by omega
  have e2 : ((x.f1.toNat : Nat) : Int) = x.f1 := by omega
  rw [e1, e2]
theorem good_ren {xs : List S70} {ys : List Int} (hx : goodLegs xs = true) (h : perm8 ys) : goodLegs (xs.map (renL ys)) = true := by
  have h1 := ren_all8 h hx
  have h2 := goodLegs_len hx
  simp only [goodLegs, Bool.and_eq_true, List.all_eq_true]
  refine ⟨h1, ?_⟩
  have : goodLegs xs = true := hx
  simp only [goodLegs, Bool.and_eq_true] at this
  rw [List.length_map]
  exact this.2
theorem back_legs {xs : List S70} {ys : List Int} (hx : goodLegs xs = true) (hy : goodNs ys = true) : renLs (xs.map (renL ys)) (invL ys) = (xs, true) := by
  have hp := perm8_good hy
  unfold renLs
  rw [if_pos ⟨good_ren hx hp, good_of_perm8 (invL_perm hp)⟩, List.map_map]
  have e : xs.map (renL (invL ys) ∘ renL ys) = xs := by
    have hall := hx
    simp only [goodLegs, Bool.and_eq_true, List.all_eq_true] at hall
    have : ∀ l : List S70, (∀ x ∈ l, okLeg x = true) → l.map (renL (invL ys) ∘ renL ys) = l := by
      intro l hl
      induction l with
      | nil => rfl
      | cons a l ih =>
        rw [List.map_cons, ih (fun x hx => hl x (List.mem_cons_of_mem _ hx))]
        show renL (invL ys) (renL ys a) :: l = a :: l
        rw [ren_back hp (hl a (List.mem_cons_self ..))]
    exact this xs hall.1
  rw [e]
theorem same_then {ys : List Int} (hy : goodNs ys = true) : thenNs ys (invL ys) = ([0, 1, 2, 3, 4, 5, 6, 7], true) := by
  have hp := perm8_good hy
  unfold thenNs
  rw [if_pos ⟨hy, good_of_perm8 (invL_perm hp)⟩]
  have e : ys.map (fun s => (invL ys).getD s.toNat 0) = (List.range 8).map (fun n : Nat => (n : Int)) := by
    apply List.ext_getElem
    · rw [List.length_map, List.length_map, List.length_range]; exact hp.1
    · intro i h1 h2
      rw [List.length_map] at h1
      rw [List.getElem_map, List.getElem_map, List.getElem_range]
      have := invL_hit hp i (by have := hp.1; omega)
      rw [List.getD_eq_getElem?_getD (l := ys), List.getElem?_eq_getElem h1] at this
      exact this
  rw [e]
  rfl
/-! Improved renamings match at least as well. -/
def impOk (xs ys : List S70) (m : Int) (b : List Int × Int) : Prop := perm8 b.1 ∧ b.2 = sc xs (ys.map (renL b.1)) ∧ m ≤ b.2
theorem impJ_ok (xs ys : List S70) {rs : List Int} (hr : perm8 rs) (m : Int) (i : Nat) (hi : i < 8) : ∀ d j b, j + d ≤ 8 → impOk xs ys m b → impOk xs ys m (impJ xs ys rs i d j b) := by
  intro d
  induction d with
  | zero => intro j b _ h; exact h
  | succ d ih =>
    intro j b hj h
    refine ih (j + 1) _ (by omega) ?_
    unfold better
    split
    · rename_i c
      exact ⟨perm8_swap hr hi (by omega), rfl, by have := h.2.2; show m ≤ sc xs (ys.map (renL (swapL rs i j))); omega⟩
    · exact h
theorem impI_ok (xs ys : List S70) {rs : List Int} (hr : perm8 rs) (m : Int) : ∀ d i b, i + d = 8 → impOk xs ys m b → impOk xs ys m (impI xs ys rs d i b) := by
  intro d
  induction d with
  | zero => intro i b _ h; exact h
  | succ d ih => intro i b hi h; exact ih (i + 1) _ (by omega) (impJ_ok xs ys hr m i (by omega) _ _ b (by omega) h)
theorem improved {xs ys : List S70} {rs : List Int} (h : (impTs xs ys rs).2.2 = true) : scTs xs ys rs = (sc xs (ys.map (renL rs)), true) ∧ scTs xs ys (impTs xs ys rs).1 = ((impTs xs ys rs).2.1, true) ∧ sc xs (ys.map (renL rs)) ≤ (impTs xs ys rs).2.1 ∧ (impTs xs ys rs).2.1 ≤ (ys.length : Int) ∧ (impTs xs ys rs).1.length = 8 := by
  unfold impTs at h ⊢
  by_cases c : goodLegs xs = true ∧ goodLegs ys = true ∧ goodNs rs = true
  · rw [if_pos c]
    have hp := perm8_good c.2.2
    obtain ⟨k1, k2, k3⟩ := impI_ok xs ys hp (sc xs (ys.map (renL rs))) 8 0 (rs, sc xs (ys.map (renL rs))) (by omega) ⟨hp, rfl, Int.le_refl _⟩
    generalize impI xs ys rs 8 0 (rs, sc xs (ys.map (renL rs))) = b at k1 k2 k3
    dsimp only
    unfold scTs
    rw [if_pos c, if_pos ⟨c.1, c.2.1, good_of_perm8 k1⟩, ← k2]
    have := sc_le xs (ys.map (renL b.1))
    rw [List.length_map, ← k2] at this
    exact ⟨rfl, rfl, k3, this.2, k1.1⟩
  · rw [if_neg c] at h; cases h

theorem byts_of {l : List Int} (h : ∀ x ∈ l, (Lit.int .u8 x).wf = true) : Byts l := by
  intro x hx
  have h1 := h x hx
  simp [Lit.wf, IntKind.min, IntKind.max, IntKind.signed, IntKind.bits] at h1
  omega

theorem renLs_len (xs : List S70) (ys : List Int) : (renLs xs ys).1.length ≤ xs.length := by
  unfold renLs
  split
  · rw [List.length_map]; exact Nat.le_refl _
  · exact Nat.zero_le _
theorem thenNs_len (xs ys : List Int) : (thenNs xs ys).1.length ≤ xs.length := by
  unfold thenNs
  split
  · rw [List.length_map]; exact Nat.le_refl _
  · exact Nat.zero_le _
theorem invNs_len (xs : List Int) : (invNs xs).1.length ≤ 8 := by
  unfold invNs
  split
  · rw [invN_len, List.length_replicate]; exact Nat.le_refl _
  · exact Nat.zero_le _
theorem impTs_len (xs ys : List S70) (rs : List Int) : (impTs xs ys rs).1.length ≤ rs.length := by
  unfold impTs
  split
  · dsimp only; rw [impI_len _ _ rs 8 0 _ rfl]; exact Nat.le_refl _
  · exact Nat.zero_le _
theorem FnRenamings : laws_FnRenamings.Pure := by
  intro l hl _ hb
  apply Evn.get
  have hB : Byts l := byts_of hb
  have tail : Evn (fun k => (spec_DrawMatchScore.f k l).bind fun bt760 => ((impl_MatchScore.f k bt760.1 bt760.2.1 bt760.2.2).bind fun bt769 => ((spec_MatchScore.f k bt760.1 bt760.2.1 bt760.2.2).bind fun bt771 => (if bt769.1 = bt771.1 then (some (bt769.2 == bt771.2)) else (some false))))) true := by
    obtain ⟨t, ht, t1, t2, t3⟩ := dw_DrawMatchScore hB
    refine Evn.bind ht (Evn.bind (im_MatchScore t.1 t.2.1 t.2.2 (by omega) (by omega) (by omega)) (Evn.bind (sp_MatchScore t.1 t.2.1 t.2.2 (by omega) (by omega) (by omega)) ?_))
    simp only [if_true, beq_self_eq_true]
    exact Evn.done _
  have j3 : Evn (fun k => laws_FnRenamings.j3 k l false) true := by
    refine Evn.step ?_
    simp only [laws_FnRenamings.j3, Bool.false_eq_true, if_false]
    obtain ⟨t, ht, t1, t2, t3⟩ := dw_DrawImproveRenaming hB
    refine Evn.bind ht ?_
    obtain ⟨a, b, r⟩ := t
    dsimp only at t1 t2 t3 ⊢
    refine Evn.bind (im_ImproveRenaming a b r (by omega) (by omega) (by omega)) (Evn.bind (sp_ImproveRenaming a b r (by omega) (by omega) (by omega)) ?_)
    simp only [bne_self_eq_false, Bool.false_eq_true, if_false, if_true]
    have hlen := impTs_len a b r
    refine Evn.bind (ev_vInts _ (by omega)) ?_
    simp only [Bool.not_true]
    refine Evn.step ?_
    simp only [laws_FnRenamings.j4, Bool.false_eq_true, if_false]
    refine Evn.ite (fun ok => ?_) (fun _ => tail)
    obtain ⟨k1, k2, k3, k4, k5⟩ := improved ok
    have m1 := im_MatchScore a b r (by omega) (by omega) (by omega)
    have m2 := im_MatchScore a b (impTs a b r).1 (by omega) (by omega) (by omega)
    rw [k1] at m1
    rw [k2] at m2
    refine Evn.bind m1 (Evn.bind m2 ?_)
    have e1 : ¬ sc a (b.map (renL r)) > (impTs a b r).2.1 := by omega
    have e2 : decide ((impTs a b r).2.1 > (b.length : Int)) = false := decide_eq_false (by omega)
    simp only [if_true, if_neg e1, e2]
    refine Evn.step ?_
    simp only [laws_FnRenamings.j5, Bool.false_eq_true, if_false]
    exact tail
  have j2 : Evn (fun k => laws_FnRenamings.j2 k l) true := by
    refine Evn.step ?_
    simp only [laws_FnRenamings.j2]
    obtain ⟨t, ht, t1, t2⟩ := dw_DrawThenRenaming hB
    have hlen := thenNs_len t.1 t.2
    refine Evn.bind ht (Evn.bind (im_ThenRenaming t.1 t.2 (by omega) (by omega)) (Evn.bind (sp_ThenRenaming t.1 t.2 (by omega) (by omega)) ?_))
    simp only [bne_self_eq_false, Bool.false_eq_true, if_false]
    refine Evn.bind (ev_vInts _ (by omega)) ?_
    simp only [Bool.not_true]
    exact j3
  unfold laws_FnRenamings.f laws_vBig.f
  simp only [Option.bind_some]
  refine Evn.ite (fun _ => Evn.done _) (fun _ => ?_)
  obtain ⟨t, ht, t1, t2⟩ := dw_DrawRenameLegs hB
  refine Evn.bind ht ?_
  obtain ⟨L, r⟩ := t
  dsimp only at t1 t2 ⊢
  have hR := renLs_len L r
  have hI := invNs_len r
  refine Evn.bind (im_RenameLegs L r (by omega) (by omega)) (Evn.bind (sp_RenameLegs L r (by omega) (by omega)) ?_)
  simp only [bne_self_eq_false, Bool.false_eq_true, if_false]
  refine Evn.bind (ev_vLegs _ (by omega)) ?_
  simp only [Bool.not_true]
  refine Evn.step ?_
  simp only [laws_FnRenamings.j0, Bool.false_eq_true, if_false]
  refine Evn.bind (im_InverseRenaming r (by omega)) (Evn.bind (sp_InverseRenaming r (by omega)) ?_)
  simp only [bne_self_eq_false, Bool.false_eq_true, if_false]
  refine Evn.bind (im_IsRenaming r (by omega)) ?_
  have hg : ((invNs r).2 != goodNs r) = false := by
    unfold invNs
    by_cases g : goodNs r = true
    · rw [if_pos g, g]; rfl
    · rw [if_neg g, Bool.eq_false_iff.mpr g]; rfl
  simp only [hg, Bool.false_eq_true, if_false]
  refine Evn.bind (ev_vInts _ (by omega)) ?_
  simp only [Bool.not_true]
  refine Evn.step ?_
  simp only [laws_FnRenamings.j1, Bool.false_eq_true, if_false]
  refine Evn.ite (fun ok => ?_) (fun _ => j2)
  have hc : goodLegs L = true ∧ goodNs r = true := by
    unfold renLs at ok
    by_cases c : goodLegs L = true ∧ goodNs r = true
    · exact c
    · rw [if_neg c] at ok; cases ok
  have e1 : (renLs L r).1 = L.map (renL r) := by unfold renLs; rw [if_pos hc]
  have e2 := invNs_eq hc.2
  have b1 := im_RenameLegs (L.map (renL r)) (invL r) (by rw [List.length_map]; omega) (by have := (invL_perm (perm8_good hc.2)).1; omega)
  rw [back_legs hc.1 hc.2] at b1
  have b2 := im_ThenRenaming r (invL r) (by omega) (by have := (invL_perm (perm8_good hc.2)).1; omega)
  rw [same_then hc.2] at b2
  rw [e1, e2]
  refine Evn.bind b1 (Evn.bind b2 ?_)
  simp only [if_true]
  refine Evn.bind (ev_vLegs L (by omega)) ?_
  simp only [if_true]
  refine Evn.bind (ev_vInts _ (by decide)) ?_
  simp only [if_true]
  exact j2

end Go.Proofs.Ytfaojmabalplfaa.Pure
