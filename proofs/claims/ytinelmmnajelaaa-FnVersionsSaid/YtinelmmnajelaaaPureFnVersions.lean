/- The plain statement of FnVersions: its plain function returns true at every input. No condition beyond the arguments' own bounds. -/
import Derived.Test.YtinelmmnajelaaaQFnVersionsx15
import Derived.Test.YtinelmmnajelaaaVUAid
namespace Go.Proofs.Ytinelmmnajelaaa.Pure
open Go.RowKit Go.Proofs.YtinelmmnajelaaaW.PrintWords Go.Proofs.YtinelmmnajelaaaW.PrintLast Go.Proofs.Ytinelmmnajelaaa.Aid Go.Proofs.Ytinelmmnajelaaa.QFnVersions
set_option linter.unusedVariables false
set_option linter.unusedSimpArgs false

theorem sp_l1In (x y z : Int) : spec_l1In.f x y z = some (decide (y ≤ x ∧ x ≤ z)) := by
  unfold spec_l1In.f
  by_cases h : x ≥ y <;> simp [h] <;> omega

theorem sp_l4Station (x : Int) : spec_l4Station.f x = some (decide (0 ≤ x ∧ x ≤ 7)) := by
  simp only [spec_l4Station.f, sp_l1In, Option.bind_some]

/-! A leg's rules. -/
def okLeg (x : S26) : Bool := decide (0 ≤ x.f0 ∧ x.f0 ≤ 7) && (decide (0 ≤ x.f1 ∧ x.f1 ≤ 7) && (!decide (x.f0 = x.f1) && (decide (1 ≤ x.f2 ∧ x.f2 ≤ 500) && (decide (0 ≤ x.f3 ∧ x.f3 ≤ 359) && decide (-90 ≤ x.f4 ∧ x.f4 ≤ 90)))))
def goodLegs (xs : List S26) : Bool := xs.all okLeg && decide (xs.length ≤ 12)
theorem goodLegs_len {xs : List S26} (h : goodLegs xs = true) : xs.length ≤ 12 := by
  simp only [goodLegs, Bool.and_eq_true, decide_eq_true_eq] at h
  exact h.2
theorem goodLegs_ok {xs : List S26} (h : goodLegs xs = true) (j : Nat) (hj : j < xs.length) : okLeg (xs.getD j z26) = true := by
  simp only [goodLegs, Bool.and_eq_true, List.all_eq_true] at h
  refine h.1 _ ?_
  rw [List.getD_eq_getElem?_getD, List.getElem?_eq_getElem hj]
  exact List.getElem_mem hj
theorem okLeg_in {x : S26} (h : okLeg x = true) : (0 ≤ x.f0 ∧ x.f0 ≤ 7) ∧ (0 ≤ x.f1 ∧ x.f1 ≤ 7) ∧ ¬ x.f0 = x.f1 ∧ (1 ≤ x.f2 ∧ x.f2 ≤ 500) ∧ (0 ≤ x.f3 ∧ x.f3 ≤ 359) ∧ (-90 ≤ x.f4 ∧ x.f4 ≤ 90) := by
  simp only [okLeg, Bool.and_eq_true, decide_eq_true_eq, Bool.not_eq_true', decide_eq_false_iff_not] at h
  exact h
theorem ite_not (c : Prop) [Decidable c] (x : Bool) : (if c then some false else some x) = some (!decide c && x) := by
  by_cases h : c <;> simp [h]

theorem sp_l4Leg (x : S26) : spec_l4Leg.f x.f0 x.f1 x.f2 x.f3 x.f4 = some (okLeg x) := by
  simp only [spec_l4Leg.f, sp_l4Station, spec_l2Bearing.f, sp_l1In, Option.bind_some, ite_and, ite_not, okLeg]

theorem ib_some {b : Bool} : (if b = true then (some true) else (some false)) = some b := by cases b <;> rfl
def zeroB (a b c d e : Int) : Bool := a == 0 && (b == 0 && (c == 0 && (d == 0 && (e == 0))))
def editB (k a : Int) (x y : S26) : Bool :=
  if decide (0 ≤ a ∧ a ≤ 11) = true then
    (if k = 1 then (if zeroB x.f0 x.f1 x.f2 x.f3 x.f4 = true then okLeg y else false)
     else if k = 2 then (if okLeg x = true then zeroB y.f0 y.f1 y.f2 y.f3 y.f4 else false)
     else if k = 3 then (if okLeg x = true then (if okLeg y = true then (!(x.f0 == y.f0) || (!(x.f1 == y.f1) || (!(x.f2 == y.f2) || (!(x.f3 == y.f3) || (!(x.f4 == y.f4)))))) else false) else false)
     else false)
  else false
theorem sp_l19Valid (k a : Int) (x y : S26) : spec_l19Valid.f k a x.f0 x.f1 x.f2 x.f3 x.f4 y.f0 y.f1 y.f2 y.f3 y.f4 = some (editB k a x y) := by
  simp only [spec_l19Valid.f, sp_l4Leg, sp_l1In, Option.bind_some]
  unfold editB zeroB
  repeat' split
  all_goals rfl

theorem sp_l4Legs_l0 (xs : List S26) (hx : xs.length ≤ 4194304) : ∀ (d i : Nat), i + d = xs.length → Evn (fun k => spec_l4Legs.l0 k xs (i : Int)) ((xs.drop i).all okLeg && decide (xs.length ≤ 12)) := by
  intro d
  induction d with
  | zero =>
    intro i h
    refine Evn.step ?_
    have h1 : ¬ (i : Int) < (xs.length : Int) := by omega
    simp only [spec_l4Legs.l0, if_neg h1]
    rw [List.drop_eq_nil_of_le (by omega)]
    refine (Evn.done _).eq_ ?_
    simp only [List.all_nil, Bool.true_and, decide_eq_decide]
    omega
  | succ d ih =>
    intro i h
    refine Evn.step ?_
    have h1 : (i : Int) < (xs.length : Int) := by omega
    have h2 : 0 ≤ (i : Int) := by omega
    simp only [spec_l4Legs.l0, if_pos h1, if_pos h2, sp_l4Leg, Option.bind_some, wrap_succ (show i < 4611686018427387904 by omega), rd_T26, Int.toNat_natCast]
    rw [getD_drop xs i z26 (by omega), List.all_cons]
    exact Evn.ite (fun c => (ih (i + 1) (by omega)).eq_ (by simp only [c, Bool.true_and])) (fun c => (Evn.done _).eq_ (by simp only [Bool.eq_false_iff.mpr c, Bool.false_and]))
theorem sp_l4Legs (xs : List S26) (hx : xs.length ≤ 4194304) : Evn (fun k => spec_l4Legs.f k xs) (goodLegs xs) := by
  have h := sp_l4Legs_l0 xs hx xs.length 0 (by omega)
  simpa [spec_l4Legs.f, goodLegs] using h

def neqL (x y : S26) : Bool := !(x.f0 == y.f0) || (!(x.f1 == y.f1) || (!(x.f2 == y.f2) || (!(x.f3 == y.f3) || (!(x.f4 == y.f4)))))

/-! An edit made: the legs after it, and whether it's possible. -/
def appL (l : List S26) (k a : Int) (x y : S26) : List S26 × Bool :=
  if editB k a x y = true then
    (if k = 1 then (if a > (l.length : Int) then ([], false) else if l.length = 12 then ([], false) else (l.take a.toNat ++ (y :: l.drop a.toNat), true))
     else (if a ≥ (l.length : Int) then ([], false) else if neqL (l.getD a.toNat z26) x = true then ([], false) else if k = 2 then (l.take a.toNat ++ l.drop (a.toNat + 1), true) else (l.take a.toNat ++ (y :: l.drop (a.toNat + 1)), true)))
  else ([], false)
theorem editB_in {k a : Int} {x y : S26} (h : editB k a x y = true) : (0 ≤ a ∧ a ≤ 11) ∧ (k = 1 ∨ k = 2 ∨ k = 3) := by
  unfold editB at h
  split at h
  · rename_i c
    refine ⟨of_decide_eq_true c, ?_⟩
    split at h
    · left; assumption
    · split at h
      · right; left; assumption
      · split at h
        · right; right; assumption
        · cases h
  · cases h
theorem appL_len {l : List S26} (hl : l.length ≤ 12) (k a : Int) (x y : S26) : (appL l k a x y).1.length ≤ 12 := by
  unfold appL
  split
  · rename_i hE
    have ha := (editB_in hE).1
    split
    · split
      · simp
      · split
        · simp
        · dsimp only
          rw [List.length_append, List.length_cons, List.length_take, List.length_drop]; omega
    · split
      · simp
      · split
        · simp
        · split
          · dsimp only
            rw [List.length_append, List.length_take, List.length_drop]; omega
          · dsimp only
            rw [List.length_append, List.length_cons, List.length_take, List.length_drop]; omega
  · simp

theorem sp_l19Apply (l : List S26) (hl : l.length ≤ 12) (kd a : Int) (x y : S26) :
    ∃ o : List S26, Evn (fun k => spec_l19Apply.f k l kd a x.f0 x.f1 x.f2 x.f3 x.f4 y.f0 y.f1 y.f2 y.f3 y.f4) (o, (appL l kd a x y).2) ∧ ((appL l kd a x y).2 = true → o = (appL l kd a x y).1) := by
  have no : Evn (fun k => spec_l19Apply.j0 k l [] true kd a x.f0 x.f1 x.f2 x.f3 x.f4 y.f0 y.f1 y.f2 y.f3 y.f4) ([], false) := by
    refine Evn.step ?_
    simp only [spec_l19Apply.j0, if_true]
    exact Evn.done _
  unfold spec_l19Apply.f
  simp only [Option.bind_some, sp_l19Valid]
  by_cases hE : editB kd a x y = true
  · obtain ⟨⟨ha0, ha1⟩, hk⟩ := editB_in hE
    have hw : wrap64 (a + 1) = a + 1 := wrap_id (by omega) (by omega)
    have ht : (a + 1).toNat = a.toNat + 1 := by omega
    have h0 : (0 : Int) ≤ a + 1 := by omega
    simp only [hE, if_true]
    unfold appL
    rw [if_pos hE]
    by_cases c1 : a > (l.length : Int)
    · refine ⟨[], ?_, ?_⟩
      · simp only [if_pos c1]
        have e : (if kd = 1 then (([] : List S26), false) else if a ≥ (l.length : Int) then ([], false) else if neqL (l.getD a.toNat z26) x = true then ([], false) else if kd = 2 then (l.take a.toNat ++ l.drop (a.toNat + 1), true) else (l.take a.toNat ++ (y :: l.drop (a.toNat + 1)), true)).2 = false := by
          split
          · rfl
          · rw [if_pos (by omega)]
        rw [e]
        exact no
      · intro h
        rw [if_pos c1, if_pos (show a ≥ (l.length : Int) by omega)] at h
        split at h <;> cases h
    · simp only [if_neg c1]
      have c2 : a ≤ (l.length : Int) := by omega
      have lT : (l.take a.toNat).length = a.toNat := by rw [List.length_take]; omega
      by_cases k1 : kd = 1
      · simp only [if_pos k1]
        refine ⟨l.take a.toNat ++ (y :: l.drop a.toNat), ?_, ?_⟩
        · refine Evn.step ?_
          simp only [spec_l19Apply.j0, Bool.false_eq_true, if_false, if_pos ha0, if_pos c2, Option.bind_some, List.nil_append, List.length_nil, if_pos k1]
          refine Evn.ite (fun _ => ?_) (fun h => absurd (by rw [lT]; omega) h)
          refine Evn.ite (fun _ => ?_) (fun h => absurd (by rw [lT]; omega) h)
          refine Evn.ite (fun _ => ?_) (fun h => absurd (by rw [List.length_append, lT, List.length_drop, List.length_singleton]; omega) h)
          refine (Evn.done _).eq_ ?_
          rw [List.append_assoc, List.singleton_append, List.length_append, List.length_cons, lT, List.length_drop]
          congr 1
          by_cases c3 : l.length = 12
          · rw [if_pos c3]; exact decide_eq_false (by omega)
          · rw [if_neg c3]; exact decide_eq_true (by omega)
        · intro h
          by_cases c3 : l.length = 12
          · rw [if_pos c3] at h; cases h
          · rw [if_neg c3]
      · simp only [if_neg k1]
        by_cases c3 : a = (l.length : Int)
        · refine ⟨[], ?_, ?_⟩
          · simp only [if_pos c3]
            rw [if_pos (show a ≥ (l.length : Int) by omega)]
            exact no
          · intro h
            rw [if_pos (show a ≥ (l.length : Int) by omega)] at h
            cases h
        · have c4 : a < (l.length : Int) := by omega
          have c5 : a + 1 ≤ (l.length : Int) := by omega
          simp only [if_neg c3, if_pos ha0, if_pos c4, if_neg (show ¬ a ≥ (l.length : Int) by omega), rd_T26]
          have eb : ∀ b : Bool, neqL (l.getD a.toNat z26) x = b → Evn (fun k => spec_l19Apply.j0 k l [] b kd a x.f0 x.f1 x.f2 x.f3 x.f4 y.f0 y.f1 y.f2 y.f3 y.f4) (if b = true then ([], false) else if kd = 2 then (l.take a.toNat ++ l.drop (a.toNat + 1), true) else (l.take a.toNat ++ (y :: l.drop (a.toNat + 1)), true)) := by
            intro b hb
            cases b with
            | true => rw [if_pos rfl]; exact no
            | false =>
              rw [if_neg (by decide)]
              refine Evn.step ?_
              simp only [spec_l19Apply.j0, Bool.false_eq_true, if_false, if_pos ha0, if_pos c2, Option.bind_some, List.nil_append, List.length_nil, if_neg k1, hw, if_pos h0, if_pos c5, ht]
              refine Evn.ite (fun _ => ?_) (fun h => absurd (by rw [lT]; omega) h)
              by_cases k2 : kd = 2
              · simp only [if_pos k2]
                refine Evn.ite (fun _ => ?_) (fun h => absurd (by rw [lT, List.length_drop]; omega) h)
                refine (Evn.done _).eq_ ?_
                rw [List.length_append, lT, List.length_drop]
                congr 1
                exact decide_eq_true (by omega)
              · simp only [if_neg k2]
                refine Evn.ite (fun _ => ?_) (fun h => absurd (by rw [lT]; omega) h)
                refine Evn.ite (fun _ => ?_) (fun h => absurd (by rw [List.length_append, lT, List.length_drop, List.length_singleton]; omega) h)
                refine (Evn.done _).eq_ ?_
                rw [List.append_assoc, List.singleton_append, List.length_append, List.length_cons, lT, List.length_drop]
                congr 1
                exact decide_eq_true (by omega)
          refine ⟨_, eb _ rfl, fun _ => rfl⟩
  · refine ⟨[], ?_, ?_⟩
    · have e : (appL l kd a x y).2 = false := by unfold appL; rw [if_neg hE]
      rw [e]
      simp only [if_neg hE]
      exact no
    · intro h
      unfold appL at h
      rw [if_neg hE] at h
      cases h

def appTs (l : List S26) (k a : Int) (x y : S26) : List S26 × Bool :=
  if goodLegs l = true then (if (appL l k a x y).2 = true then ((appL l k a x y).1, true) else ([], false)) else ([], false)
theorem appTs_len (l : List S26) (k a : Int) (x y : S26) : (appTs l k a x y).1.length ≤ 4194304 := by
  unfold appTs
  split
  · rename_i h
    have := appL_len (goodLegs_len h) k a x y
    split
    · dsimp only; omega
    · simp
  · simp
theorem sp_ApplyEdit (l : List S26) (hl : l.length ≤ 4194304) (kd a : Int) (x y : S26) : Evn (fun k => spec_ApplyEdit.f k l kd a x.f0 x.f1 x.f2 x.f3 x.f4 y.f0 y.f1 y.f2 y.f3 y.f4) (appTs l kd a x y) := by
  unfold spec_ApplyEdit.f appTs
  refine Evn.bind (sp_l4Legs l hl) ?_
  refine Evn.ite (fun c => ?_) (fun c => by rw [if_neg c]; exact Evn.done _)
  rw [if_pos c]
  obtain ⟨o, ho, he⟩ := sp_l19Apply l (goodLegs_len c) kd a x y
  refine Evn.bind ho ?_
  dsimp only
  refine Evn.ite (fun c2 => ?_) (fun c2 => by rw [if_neg c2]; exact Evn.done _)
  rw [if_pos c2, ← he c2]
  exact Evn.done _

/-! Histories: the legs after all edits; all versions. -/
def apE (l : List S26) (e : S28) : List S26 × Bool := appL l e.f0 e.f1 e.f2 e.f3
def runB : List S26 → List S28 → List S26 × Bool
  | l, [] => (l, true)
  | l, e :: es => if (apE l e).2 = true then runB (apE l e).1 es else ([], false)
def versL : List S26 → List S28 → List (List S26)
  | l, [] => [l]
  | l, e :: es => l :: versL (apE l e).1 es
def goodH (l : List S26) (hs : List S28) : Bool := goodLegs l && (decide (hs.length ≤ 10) && (runB l hs).2)
theorem goodH_in {l : List S26} {hs : List S28} (h : goodH l hs = true) : goodLegs l = true ∧ hs.length ≤ 10 ∧ (runB l hs).2 = true := by
  simp only [goodH, Bool.and_eq_true, decide_eq_true_eq] at h
  exact h
theorem apE_len {l : List S26} (hl : l.length ≤ 12) (e : S28) : (apE l e).1.length ≤ 12 := appL_len hl _ _ _ _
theorem runB_len : ∀ (hs : List S28) (l : List S26), l.length ≤ 12 → (runB l hs).1.length ≤ 12
  | [], l, h => h
  | e :: es, l, h => by
    unfold runB
    split
    · exact runB_len es _ (apE_len h e)
    · simp
theorem versL_len : ∀ (hs : List S28) (l : List S26), (versL l hs).length = hs.length + 1
  | [], _ => rfl
  | e :: es, l => by rw [versL, List.length_cons, versL_len es, List.length_cons]
theorem take_drop_cons {α : Type} (xs : List α) (n i : Nat) (z : α) (hi : i < n) (hn : n ≤ xs.length) : (xs.take n).drop i = xs.getD i z :: (xs.take n).drop (i + 1) := by
  rw [getD_drop (xs.take n) i z (by rw [List.length_take]; omega)]
  congr 1
  rw [List.getD_eq_getElem?_getD, List.getD_eq_getElem?_getD, List.getElem?_take, if_pos hi]

theorem sp_l19Run_l0 (hs : List S28) (n : Nat) (hn : n ≤ hs.length) (hh : n ≤ 10) : ∀ (d i : Nat) (c : List S26), i + d = n → c.length ≤ 12 → Evn (fun k => spec_l19Run.l0 k hs (n : Int) c (i : Int)) (runB c ((hs.take n).drop i)) := by
  intro d
  induction d with
  | zero =>
    intro i c h hc
    refine Evn.step ?_
    have h1 : ¬ (i : Int) < (n : Int) := by omega
    simp only [spec_l19Run.l0, if_neg h1]
    rw [List.drop_eq_nil_of_le (by rw [List.length_take]; omega)]
    exact Evn.done _
  | succ d ih =>
    intro i c h hc
    have h1 : (i : Int) < (n : Int) := by omega
    have h2 : 0 ≤ (i : Int) := by omega
    have h3 : (i : Int) < (hs.length : Int) := by omega
    have hw := wrap_succ (show i < 4611686018427387904 by omega)
    refine Evn.step ?_
    simp only [spec_l19Run.l0, if_pos h1, if_pos h2, if_pos h3, hw, rd_T28, Int.toNat_natCast]
    clear hw
    rw [take_drop_cons hs n i z28 (by omega) hn]
    obtain ⟨o, ho, he⟩ := sp_l19Apply c hc (hs.getD i z28).f0 (hs.getD i z28).f1 (hs.getD i z28).f2 (hs.getD i z28).f3
    refine Evn.bind ho ?_
    dsimp only
    unfold runB
    unfold apE
    refine Evn.ite (fun c2 => ?_) (fun c2 => by rw [if_neg c2]; exact Evn.done _)
    rw [if_pos c2, he c2]
    exact ih (i + 1) _ (by omega) (appL_len hc _ _ _ _)
theorem sp_l19Run (l : List S26) (hs : List S28) (n : Nat) (hn : n ≤ hs.length) (hh : n ≤ 10) (hl : l.length ≤ 12) : Evn (fun k => spec_l19Run.f k l hs (n : Int)) (runB l (hs.take n)) := by
  unfold spec_l19Run.f
  simp only [Option.bind_some, List.length_nil, List.nil_append, Nat.zero_add]
  refine Evn.ite (fun _ => ?_) (fun h => absurd (by omega) h)
  have h := sp_l19Run_l0 hs n hn hh n 0 l (by omega) hl
  rw [List.drop_zero] at h
  exact h

theorem sp_l19Good (l : List S26) (hs : List S28) (hl : l.length ≤ 4194304) : Evn (fun k => spec_l19Good.f k l hs) (goodH l hs) := by
  unfold spec_l19Good.f goodH
  refine Evn.bind (sp_l4Legs l hl) ?_
  refine Evn.ite (fun c => ?_) (fun c => by rw [Bool.eq_false_iff.mpr c, Bool.false_and]; exact Evn.done _)
  rw [c, Bool.true_and]
  refine Evn.ite (fun c2 => by rw [decide_eq_false (by omega), Bool.false_and]; exact Evn.done _) (fun c2 => ?_)
  rw [decide_eq_true (by omega), Bool.true_and]
  have h := sp_l19Run l hs hs.length (Nat.le_refl _) (by omega) (goodLegs_len c)
  rw [List.take_length] at h
  refine Evn.bind h ?_
  exact Evn.done _

theorem sp_IsHistory (l : List S26) (hs : List S28) (hl : l.length ≤ 4194304) : Evn (fun k => spec_IsHistory.f k l hs) (goodH l hs) := by
  unfold spec_IsHistory.f
  refine Evn.bind (sp_l19Good l hs hl) ?_
  exact Evn.done _

theorem vers_at : ∀ (hs : List S28) (l : List S26) (m : Nat), (runB l hs).2 = true → m ≤ hs.length → (versL l hs).getD m [] = (runB l (hs.take m)).1
  | [], l, m, _, hm => by
    obtain rfl : m = 0 := by simpa using hm
    rfl
  | e :: es, l, 0, _, _ => rfl
  | e :: es, l, m + 1, h, hm => by
    unfold runB at h
    split at h
    · rename_i c
      rw [versL, List.take_succ_cons, runB, if_pos c]
      exact vers_at es _ m h (by simpa using hm)
    · cases h
def atTs (l : List S26) (hs : List S28) (n : Int) : List S26 × Bool := if goodH l hs = true ∧ (0 ≤ n ∧ n ≤ (hs.length : Int)) then ((runB l (hs.take n.toNat)).1, true) else ([], false)
theorem atTs_len (l : List S26) (hs : List S28) (n : Int) : (atTs l hs n).1.length ≤ 4194304 := by
  unfold atTs
  split
  · rename_i h
    have h1 := runB_len (hs.take n.toNat) l (goodLegs_len (goodH_in h.1).1)
    show (runB l (hs.take n.toNat)).1.length ≤ _
    omega
  · exact Nat.zero_le _

theorem sp_VersionAt (l : List S26) (hs : List S28) (n : Int) (hl : l.length ≤ 4194304) : Evn (fun k => spec_VersionAt.f k l hs n) (atTs l hs n) := by
  unfold spec_VersionAt.f atTs
  refine Evn.bind (sp_l19Good l hs hl) ?_
  refine Evn.ite (fun c => ?_) (fun c => by rw [if_neg (fun h => c h.1)]; exact Evn.done _)
  simp only [sp_l1In, Option.bind_some]
  refine Evn.ite (fun c2 => ?_) (fun c2 => by rw [if_neg (fun h => c2 (decide_eq_true h.2))]; exact Evn.done _)
  have c3 := of_decide_eq_true c2
  obtain ⟨m, rfl⟩ : ∃ m : Nat, n = m := ⟨n.toNat, by omega⟩
  obtain ⟨g1, g2, g3⟩ := goodH_in c
  rw [if_pos ⟨c, c3⟩, Int.toNat_natCast]
  exact Evn.bind (sp_l19Run l hs m (by omega) (by omega) (goodLegs_len g1)) (Evn.done _)

/-! The inverses of the last edits of a history. -/
def undoTs (l : List S26) (hs : List S28) (n : Int) : List S28 × Bool := if goodH l hs = true ∧ 0 ≤ n ∧ n ≤ (hs.length : Int) then (((hs.drop (hs.length - n.toNat)).reverse).map invE, true) else ([], false)
theorem undoTs_len (l : List S26) (hs : List S28) (n : Int) : (undoTs l hs n).1.length ≤ 4194304 := by
  unfold undoTs
  split
  · rename_i h
    have := (goodH_in h.1).2.1
    rw [List.length_map, List.length_reverse, List.length_drop]
    omega
  · simp

theorem sp_inv (x : S28) : spec_l19Inverse.f x.f0 x.f1 x.f2.f0 x.f2.f1 x.f2.f2 x.f2.f3 x.f2.f4 x.f3.f0 x.f3.f1 x.f3.f2 x.f3.f3 x.f3.f4 = some ((invE x).f0, (invE x).f1, (invE x).f2.f0, (invE x).f2.f1, (invE x).f2.f2, (invE x).f2.f3, (invE x).f2.f4, (invE x).f3.f0, (invE x).f3.f1, (invE x).f3.f2, (invE x).f3.f3, (invE x).f3.f4) := by
  unfold spec_l19Inverse.f invE
  by_cases h1 : x.f0 = 1
  · rw [if_pos h1, if_pos h1]
  · rw [if_neg h1, if_neg h1]
    by_cases h2 : x.f0 = 2
    · rw [if_pos h2, if_pos h2]
    · rw [if_neg h2, if_neg h2]
theorem undo_l0 (hs : List S28) (n m : Nat) (hn : m + n = hs.length) (h10 : hs.length ≤ 10) : ∀ (j : Nat) (out : List S28), j ≤ n → out.length + j ≤ 10 →
    Evn (fun k => spec_UndoEdits.l0 k hs (n : Int) out ((m : Int) + (j : Int) - 1)) (out ++ (((hs.take (m + j)).drop m).reverse).map invE, true)
  | 0, out, _, _ => by
    apply Evn.step
    simp only [spec_UndoEdits.l0]
    have e : wrap64 ((hs.length : Int) - (n : Int)) = (m : Int) := by rw [wrap_id (by omega) (by omega)]; omega
    rw [e]
    have hc : ¬ ((m : Int) + ((0 : Nat) : Int) - 1 ≥ (m : Int)) := by omega
    simp only [if_neg hc]
    refine (Evn.done _).eq_ ?_
    rw [Nat.add_zero, List.drop_eq_nil_of_le (by rw [List.length_take]; omega)]
    simp
  | j + 1, out, h, hl => by
    apply Evn.step
    simp only [spec_UndoEdits.l0]
    have e : wrap64 ((hs.length : Int) - (n : Int)) = (m : Int) := by rw [wrap_id (by omega) (by omega)]; omega
    have e2 : (m : Int) + ((j + 1 : Nat) : Int) - 1 = ((m + j : Nat) : Int) := by omega
    have c1 : ((m + j : Nat) : Int) ≥ (m : Int) := by omega
    have c2 : 0 ≤ ((m + j : Nat) : Int) := by omega
    have c3 : ((m + j : Nat) : Int) < (hs.length : Int) := by omega
    have c4 : out.length < 1466015503701 := by omega
    rw [e, e2]
    simp only [if_pos c1, if_pos c2, if_pos c3, rd_L2, Int.toNat_natCast, sp_inv, Option.bind_some, if_pos c4]
    have e3 : wrap64 (((m + j : Nat) : Int) - 1) = (m : Int) + (j : Int) - 1 := by rw [wrap_id (by omega) (by omega)]; omega
    rw [e3]
    refine (undo_l0 hs n m hn h10 j _ (by omega) (by rw [List.length_append, List.length_singleton]; omega)).eq_ ?_
    have ht : (hs.take (m + (j + 1))).drop m = (hs.take (m + j)).drop m ++ [hs.getD (m + j) z28] := by
      have hlt : m + j < hs.length := by omega
      rw [← Nat.add_assoc, List.take_add_one, List.drop_append, List.getElem?_eq_getElem hlt, List.getD_eq_getElem?_getD, List.getElem?_eq_getElem hlt]
      have hl : (hs.take (m + j)).length = m + j := by rw [List.length_take]; omega
      rw [hl, show m - (m + j) = 0 by omega]
      rfl
    rw [ht, List.reverse_append, List.map_append, ← List.append_assoc]
    rfl
theorem sp_UndoEdits (l : List S26) (hs : List S28) (n : Int) (hl : l.length ≤ 4194304) : Evn (fun k => spec_UndoEdits.f k l hs n) (undoTs l hs n) := by
  unfold spec_UndoEdits.f undoTs
  simp only [Option.bind_some]
  refine Evn.bind (sp_l19Good l hs hl) ?_
  refine Evn.ite (fun c => ?_) (fun c => ?_)
  · simp only [sp_l1In, Option.bind_some]
    apply Evn.step
    simp only [spec_UndoEdits.j0]
    by_cases c2 : 0 ≤ n ∧ n ≤ (hs.length : Int)
    · have g2 := (goodH_in c).2.1
      obtain ⟨q, rfl⟩ : ∃ q : Nat, n = q := ⟨n.toNat, by omega⟩
      have q1 : ¬ ((!decide (0 ≤ (q : Int) ∧ (q : Int) ≤ (hs.length : Int))) = true) := by rw [decide_eq_true c2]; decide
      rw [if_pos ⟨c, c2⟩]
      simp only [if_neg q1]
      have hw : wrap64 ((hs.length : Int) - 1) = ((hs.length - q : Nat) : Int) + (q : Int) - 1 := by rw [wrap_id (by omega) (by omega)]; omega
      rw [hw]
      refine (undo_l0 hs q (hs.length - q) (by omega) g2 q [] (Nat.le_refl _) (by simp; omega)).eq_ ?_
      rw [List.nil_append, Int.toNat_natCast, show hs.length - q + q = hs.length by omega, List.take_length]
    · have q1 : (!decide (0 ≤ n ∧ n ≤ (hs.length : Int))) = true := by rw [decide_eq_false c2]; decide
      rw [if_neg (fun h => c2 h.2)]
      simp only [if_pos q1]
      exact Evn.done _
  · apply Evn.step
    simp only [spec_UndoEdits.j0]
    rw [if_neg (fun h => c h.1)]
    exact Evn.done _

/-! The draws: a cursor over bytes. -/
def Byts (l : List Int) : Prop := ∀ x ∈ l, 0 ≤ x ∧ x ≤ 255
theorem bits255 (x : Int) : 0 ≤ Go.bits .and .u64 x 255 ∧ Go.bits .and .u64 x 255 ≤ 255 := by
  have h : (BitVec.ofInt 64 x &&& BitVec.ofInt 64 255).toNat ≤ 255 := by rw [BitVec.toNat_and]; exact Nat.le_trans Nat.and_le_right (by decide)
  have e : Go.bits .and .u64 x 255 = IntKind.u64.wrap ((BitVec.ofInt 64 x &&& BitVec.ofInt 64 255).toNat : Int) := rfl
  rw [e, IntKind.wrap_u64]
  omega
theorem Byts.at_ {l : List Int} (h : Byts l) (p : Int) : 0 ≤ rd l p ∧ rd l p ≤ 255 := by
  unfold rd
  by_cases g : p.toNat < l.length
  · rw [List.getD_eq_getElem?_getD, List.getElem?_eq_getElem g, Option.getD_some]
    exact h _ (List.getElem_mem g)
  · rw [List.getD_eq_getElem?_getD, List.getElem?_eq_none (by omega), Option.getD_none]
    omega
theorem dw_next {l : List Int} {p : Int} (hl : Byts l) (h0 : 0 ≤ p) (h1 : p ≤ 2000000000) (s : Int) : ∃ r, spec_l1Cur_next.f l p s = some r ∧ 0 ≤ r.1 ∧ r.1 ≤ 255 ∧ r.2.1 = p + 1 := by
  have hr := hl.at_ p
  have e : wrap64 (rd l p) = rd l p := wrap_id (by omega) (by omega)
  have e2 : wrap64 (p + 1) = p + 1 := wrap_id (by omega) (by omega)
  unfold spec_l1Cur_next.f
  rw [e, e2]
  split
  · (try rw [if_pos h0])
    split
    · exact ⟨_, rfl, hr.1, hr.2, rfl⟩
    · refine ⟨_, rfl, ?_, ?_, rfl⟩
      · dsimp only; rw [wrap_id (by have := bits255; exact Int.le_trans (by decide) (this _).1) (Int.le_trans (bits255 _).2 (by decide))]; exact (bits255 _).1
      · dsimp only; rw [wrap_id (by have := bits255; exact Int.le_trans (by decide) (this _).1) (Int.le_trans (bits255 _).2 (by decide))]; exact (bits255 _).2
  · split
    · exact ⟨_, rfl, by dsimp only; omega, by dsimp only; omega, rfl⟩
    · refine ⟨_, rfl, ?_, ?_, rfl⟩
      · dsimp only; rw [wrap_id (by have := bits255; exact Int.le_trans (by decide) (this _).1) (Int.le_trans (bits255 _).2 (by decide))]; exact (bits255 _).1
      · dsimp only; rw [wrap_id (by have := bits255; exact Int.le_trans (by decide) (this _).1) (Int.le_trans (bits255 _).2 (by decide))]; exact (bits255 _).2

theorem tmod_in {x n : Int} (hx : 0 ≤ x) (hn : 1 < n) : 0 ≤ Int.tmod x n ∧ Int.tmod x n < n := by
  rw [Int.tmod_eq_emod_of_nonneg hx]
  exact ⟨Int.emod_nonneg _ (by omega), Int.emod_lt_of_pos _ (by omega)⟩
theorem dw_pick {l : List Int} {p : Int} (hl : Byts l) (h0 : 0 ≤ p) (h1 : p ≤ 1000000000) (s n : Int) : ∃ r, spec_l1Cur_pick.f l p s n = some r ∧ 0 ≤ r.1 ∧ (r.1 < n ∨ r.1 = 0) ∧ p ≤ r.2.1 ∧ r.2.1 ≤ p + 2 := by
  unfold spec_l1Cur_pick.f
  by_cases c : n ≤ 1
  · rw [if_pos c]
    exact ⟨_, rfl, by dsimp only; omega, Or.inr rfl, Int.le_refl _, by dsimp only; omega⟩
  · rw [if_neg c]
    obtain ⟨a, ha, a0, a1, a2⟩ := dw_next hl h0 (by omega) s
    rw [ha, Option.bind_some]
    split
    · obtain ⟨b, hb, b0, b1, b2⟩ := dw_next hl (p := a.2.1) (by omega) (by omega) a.2.2
      rw [hb, Option.bind_some, if_neg (by omega)]
      have t := tmod_in (x := wrap64 (wrap64 (a.1 * 256) + b.1)) (n := n) (by rw [wrap_id (x := a.1 * 256) (by omega) (by omega), wrap_id (by omega) (by omega)]; omega) (by omega)
      exact ⟨_, rfl, t.1, Or.inl t.2, by dsimp only; omega, by dsimp only; omega⟩
    · rw [if_neg (by omega)]
      have t := tmod_in (x := a.1) (n := n) a0 (by omega)
      exact ⟨_, rfl, t.1, Or.inl t.2, by dsimp only; omega, by dsimp only; omega⟩

theorem dw_one {l : List Int} {p : Int} (hl : Byts l) (h0 : 0 ≤ p) (h1 : p ≤ 1000000000) (s n : Int) : ∃ r, spec_l1Cur_one.f l p s n = some r ∧ p ≤ r.2.1 ∧ r.2.1 ≤ p + 2 := by
  unfold spec_l1Cur_one.f
  obtain ⟨a, ha, a0, a1, a2, a3⟩ := dw_pick hl h0 h1 s n
  rw [ha, Option.bind_some]
  exact ⟨_, rfl, a2, a3⟩

theorem rd_mem {L : List Int} {i : Int} (h0 : 0 ≤ i) (h1 : i < L.length) : rd L i ∈ L := by
  unfold rd
  rw [List.getD_eq_getElem?_getD, List.getElem?_eq_getElem (by omega), Option.getD_some]
  exact List.getElem_mem _
theorem dw_among {l : List Int} {p : Int} (hl : Byts l) (h0 : 0 ≤ p) (h1 : p ≤ 1000000000) (s : Int) (L : List Int) (hL : 0 < L.length) : ∃ r, spec_l1Cur_among.f l p s L = some r ∧ r.1 ∈ L ∧ p ≤ r.2.1 ∧ r.2.1 ≤ p + 2 := by
  unfold spec_l1Cur_among.f
  obtain ⟨a, ha, a0, a1, a2, a3⟩ := dw_pick hl h0 h1 s (L.length : Int)
  have a4 : a.1 < (L.length : Int) := by omega
  rw [ha, Option.bind_some, if_pos a0, if_pos a4]
  exact ⟨_, rfl, rd_mem a0 a4, a2, a3⟩

theorem dw_leg {l : List Int} {p : Int} (hl : Byts l) (h0 : 0 ≤ p) (h1 : p ≤ 900000000) (s : Int) : ∃ r, Evn (fun k => spec_l1Cur_leg.f k l p s) r ∧ p ≤ r.2.2.2.2.2.1 ∧ r.2.2.2.2.2.1 ≤ p + 14 := by
  have go : ∀ (q t a b c d e : Int), p ≤ q → q ≤ p + 10 → ∃ r, Evn (fun k => spec_l1Cur_leg.j0 k l q t a b c d e) r ∧ p ≤ r.2.2.2.2.2.1 ∧ r.2.2.2.2.2.1 ≤ p + 14 := by
    intro q t a b c d e hq hq2
    obtain ⟨u, hu, u0, u1, u2, u3⟩ := dw_pick hl (p := q) (by omega) (by omega) t 40
    by_cases c0 : u.1 = 0
    · obtain ⟨v, hv, _, v2, v3⟩ := dw_among hl (p := u.2.1) (by omega) (by omega) u.2.2 [-1, 7, 8, a] (by simp)
      refine ⟨(a, v.1, c, d, e, v.2.1, v.2.2), Evn.step ?_, by dsimp only; omega, by dsimp only; omega⟩
      simp only [spec_l1Cur_leg.j0, hu, Option.bind_some, if_pos c0, hv]
      exact Evn.done _
    by_cases c1 : u.1 = 1
    · obtain ⟨v, hv, _, v2, v3⟩ := dw_among hl (p := u.2.1) (by omega) (by omega) u.2.2 [0, 501] (by simp)
      refine ⟨(a, b, v.1, d, e, v.2.1, v.2.2), Evn.step ?_, by dsimp only; omega, by dsimp only; omega⟩
      simp only [spec_l1Cur_leg.j0, hu, Option.bind_some, if_neg c0, if_pos c1, hv]
      exact Evn.done _
    by_cases c2 : u.1 = 2
    · obtain ⟨v, hv, _, v2, v3⟩ := dw_among hl (p := u.2.1) (by omega) (by omega) u.2.2 [-1, 360] (by simp)
      refine ⟨(a, b, c, v.1, e, v.2.1, v.2.2), Evn.step ?_, by dsimp only; omega, by dsimp only; omega⟩
      simp only [spec_l1Cur_leg.j0, hu, Option.bind_some, if_neg c0, if_neg c1, if_pos c2, hv]
      exact Evn.done _
    by_cases c3 : u.1 = 3
    · obtain ⟨v, hv, _, v2, v3⟩ := dw_among hl (p := u.2.1) (by omega) (by omega) u.2.2 [-91, 91] (by simp)
      refine ⟨(a, b, c, d, v.1, v.2.1, v.2.2), Evn.step ?_, by dsimp only; omega, by dsimp only; omega⟩
      simp only [spec_l1Cur_leg.j0, hu, Option.bind_some, if_neg c0, if_neg c1, if_neg c2, if_pos c3, hv]
      exact Evn.done _
    refine ⟨(a, b, c, d, e, u.2.1, u.2.2), Evn.step ?_, by dsimp only; omega, by dsimp only; omega⟩
    simp only [spec_l1Cur_leg.j0, hu, Option.bind_some, if_neg c0, if_neg c1, if_neg c2, if_neg c3]
    exact Evn.done _
  unfold spec_l1Cur_leg.f
  obtain ⟨a, ha, a0, a1, a2, a3⟩ := dw_pick hl h0 (by omega) s 6
  obtain ⟨b, hb, b0, b1, b2, b3⟩ := dw_pick hl (p := a.2.1) (by omega) (by omega) a.2.2 6
  obtain ⟨c, hc, _, c2, c3⟩ := dw_among hl (p := b.2.1) (by omega) (by omega) b.2.2 [1, 10, 50, 100, 120, 250, 500] (by simp)
  obtain ⟨d, hd, _, d2, d3⟩ := dw_among hl (p := c.2.1) (by omega) (by omega) c.2.2 [0, 45, 90, 135, 180, 270, 359, 17, 222] (by simp)
  obtain ⟨e, he, _, e2, e3⟩ := dw_among hl (p := d.2.1) (by omega) (by omega) d.2.2 [0, 0, 0, 5, (-5), 30, (-45), 90, (-90)] (by simp)
  simp only [ha, hb, hc, hd, he, Option.bind_some]
  by_cases cc : a.1 = b.1
  · simp only [if_pos cc]
    exact go _ _ _ _ _ _ _ (by omega) (by omega)
  · simp only [if_neg cc]
    exact go _ _ _ _ _ _ _ (by omega) (by omega)

theorem dw_legs_l1 {l : List Int} (hl : Byts l) : ∀ (D : Nat) (zs : List S26) (i p s : Int), i + (D : Int) = 14 → 0 ≤ i → zs.length + D ≤ 30 → 0 ≤ p → p ≤ 900000000 - 2 * (D : Int) → ∃ r, Evn (fun k => spec_l1Cur_legs.l1 k zs i l p s) r ∧ r.1.length ≤ 30 ∧ p ≤ r.2.1 ∧ r.2.1 ≤ p + 2 + 2 * (D : Int) := by
  intro D
  induction D with
  | zero =>
    intro zs i p s hi i0 hz h0 h1
    obtain ⟨u, hu, u0, u1, u2, u3⟩ := dw_pick hl h0 (by omega) s 2
    have c2 : ¬ i < 14 := by omega
    refine ⟨(zs, u.2.1, u.2.2), Evn.step ?_, by dsimp only; omega, by dsimp only; omega, by dsimp only; omega⟩
    simp only [spec_l1Cur_legs.l1, hu, Option.bind_some, if_neg c2, ite_self]
    exact Evn.done _
  | succ D ih =>
    intro zs i p s hi i0 hz h0 h1
    obtain ⟨u, hu, u0, u1, u2, u3⟩ := dw_pick hl h0 (by omega) s 2
    have c2 : i < 14 := by omega
    by_cases c1 : (zs.length : Int) < wrap64 (12 + u.1)
    · have hw : wrap64 (i + 1) = i + 1 := wrap_id (by omega) (by omega)
      have hq : zs.length < 3518437208883 := by omega
      obtain ⟨r, hr, r1, r2, r3⟩ := ih (zs ++ [⟨Int.tmod i 5, wrap64 (1 + (Int.tmod i 5)), 10, wrap64 (10 * i), 0⟩]) (i + 1) u.2.1 u.2.2 (by omega) (by omega) (by rw [List.length_append, List.length_singleton]; omega) (by omega) (by omega)
      refine ⟨r, Evn.step ?_, r1, by omega, by omega⟩
      simp only [spec_l1Cur_legs.l1, hu, Option.bind_some, if_pos c1, if_pos c2, if_pos hq, hw]
      exact hr
    · refine ⟨(zs, u.2.1, u.2.2), Evn.step ?_, by dsimp only; omega, by dsimp only; omega, by dsimp only; omega⟩
      simp only [spec_l1Cur_legs.l1, hu, Option.bind_some, if_neg c1]
      exact Evn.done _
theorem dw_legs_l0 {l : List Int} (hl : Byts l) : ∀ (D : Nat) (zs : List S26) (p s : Int), zs.length + D ≤ 8 → 0 ≤ p → p ≤ 800000000 - 20 * (D : Int) → ∃ r, Evn (fun k => spec_l1Cur_legs.l0 k zs (D : Int) l p s) r ∧ r.1.length ≤ 30 ∧ p ≤ r.2.1 ∧ r.2.1 ≤ p + 40 + 20 * (D : Int) := by
  intro D
  induction D with
  | zero =>
    intro zs p s hz h0 h1
    have hn : ¬ ((0 : Nat) : Int) > 0 := by decide
    obtain ⟨u, hu, u2, u3⟩ := dw_one hl h0 (by omega) s 32
    by_cases c1 : u.1 = true
    · obtain ⟨r, hr, r1, r2, r3⟩ := dw_legs_l1 hl 14 zs 0 u.2.1 u.2.2 (by decide) (by decide) (by omega) (by omega) (by omega)
      refine ⟨r, Evn.step ?_, r1, by omega, by omega⟩
      simp only [spec_l1Cur_legs.l0, if_neg hn, hu, Option.bind_some, if_pos c1]
      exact hr
    · refine ⟨(zs, u.2.1, u.2.2), Evn.step ?_, by dsimp only; omega, by dsimp only; omega, by dsimp only; omega⟩
      simp only [spec_l1Cur_legs.l0, if_neg hn, hu, Option.bind_some, if_neg c1]
      exact Evn.done _
  | succ D ih =>
    intro zs p s hz h0 h1
    obtain ⟨u, hu, u2, u3⟩ := dw_leg hl h0 (by omega) s
    have hp : ((D + 1 : Nat) : Int) > 0 := by omega
    have hw : wrap64 (((D + 1 : Nat) : Int) - 1) = (D : Int) := wrap_pred (by omega)
    obtain ⟨r, hr, r1, r2, r3⟩ := ih (zs ++ [⟨u.1, u.2.1, u.2.2.1, u.2.2.2.1, u.2.2.2.2.1⟩]) u.2.2.2.2.2.1 u.2.2.2.2.2.2 (by rw [List.length_append, List.length_singleton]; omega) (by omega) (by omega)
    refine ⟨r, Evn.step ?_, r1, by omega, by omega⟩
    have hq : zs.length < 3518437208883 := by omega
    simp only [spec_l1Cur_legs.l0, if_pos hp, hw]
    refine Evn.bind hu ?_
    simp only [if_pos hq]
    exact hr
theorem dw_legs {l : List Int} {p : Int} (hl : Byts l) (h0 : 0 ≤ p) (h1 : p ≤ 700000000) (s : Int) : ∃ r, Evn (fun k => spec_l1Cur_legs.f k l p s) r ∧ r.1.length ≤ 30 ∧ p ≤ r.2.1 ∧ r.2.1 ≤ p + 300 := by
  unfold spec_l1Cur_legs.f
  obtain ⟨a, ha, a0, a1, a2, a3⟩ := dw_pick hl h0 (by omega) s 8
  obtain ⟨D, hD⟩ : ∃ D : Nat, a.1 = D := ⟨a.1.toNat, by omega⟩
  simp only [ha, Option.bind_some, hD]
  obtain ⟨r, hr, r1, r2, r3⟩ := dw_legs_l0 hl D [] a.2.1 a.2.2 (by simp only [List.length_nil]; omega) (by omega) (by omega)
  exact ⟨r, hr, r1, by omega, by omega⟩

theorem dw_edit {l : List Int} {p : Int} (hl : Byts l) (h0 : 0 ≤ p) (h1 : p ≤ 800000000) (s : Int) (L : List S26) (hL : L.length ≤ 4194304) : ∃ r, Evn (fun k => spec_l1Cur_edit.f k l p s L) r ∧ p ≤ r.2.2.2.2.2.2.2.2.2.2.2.2.1 ∧ r.2.2.2.2.2.2.2.2.2.2.2.2.1 ≤ p + 50 := by
  have go2 : ∀ (q t a0 a1 a2 a3 a4 a5 a6 a7 a8 a9 a10 a11 : Int), p ≤ q → q ≤ p + 30 → ∃ r, Evn (fun k => spec_l1Cur_edit.j2 k L l q t a0 a1 a2 a3 a4 a5 a6 a7 a8 a9 a10 a11) r ∧ p ≤ r.2.2.2.2.2.2.2.2.2.2.2.2.1 ∧ r.2.2.2.2.2.2.2.2.2.2.2.2.1 ≤ p + 50 := by
    intro q t a0 a1 a2 a3 a4 a5 a6 a7 a8 a9 a10 a11 hq hq2
    obtain ⟨u, hu, u0, u1, u2, u3⟩ := dw_pick hl (p := q) (by omega) (by omega) t 24
    by_cases c0 : u.1 = 0
    · obtain ⟨v, hv, _, v2, v3⟩ := dw_among hl (p := u.2.1) (by omega) (by omega) u.2.2 [-1, wrap64 ((L.length : Int) + 1), 12] (by simp)
      refine ⟨(a0, v.1, a2, a3, a4, a5, a6, a7, a8, a9, a10, a11, v.2.1, v.2.2), Evn.step ?_, by dsimp only; omega, by dsimp only; omega⟩
      simp only [spec_l1Cur_edit.j2, hu, Option.bind_some, if_pos c0, hv]
      exact Evn.done _
    by_cases c1 : u.1 = 1
    · obtain ⟨v, hv, v2, v3⟩ := dw_leg hl (p := u.2.1) (by omega) (by omega) u.2.2
      refine ⟨(a0, a1, v.1, v.2.1, v.2.2.1, v.2.2.2.1, v.2.2.2.2.1, a7, a8, a9, a10, a11, v.2.2.2.2.2.1, v.2.2.2.2.2.2), Evn.step ?_, by dsimp only; omega, by dsimp only; omega⟩
      simp only [spec_l1Cur_edit.j2, hu, Option.bind_some, if_neg c0, if_pos c1]
      exact Evn.bind hv (Evn.done _)
    by_cases c2 : u.1 = 2
    · obtain ⟨v, hv, _, v2, v3⟩ := dw_among hl (p := u.2.1) (by omega) (by omega) u.2.2 [0, 4] (by simp)
      refine ⟨(v.1, a1, a2, a3, a4, a5, a6, a7, a8, a9, a10, a11, v.2.1, v.2.2), Evn.step ?_, by dsimp only; omega, by dsimp only; omega⟩
      simp only [spec_l1Cur_edit.j2, hu, Option.bind_some, if_neg c0, if_neg c1, if_pos c2, hv]
      exact Evn.done _
    refine ⟨(a0, a1, a2, a3, a4, a5, a6, a7, a8, a9, a10, a11, u.2.1, u.2.2), Evn.step ?_, by dsimp only; omega, by dsimp only; omega⟩
    simp only [spec_l1Cur_edit.j2, hu, Option.bind_some, if_neg c0, if_neg c1, if_neg c2]
    exact Evn.done _
  have go1 : ∀ (q t a0 a1 a2 a3 a4 a5 a6 a7 a8 a9 a10 a11 : Int), p ≤ q → q ≤ p + 10 → ∃ r, Evn (fun k => spec_l1Cur_edit.j1 k L l q t a0 a1 a2 a3 a4 a5 a6 a7 a8 a9 a10 a11) r ∧ p ≤ r.2.2.2.2.2.2.2.2.2.2.2.2.1 ∧ r.2.2.2.2.2.2.2.2.2.2.2.2.1 ≤ p + 50 := by
    intro q t a0 a1 a2 a3 a4 a5 a6 a7 a8 a9 a10 a11 hq hq2
    by_cases c0 : a0 = 2
    · obtain ⟨r, hr, r2⟩ := go2 q t a0 a1 a2 a3 a4 a5 a6 a7 a8 a9 a10 a11 (by omega) (by omega)
      refine ⟨r, Evn.step ?_, r2⟩
      simp only [spec_l1Cur_edit.j1, if_pos c0]
      exact hr
    · obtain ⟨v, hv, v2, v3⟩ := dw_leg hl (p := q) (by omega) (by omega) t
      obtain ⟨r, hr, r2⟩ := go2 v.2.2.2.2.2.1 v.2.2.2.2.2.2 a0 a1 a2 a3 a4 a5 a6 v.1 v.2.1 v.2.2.1 v.2.2.2.1 v.2.2.2.2.1 (by omega) (by omega)
      refine ⟨r, Evn.step ?_, r2⟩
      simp only [spec_l1Cur_edit.j1, if_neg c0]
      exact Evn.bind hv hr
  have go0 : ∀ (f : Bool) (q t a0 a1 a2 a3 a4 a5 a6 a7 a8 a9 a10 a11 : Int), p ≤ q → q ≤ p + 10 → 0 ≤ a1 → (f = true → a1 < (L.length : Int)) → ∃ r, Evn (fun k => spec_l1Cur_edit.j0 k L f l q t a0 a1 a2 a3 a4 a5 a6 a7 a8 a9 a10 a11) r ∧ p ≤ r.2.2.2.2.2.2.2.2.2.2.2.2.1 ∧ r.2.2.2.2.2.2.2.2.2.2.2.2.1 ≤ p + 50 := by
    intro f q t a0 a1 a2 a3 a4 a5 a6 a7 a8 a9 a10 a11 hq hq2 c1 c2
    cases f with
    | false =>
      obtain ⟨r, hr, r2⟩ := go1 q t a0 a1 a2 a3 a4 a5 a6 a7 a8 a9 a10 a11 hq hq2
      refine ⟨r, Evn.step ?_, r2⟩
      simp only [spec_l1Cur_edit.j0, Bool.false_eq_true, if_false]
      exact hr
    | true =>
      obtain ⟨r, hr, r2⟩ := go1 q t a0 a1 (rd_T26 L a1).f0 (rd_T26 L a1).f1 (rd_T26 L a1).f2 (rd_T26 L a1).f3 (rd_T26 L a1).f4 a7 a8 a9 a10 a11 hq hq2
      refine ⟨r, Evn.step ?_, r2⟩
      simp only [spec_l1Cur_edit.j0, if_true, if_pos c1, if_pos (c2 rfl)]
      exact hr
  unfold spec_l1Cur_edit.f
  obtain ⟨a, ha, a0, a1, a2, a3⟩ := dw_pick hl h0 (by omega) s 3
  obtain ⟨b, hb, b0, -, b2, b3⟩ := dw_pick hl (p := a.2.1) (by omega) (by omega) a.2.2 (wrap64 ((L.length : Int) + 1))
  by_cases cc : b.1 < (L.length : Int)
  · obtain ⟨r, hr, r2⟩ := go0 ((wrap64 (1 + a.1)) != 1) b.2.1 b.2.2 (wrap64 (1 + a.1)) b.1 0 0 0 0 0 0 0 0 0 0 (by omega) (by omega) b0 (fun _ => cc)
    exact ⟨r, Evn.bind (Evn.of fun _ => ha) (Evn.bind (Evn.of fun _ => hb) (Evn.ite (fun _ => hr) (fun h => absurd cc h))), r2⟩
  · obtain ⟨r, hr, r2⟩ := go0 false b.2.1 b.2.2 (wrap64 (1 + a.1)) b.1 0 0 0 0 0 0 0 0 0 0 (by omega) (by omega) b0 (fun h => by cases h)
    exact ⟨r, Evn.bind (Evn.of fun _ => ha) (Evn.bind (Evn.of fun _ => hb) (Evn.ite (fun h => absurd h cc) (fun _ => hr))), r2⟩

theorem dw_inv (a0 a1 a2 a3 a4 a5 a6 a7 a8 a9 a10 a11 : Int) : ∃ o, spec_l19Inverse.f a0 a1 a2 a3 a4 a5 a6 a7 a8 a9 a10 a11 = some o := by
  unfold spec_l19Inverse.f
  split
  · exact ⟨_, rfl⟩
  · split <;> exact ⟨_, rfl⟩
theorem dw_history_l0 {l : List Int} (hl : Byts l) (z : List S26) : ∀ (D : Nat) (es : List S28) (now : List S26) (p s : Int), es.length + D ≤ 8 → now.length ≤ 4194304 → 0 ≤ p → p ≤ 700000000 - 60 * (D : Int) → ∃ r, Evn (fun k => spec_l1Cur_history.l0 k z es now (D : Int) l p s) r ∧ r.1 = z ∧ r.2.1.length ≤ 8 ∧ p ≤ r.2.2.1 ∧ r.2.2.1 ≤ p + 60 * (D : Int) := by
  intro D
  induction D with
  | zero =>
    intro es now p s hz hn0 h0 h1
    have hn : ¬ ((0 : Nat) : Int) > 0 := by decide
    refine ⟨(z, es, p, s), Evn.step ?_, rfl, by dsimp only; omega, by dsimp only; omega, by dsimp only; omega⟩
    simp only [spec_l1Cur_history.l0, if_neg hn]
    exact Evn.done _
  | succ D ih =>
    intro es now p s hz hn0 h0 h1
    have hp : ((D + 1 : Nat) : Int) > 0 := by omega
    have hw : wrap64 (((D + 1 : Nat) : Int) - 1) = (D : Int) := wrap_pred (by omega)
    have hq : es.length < 1466015503701 := by omega
    have go2 : ∀ (q t a0 a1 a2 a3 a4 a5 a6 a7 a8 a9 a10 a11 : Int), p ≤ q → q ≤ p + 55 → ∃ r, Evn (fun k => spec_l1Cur_history.j2 k z es now ((D + 1 : Nat) : Int) l q t a0 a1 a2 a3 a4 a5 a6 a7 a8 a9 a10 a11) r ∧ r.1 = z ∧ r.2.1.length ≤ 8 ∧ p ≤ r.2.2.1 ∧ r.2.2.1 ≤ p + 60 * ((D + 1 : Nat) : Int) := by
      intro q t a0 a1 a2 a3 a4 a5 a6 a7 a8 a9 a10 a11 q1 q2
      have hA := sp_ApplyEdit now hn0 a0 a1 ⟨a2, a3, a4, a5, a6⟩ ⟨a7, a8, a9, a10, a11⟩
      have hAl := appTs_len now a0 a1 ⟨a2, a3, a4, a5, a6⟩ ⟨a7, a8, a9, a10, a11⟩
      dsimp only at hA
      generalize appTs now a0 a1 ⟨a2, a3, a4, a5, a6⟩ ⟨a7, a8, a9, a10, a11⟩ = T at hA hAl
      by_cases cT : T.2 = true
      · obtain ⟨r, hr, r1, r2, r3, r4⟩ := ih (es ++ [(⟨a0, a1, ⟨a2, a3, a4, a5, a6⟩, ⟨a7, a8, a9, a10, a11⟩⟩ : S28)]) T.1 q t (by rw [List.length_append, List.length_singleton]; omega) hAl (by omega) (by omega)
        refine ⟨r, Evn.step ?_, r1, r2, by omega, by omega⟩
        simp only [spec_l1Cur_history.j2, hw]
        refine Evn.bind hA ?_
        simp only [if_pos cT, if_pos hq]
        exact hr
      · obtain ⟨v, hv, v2, v3⟩ := dw_one hl (p := q) (by omega) (by omega) t 24
        by_cases cv : v.1 = true
        · obtain ⟨r, hr, r1, r2, r3, r4⟩ := ih (es ++ [(⟨a0, a1, ⟨a2, a3, a4, a5, a6⟩, ⟨a7, a8, a9, a10, a11⟩⟩ : S28)]) now v.2.1 v.2.2 (by rw [List.length_append, List.length_singleton]; omega) hn0 (by omega) (by omega)
          refine ⟨r, Evn.step ?_, r1, r2, by omega, by omega⟩
          simp only [spec_l1Cur_history.j2, hw]
          refine Evn.bind hA ?_
          simp only [if_neg cT, hv, Option.bind_some, if_pos cv, if_pos hq]
          exact hr
        · obtain ⟨r, hr, r1, r2, r3, r4⟩ := ih es now v.2.1 v.2.2 (by omega) hn0 (by omega) (by omega)
          refine ⟨r, Evn.step ?_, r1, r2, by omega, by omega⟩
          simp only [spec_l1Cur_history.j2, hw]
          refine Evn.bind hA ?_
          simp only [if_neg cT, hv, Option.bind_some, if_neg cv]
          exact hr
    have go1 : ∀ (f : Bool) (q t a0 a1 a2 a3 a4 a5 a6 a7 a8 a9 a10 a11 : Int), p ≤ q → q ≤ p + 55 → (f = true → 0 < es.length) → ∃ r, Evn (fun k => spec_l1Cur_history.j1 k z es now ((D + 1 : Nat) : Int) f l q t a0 a1 a2 a3 a4 a5 a6 a7 a8 a9 a10 a11) r ∧ r.1 = z ∧ r.2.1.length ≤ 8 ∧ p ≤ r.2.2.1 ∧ r.2.2.1 ≤ p + 60 * ((D + 1 : Nat) : Int) := by
      intro f q t a0 a1 a2 a3 a4 a5 a6 a7 a8 a9 a10 a11 q1 q2 hf
      cases f with
      | false =>
        obtain ⟨r, hr, r1⟩ := go2 q t a0 a1 a2 a3 a4 a5 a6 a7 a8 a9 a10 a11 q1 q2
        refine ⟨r, Evn.step ?_, r1⟩
        simp only [spec_l1Cur_history.j1, Bool.false_eq_true, if_false]
        exact hr
      | true =>
        have hl0 := hf rfl
        have e1 : wrap64 ((es.length : Int) - 1) = (es.length : Int) - 1 := wrap_id (by omega) (by omega)
        have c1 : 0 ≤ (es.length : Int) - 1 := by omega
        have c2 : (es.length : Int) - 1 < (es.length : Int) := by omega
        generalize hx : rd_T28 es ((es.length : Int) - 1) = x
        obtain ⟨o, ho⟩ := dw_inv x.f0 x.f1 x.f2.f0 x.f2.f1 x.f2.f2 x.f2.f3 x.f2.f4 x.f3.f0 x.f3.f1 x.f3.f2 x.f3.f3 x.f3.f4
        obtain ⟨r, hr, r1⟩ := go2 q t o.1 o.2.1 o.2.2.1 o.2.2.2.1 o.2.2.2.2.1 o.2.2.2.2.2.1 o.2.2.2.2.2.2.1 o.2.2.2.2.2.2.2.1 o.2.2.2.2.2.2.2.2.1 o.2.2.2.2.2.2.2.2.2.1 o.2.2.2.2.2.2.2.2.2.2.1 o.2.2.2.2.2.2.2.2.2.2.2 q1 q2
        refine ⟨r, Evn.step ?_, r1⟩
        simp only [spec_l1Cur_history.j1, if_true, e1, if_pos c1, if_pos c2, hx, ho, Option.bind_some]
        exact hr
    obtain ⟨u, hu, u2, u3⟩ := dw_edit hl h0 (by omega) s now hn0
    obtain ⟨v, hv, v2, v3⟩ := dw_one hl (p := u.2.2.2.2.2.2.2.2.2.2.2.2.1) (by omega) (by omega) u.2.2.2.2.2.2.2.2.2.2.2.2.2 5
    by_cases cv : v.1 = true
    · obtain ⟨r, hr, r1⟩ := go1 (decide ((es.length : Int) > 0)) v.2.1 v.2.2 u.1 u.2.1 u.2.2.1 u.2.2.2.1 u.2.2.2.2.1 u.2.2.2.2.2.1 u.2.2.2.2.2.2.1 u.2.2.2.2.2.2.2.1 u.2.2.2.2.2.2.2.2.1 u.2.2.2.2.2.2.2.2.2.1 u.2.2.2.2.2.2.2.2.2.2.1 u.2.2.2.2.2.2.2.2.2.2.2.1 (by omega) (by omega) (fun h => by have := of_decide_eq_true h; omega)
      refine ⟨r, Evn.step ?_, r1⟩
      simp only [spec_l1Cur_history.l0, if_pos hp]
      refine Evn.bind hu ?_
      simp only [hv, Option.bind_some, if_pos cv]
      exact hr
    · obtain ⟨r, hr, r1⟩ := go1 false v.2.1 v.2.2 u.1 u.2.1 u.2.2.1 u.2.2.2.1 u.2.2.2.2.1 u.2.2.2.2.2.1 u.2.2.2.2.2.2.1 u.2.2.2.2.2.2.2.1 u.2.2.2.2.2.2.2.2.1 u.2.2.2.2.2.2.2.2.2.1 u.2.2.2.2.2.2.2.2.2.2.1 u.2.2.2.2.2.2.2.2.2.2.2.1 (by omega) (by omega) (fun h => by cases h)
      refine ⟨r, Evn.step ?_, r1⟩
      simp only [spec_l1Cur_history.l0, if_pos hp]
      refine Evn.bind hu ?_
      simp only [hv, Option.bind_some, if_neg cv]
      exact hr
theorem dw_history {l : List Int} (hl : Byts l) (s : Int) : ∃ r, Evn (fun k => spec_l1Cur_history.f k l 0 s) r ∧ r.1.length ≤ 30 ∧ r.2.1.length ≤ 8 ∧ 0 ≤ r.2.2.1 ∧ r.2.2.1 ≤ 1000 := by
  unfold spec_l1Cur_history.f
  obtain ⟨a, ha, a1, a2, a3⟩ := dw_legs hl (p := 0) (by decide) (by decide) s
  obtain ⟨b, hb, b0, b1, b2, b3⟩ := dw_pick hl (p := a.2.1) (by omega) (by omega) a.2.2 8
  obtain ⟨D, hD⟩ : ∃ D : Nat, b.1 = D := ⟨b.1.toNat, by omega⟩
  obtain ⟨r, hr, r1, r2, r3, r4⟩ := dw_history_l0 hl a.1 D [] a.1 b.2.1 b.2.2 (by simp only [List.length_nil]; omega) (by omega) (by omega) (by omega)
  refine ⟨r, Evn.bind ha ?_, by rw [r1]; exact a1, r2, by omega, by omega⟩
  simp only [hb, Option.bind_some, hD]
  exact hr

theorem dw_DrawVersionAt {l : List Int} (hl : Byts l) : ∃ r, Evn (fun k => spec_DrawVersionAt.f k l) r ∧ r.1.length ≤ 30 ∧ r.2.1.length ≤ 8 := by
  unfold spec_DrawVersionAt.f
  obtain ⟨a, ha, a1, a2, a3, a4⟩ := dw_history hl 0
  obtain ⟨b, hb, b0, -, b2, b3⟩ := dw_pick hl (p := a.2.2.1) (by omega) (by omega) a.2.2.2 (wrap64 ((a.2.1.length : Int) + 2))
  obtain ⟨c, hc, c0, c1, c2, c3⟩ := dw_pick hl (p := b.2.1) (by omega) (by omega) b.2.2 9
  refine ⟨(a.1, a.2.1, wrap64 (b.1 - (wrap64 (Int.tdiv c.1 8)))), Evn.bind ha (Evn.bind (Evn.of fun _ => hb) (Evn.bind (Evn.of fun _ => hc) (Evn.done _))), a1, a2⟩

theorem dw_DrawUndoEdits {l : List Int} (hl : Byts l) : ∃ r, Evn (fun k => spec_DrawUndoEdits.f k l) r ∧ r.1.length ≤ 30 ∧ r.2.1.length ≤ 8 := by
  unfold spec_DrawUndoEdits.f
  obtain ⟨a, ha, a1, a2⟩ := dw_DrawVersionAt hl
  exact ⟨(a.1, a.2.1, a.2.2), Evn.bind ha (Evn.done _), a1, a2⟩

theorem dw_DrawApplyEdit {l : List Int} (hl : Byts l) : ∃ r, Evn (fun k => spec_DrawApplyEdit.f k l) r ∧ r.1.length ≤ 30 := by
  unfold spec_DrawApplyEdit.f
  obtain ⟨a, ha, a1, a2, a3⟩ := dw_legs hl (p := 0) (by decide) (by decide) 0
  obtain ⟨u, hu, u2, u3⟩ := dw_edit hl (p := a.2.1) (by omega) (by omega) a.2.2 a.1 (by omega)
  exact ⟨_, Evn.bind ha (Evn.bind hu (Evn.done _)), a1⟩

theorem im_within (x y z : Int) : impl_within.f x y z = some (decide (y ≤ x ∧ x ≤ z)) := by
  unfold impl_within.f
  by_cases h : x ≥ y <;> simp [h] <;> omega

theorem im_isStation (x : Int) : impl_isStation.f x = some (decide (0 ≤ x ∧ x ≤ 7)) := by
  simp only [impl_isStation.f, im_within, Option.bind_some]

theorem im_IsLeg (x : S26) : impl_IsLeg.f x.f0 x.f1 x.f2 x.f3 x.f4 = some (okLeg x) := by
  simp only [impl_IsLeg.f, im_isStation, impl_isBearing.f, im_within, Option.bind_some, ite_and, ite_not, okLeg]

theorem im_isEdit (k a : Int) (x y : S26) : impl_isEdit.f k a x.f0 x.f1 x.f2 x.f3 x.f4 y.f0 y.f1 y.f2 y.f3 y.f4 = some (editB k a x y) := by
  simp only [impl_isEdit.f, im_IsLeg, im_within, Option.bind_some]
  unfold editB zeroB
  repeat' split
  all_goals rfl

theorem im_areLegs_l0 (xs : List S26) (hx : xs.length ≤ 4194304) : ∀ (d i : Nat), i + d = xs.length → Evn (fun k => impl_areLegs.l0 k xs xs (xs.length : Int) (i : Int)) ((xs.drop i).all okLeg && decide (xs.length ≤ 12)) := by
  intro d
  induction d with
  | zero =>
    intro i h
    refine Evn.step ?_
    have h1 : ¬ (i : Int) < (xs.length : Int) := by omega
    simp only [impl_areLegs.l0, if_neg h1]
    rw [List.drop_eq_nil_of_le (by omega)]
    refine (Evn.done _).eq_ ?_
    simp only [List.all_nil, Bool.true_and, decide_eq_decide]
    omega
  | succ d ih =>
    intro i h
    refine Evn.step ?_
    have h1 : (i : Int) < (xs.length : Int) := by omega
    have h2 : 0 ≤ (i : Int) := by omega
    simp only [impl_areLegs.l0, if_pos h1, if_pos h2, im_IsLeg, Option.bind_some, wrap_succ (show i < 4611686018427387904 by omega), rd_T26, Int.toNat_natCast]
    rw [getD_drop xs i z26 (by omega), List.all_cons]
    exact Evn.ite (fun c => (ih (i + 1) (by omega)).eq_ (by simp only [c, Bool.true_and])) (fun c => (Evn.done _).eq_ (by simp only [Bool.eq_false_iff.mpr c, Bool.false_and]))
theorem im_areLegs (xs : List S26) (hx : xs.length ≤ 4194304) : Evn (fun k => impl_areLegs.f k xs) (goodLegs xs) := by
  have h := im_areLegs_l0 xs hx xs.length 0 (by omega)
  simpa [impl_areLegs.f, goodLegs] using h

theorem clone_leg (l : List S26) (h : l.length ≤ 4194304) : impl_Leg_91.f l = some l := by
  unfold impl_Leg_91.f
  rw [if_pos (by omega)]
theorem set_form {α : Type} (l : List α) (i : Nat) (v : α) (h : i < l.length) : l.set i v = l.take i ++ (v :: l.drop (i + 1)) := by
  rw [List.set_eq_take_append_cons_drop, if_pos h]
theorem im_apply (l : List S26) (hl : l.length ≤ 12) (kd a : Int) (x y : S26) : Evn (fun k => impl_apply.f k l kd a x.f0 x.f1 x.f2 x.f3 x.f4 y.f0 y.f1 y.f2 y.f3 y.f4) (appL l kd a x y) := by
  have no0 : Evn (fun k => impl_apply.j0 k l true kd a x.f0 x.f1 x.f2 x.f3 x.f4 y.f0 y.f1 y.f2 y.f3 y.f4) ([], false) := by
    refine Evn.step ?_
    simp only [impl_apply.j0, if_true]
    exact Evn.done _
  have no1 : Evn (fun k => impl_apply.j1 k l true kd a x.f0 x.f1 x.f2 x.f3 x.f4 y.f0 y.f1 y.f2 y.f3 y.f4) ([], false) := by
    refine Evn.step ?_
    simp only [impl_apply.j1, if_true]
    exact Evn.done _
  unfold impl_apply.f appL
  simp only [Option.bind_some, im_isEdit]
  by_cases hE : editB kd a x y = true
  · obtain ⟨⟨ha0, ha1⟩, hk⟩ := editB_in hE
    simp only [hE, if_true]
    by_cases k1 : kd = 1
    · simp only [if_pos k1]
      refine Evn.ite (fun c1 => by rw [if_pos c1]; exact no0) (fun c1 => ?_)
      rw [if_neg c1]
      by_cases c2 : l.length = 12
      · have e : ((l.length : Int) == 12) = true := beq_iff_eq.2 (by omega)
        rw [e, if_pos c2]
        exact no0
      · have e : ((l.length : Int) == 12) = false := beq_eq_false_iff_ne.2 (by omega)
        rw [e, if_neg c2]
        refine Evn.step ?_
        have hi : impl_Leg_90.f l a [y] = some (l.take a.toNat ++ (y :: l.drop a.toNat)) := by
          unfold impl_Leg_90.f
          rw [if_pos ⟨ha0, by omega, rfl, by omega⟩]
          rfl
        have hi' : impl_Leg_90.f l a [(⟨y.f0, y.f1, y.f2, y.f3, y.f4⟩ : S26)] = some (l.take a.toNat ++ (y :: l.drop a.toNat)) := hi
        simp only [impl_apply.j0, Bool.false_eq_true, if_false, clone_leg l (by omega), Option.bind_some, hi']
        exact Evn.done _
    · simp only [if_neg k1]
      refine Evn.ite (fun c1 => by rw [if_pos c1]; exact no1) (fun c1 => ?_)
      have c4 : a < (l.length : Int) := by omega
      rw [if_neg c1]
      simp only [if_pos ha0, if_pos c4, rd_T26]
      have eb : ∀ b : Bool, neqL (l.getD a.toNat z26) x = b → Evn (fun k => impl_apply.j1 k l b kd a x.f0 x.f1 x.f2 x.f3 x.f4 y.f0 y.f1 y.f2 y.f3 y.f4) (if b = true then ([], false) else if kd = 2 then (l.take a.toNat ++ l.drop (a.toNat + 1), true) else (l.take a.toNat ++ (y :: l.drop (a.toNat + 1)), true)) := by
        intro b hb
        cases b with
        | true => rw [if_pos rfl]; exact no1
        | false =>
          rw [if_neg (by decide)]
          refine Evn.step ?_
          simp only [impl_apply.j1, Bool.false_eq_true, if_false]
          by_cases k2 : kd = 2
          · have hi : impl_leaving.f l a = some (l.take a.toNat ++ l.drop (a.toNat + 1)) := by
              unfold impl_leaving.f
              rw [if_pos ⟨ha0, by omega, by omega⟩]
            simp only [if_pos k2, hi, Option.bind_some]
            exact Evn.done _
          · simp only [if_neg k2, clone_leg l (by omega), Option.bind_some, if_pos ha0, if_pos c4]
            refine (Evn.done _).eq_ ?_
            rw [set_form _ _ _ (by omega)]
      exact eb _ rfl
  · simp only [if_neg hE]
    exact Evn.done _

theorem appL_no {l : List S26} {k a : Int} {x y : S26} (h : ¬ (appL l k a x y).2 = true) : appL l k a x y = ([], false) := by
  unfold appL at h ⊢
  split
  · rename_i hE
    rw [if_pos hE] at h
    split
    · rename_i k1
      rw [if_pos k1] at h
      split
      · rfl
      · rename_i c1
        rw [if_neg c1] at h
        split
        · rfl
        · rename_i c2
          rw [if_neg c2] at h
          exact absurd rfl h
    · rename_i k1
      rw [if_neg k1] at h
      split
      · rfl
      · rename_i c1
        rw [if_neg c1] at h
        split
        · rfl
        · rename_i c2
          rw [if_neg c2] at h
          split at h <;> exact absurd rfl h
  · rfl
theorem im_ApplyEdit (l : List S26) (hl : l.length ≤ 4194304) (kd a : Int) (x y : S26) : Evn (fun k => impl_ApplyEdit.f k l kd a x.f0 x.f1 x.f2 x.f3 x.f4 y.f0 y.f1 y.f2 y.f3 y.f4) (appTs l kd a x y) := by
  unfold impl_ApplyEdit.f appTs
  refine Evn.bind (im_areLegs l hl) ?_
  refine Evn.ite (fun c => ?_) (fun c => by rw [if_neg c]; exact Evn.done _)
  rw [if_pos c]
  refine Evn.bind (im_apply l (goodLegs_len c) kd a x y) ?_
  refine (Evn.done _).eq_ ?_
  by_cases c2 : (appL l kd a x y).2 = true
  · rw [if_pos c2, c2]
  · rw [if_neg c2, appL_no c2]

theorem rd_last (pre : List (List S26)) (c : List S26) (z : List S26) : (pre ++ [c]).getD pre.length z = c := by
  rw [List.getD_eq_getElem?_getD, List.getElem?_append_right (Nat.le_refl _), Nat.sub_self]
  rfl
theorem im_versions_l0 (hs : List S28) (hh : hs.length ≤ 10) : ∀ (d i : Nat) (pre : List (List S26)) (c : List S26), i + d = hs.length → pre.length = i → c.length ≤ 12 → Evn (fun k => impl_versions.l0 k (pre ++ [c]) hs (hs.length : Int) (i : Int)) (if (runB c (hs.drop i)).2 = true then (pre ++ versL c (hs.drop i), true) else ([], false)) := by
  intro d
  induction d with
  | zero =>
    intro i pre c h hp hc
    refine Evn.step ?_
    have h1 : ¬ (i : Int) < (hs.length : Int) := by omega
    simp only [impl_versions.l0, if_neg h1]
    rw [List.drop_eq_nil_of_le (by omega)]
    exact Evn.done _
  | succ d ih =>
    intro i pre c h hp hc
    have h1 : (i : Int) < (hs.length : Int) := by omega
    have h2 : 0 ≤ (i : Int) := by omega
    have h3 : (i : Int) < ((pre ++ [c]).length : Int) := by rw [List.length_append, List.length_singleton]; omega
    have hw := wrap_succ (show i < 4611686018427387904 by omega)
    have hr : (pre ++ [c]).getD i [] = c := by rw [← hp]; exact rd_last pre c []
    refine Evn.step ?_
    simp only [impl_versions.l0, if_pos h1, if_pos h2, if_pos h3, hw, rd_T28, rd_L2, Int.toNat_natCast, hr]
    clear hw
    rw [getD_drop hs i z28 (by omega)]
    refine Evn.bind (im_apply c hc (hs.getD i z28).f0 (hs.getD i z28).f1 (hs.getD i z28).f2 (hs.getD i z28).f3) ?_
    unfold runB versL
    unfold apE
    refine Evn.ite (fun c2 => ?_) (fun c2 => by rw [if_neg c2, if_neg (by decide)]; exact Evn.done _)
    rw [if_pos c2]
    refine Evn.ite (fun _ => ?_) (fun h4 => absurd (by rw [List.length_append, List.length_singleton]; omega) h4)
    have h5 := ih (i + 1) (pre ++ [c]) (appL c (hs.getD i z28).f0 (hs.getD i z28).f1 (hs.getD i z28).f2 (hs.getD i z28).f3).1 (by omega) (by rw [List.length_append, List.length_singleton]; omega) (appL_len hc _ _ _ _)
    refine h5.eq_ ?_
    rw [List.append_assoc]
    rfl
def verTs (l : List S26) (hs : List S28) : List (List S26) × Bool := if goodH l hs = true then (versL l hs, true) else ([], false)
theorem im_versions (l : List S26) (hs : List S28) (hl : l.length ≤ 4194304) : Evn (fun k => impl_versions.f k l hs) (verTs l hs) := by
  have no : ¬ goodH l hs = true → Evn (fun k => impl_versions.j0 k l hs [] true) (verTs l hs) := by
    intro h
    unfold verTs
    rw [if_neg h]
    refine Evn.step ?_
    simp only [impl_versions.j0, if_true]
    exact Evn.done _
  unfold impl_versions.f
  refine Evn.bind (im_areLegs l hl) ?_
  refine Evn.ite (fun c => ?_) (fun c => no (fun h => c (goodH_in h).1))
  by_cases c2 : (hs.length : Int) > 10
  · rw [decide_eq_true c2]
    exact no (fun h => by have := (goodH_in h).2.1; omega)
  · rw [decide_eq_false c2]
    refine Evn.step ?_
    simp only [impl_versions.j0, Bool.false_eq_true, if_false, clone_leg l hl, Option.bind_some]
    refine Evn.ite (fun _ => ?_) (fun c3 => absurd (by rw [List.length_nil]; omega) c3)
    have h := im_versions_l0 hs (by omega) hs.length 0 [] l (by omega) rfl (goodLegs_len c)
    rw [List.drop_zero, List.nil_append, List.nil_append] at h
    refine h.eq_ ?_
    unfold verTs goodH
    rw [c, Bool.true_and, decide_eq_true (show hs.length ≤ 10 by omega), Bool.true_and]

theorem im_IsHistory (l : List S26) (hs : List S28) (hl : l.length ≤ 4194304) : Evn (fun k => impl_IsHistory.f k l hs) (goodH l hs) := by
  unfold impl_IsHistory.f
  refine Evn.bind (im_versions l hs hl) ?_
  refine (Evn.done _).eq_ ?_
  unfold verTs
  by_cases h : goodH l hs = true
  · rw [if_pos h, h]
  · rw [if_neg h, Bool.eq_false_iff.mpr h]

theorem im_VersionAt (l : List S26) (hs : List S28) (n : Int) (hl : l.length ≤ 4194304) : Evn (fun k => impl_VersionAt.f k l hs n) (atTs l hs n) := by
  unfold impl_VersionAt.f atTs
  refine Evn.bind (im_versions l hs hl) ?_
  unfold verTs
  by_cases c : goodH l hs = true
  · rw [if_pos c]
    simp only [if_true, im_within, Option.bind_some]
    refine Evn.ite (fun c2 => ?_) (fun c2 => by rw [if_neg (fun h => c2 (decide_eq_true h.2))]; exact Evn.done _)
    have c3 := of_decide_eq_true c2
    obtain ⟨m, rfl⟩ : ∃ m : Nat, n = m := ⟨n.toNat, by omega⟩
    obtain ⟨g1, g2, g3⟩ := goodH_in c
    have hv := versL_len hs l
    have h1 : 0 ≤ (m : Int) := by omega
    have h2 : (m : Int) < ((versL l hs).length : Int) := by omega
    refine Evn.eq_ (a := ((runB l (hs.take m)).1, true)) ?_ (by rw [if_pos ⟨c, c3⟩, Int.toNat_natCast])
    simp only [if_pos h1, if_pos h2, rd_L2, Int.toNat_natCast, vers_at hs l m g3 (by omega)]
    exact Evn.done _
  · rw [if_neg c]
    refine Evn.eq_ (a := ([], false)) ?_ (if_neg (fun h => c h.1)).symm
    simp only [Bool.false_eq_true, if_false]
    exact Evn.done _

theorem im_UndoEdits (l : List S26) (hs : List S28) (n : Int) (hl : l.length ≤ 4194304) : Evn (fun k => impl_UndoEdits.f k l hs n) (undoTs l hs n) := by
  unfold impl_UndoEdits.f undoTs
  refine Evn.bind (im_IsHistory l hs hl) ?_
  refine Evn.ite (fun c => ?_) (fun c => by rw [if_neg (fun h => c h.1)]; exact Evn.done _)
  simp only [im_within, Option.bind_some]
  refine Evn.ite (fun c2 => ?_) (fun c2 => by rw [if_neg (fun h => c2 (decide_eq_true h.2))]; exact Evn.done _)
  have c3 := of_decide_eq_true c2
  have g2 := (goodH_in c).2.1
  have q1 : 0 ≤ n ∧ n ≤ (hs.length : Int) ∧ hs.length ≤ 4194304 := ⟨c3.1, c3.2, by omega⟩
  have q2 : goodH l hs = true ∧ 0 ≤ n ∧ n ≤ (hs.length : Int) := ⟨c, c3⟩
  rw [if_pos q2]
  simp only [if_pos q1]
  exact Evn.done _

theorem ev_vEdits_l0 (xs : List S28) : ∀ (D i : Nat), i + D = xs.length → xs.length ≤ 4194304 → Evn (fun k => laws_vEdits.l0 k xs xs (i : Int)) true := by
  intro D
  induction D with
  | zero =>
    intro i h hx
    refine Evn.step ?_
    have h1 : ¬ (i : Int) < (xs.length : Int) := by omega
    simp only [laws_vEdits.l0, if_neg h1]
    exact Evn.done _
  | succ D ih =>
    intro i h hx
    refine Evn.step ?_
    have h1 : (i : Int) < (xs.length : Int) := by omega
    have h2 : 0 ≤ (i : Int) := by omega
    simp only [laws_vEdits.l0, if_pos h1, if_pos h2, beq_self_eq_true, Bool.not_true, Bool.or_self, Bool.false_eq_true, if_false, wrap_succ (show i < 4611686018427387904 by omega)]
    exact ih (i + 1) (by omega) hx
theorem ev_vEdits (xs : List S28) (hx : xs.length ≤ 4194304) : Evn (fun k => laws_vEdits.f k xs xs) true := by
  unfold laws_vEdits.f
  simp only [if_true]
  exact ev_vEdits_l0 xs xs.length 0 (by omega) hx

theorem ev_vLegs_l0 (xs : List S26) : ∀ (D i : Nat), i + D = xs.length → xs.length ≤ 4194304 → Evn (fun k => laws_vLegs.l0 k xs xs (i : Int)) true := by
  intro D
  induction D with
  | zero =>
    intro i h hx
    refine Evn.step ?_
    have h1 : ¬ (i : Int) < (xs.length : Int) := by omega
    simp only [laws_vLegs.l0, if_neg h1]
    exact Evn.done _
  | succ D ih =>
    intro i h hx
    refine Evn.step ?_
    have h1 : (i : Int) < (xs.length : Int) := by omega
    have h2 : 0 ≤ (i : Int) := by omega
    simp only [laws_vLegs.l0, if_pos h1, if_pos h2, beq_self_eq_true, Bool.not_true, Bool.or_self, Bool.false_eq_true, if_false, wrap_succ (show i < 4611686018427387904 by omega)]
    exact ih (i + 1) (by omega) hx
theorem ev_vLegs (xs : List S26) (hx : xs.length ≤ 4194304) : Evn (fun k => laws_vLegs.f k xs xs) true := by
  unfold laws_vLegs.f
  simp only [if_true]
  exact ev_vLegs_l0 xs xs.length 0 (by omega) hx

/-! An edit and then its inverse. -/
theorem neqL_no {x y : S26} (h : ¬ neqL x y = true) : x = y := by
  obtain ⟨a, b, c, d, e⟩ := x
  obtain ⟨a', b', c', d', e'⟩ := y
  simp only [neqL, Bool.or_eq_true, Bool.not_eq_true', beq_eq_false_iff_ne, not_or, Decidable.not_not] at h
  obtain ⟨h1, h2, h3, h4, h5⟩ := h
  rw [h1, h2, h3, h4, h5]
theorem neqL_self (x : S26) : ¬ neqL x x = true := by simp [neqL]
theorem goodLegs_mk {xs : List S26} (h : ∀ x ∈ xs, okLeg x = true) (hl : xs.length ≤ 12) : goodLegs xs = true := by
  simp only [goodLegs, Bool.and_eq_true, List.all_eq_true, decide_eq_true_eq]
  exact ⟨h, hl⟩
theorem goodLegs_all {xs : List S26} (h : goodLegs xs = true) : ∀ x ∈ xs, okLeg x = true := by
  simp only [goodLegs, Bool.and_eq_true, List.all_eq_true] at h
  exact h.1
def invK (k : Int) : Int := if k = 1 then 2 else if k = 2 then 1 else k
/-- What an edit that is possible says. -/
theorem appL_yes {l : List S26} {k a : Int} {x y : S26} (h : (appL l k a x y).2 = true) : editB k a x y = true ∧ 0 ≤ a ∧
    ((k = 1 ∧ zeroB x.f0 x.f1 x.f2 x.f3 x.f4 = true ∧ okLeg y = true ∧ a ≤ (l.length : Int) ∧ l.length ≠ 12 ∧ (appL l k a x y).1 = l.take a.toNat ++ (y :: l.drop a.toNat)) ∨
     (k = 2 ∧ okLeg x = true ∧ zeroB y.f0 y.f1 y.f2 y.f3 y.f4 = true ∧ a < (l.length : Int) ∧ l.getD a.toNat z26 = x ∧ (appL l k a x y).1 = l.take a.toNat ++ l.drop (a.toNat + 1)) ∨
     (k = 3 ∧ okLeg x = true ∧ okLeg y = true ∧ neqL x y = true ∧ a < (l.length : Int) ∧ l.getD a.toNat z26 = x ∧ (appL l k a x y).1 = l.take a.toNat ++ (y :: l.drop (a.toNat + 1)))) := by
  unfold appL at h ⊢
  by_cases hE : editB k a x y = true
  · rw [if_pos hE] at h ⊢
    have hE' := hE
    obtain ⟨⟨ha, _⟩, hk⟩ := editB_in hE
    refine ⟨hE', ha, ?_⟩
    unfold editB at hE
    split at hE
    · rcases hk with rfl | rfl | rfl
      · left
        rw [if_pos rfl] at hE h ⊢
        split at hE
        · rename_i z1
          split at h
          · cases h
          · rename_i c1
            rw [if_neg c1]
            split at h
            · cases h
            · rename_i c2
              rw [if_neg c2]
              exact ⟨rfl, z1, hE, by omega, c2, rfl⟩
        · cases hE
      · right; left
        rw [if_neg (by decide), if_pos rfl] at hE
        rw [if_neg (by decide)] at h ⊢
        split at hE
        · rename_i o1
          split at h
          · cases h
          · rename_i c1
            rw [if_neg c1]
            split at h
            · cases h
            · rename_i c2
              rw [if_neg c2, if_pos rfl]
              exact ⟨rfl, o1, hE, by omega, neqL_no c2, rfl⟩
        · cases hE
      · right; right
        rw [if_neg (by decide), if_neg (by decide), if_pos rfl] at hE
        rw [if_neg (by decide)] at h ⊢
        split at hE
        · rename_i o1
          split at hE
          · rename_i o2
            split at h
            · cases h
            · rename_i c1
              rw [if_neg c1]
              split at h
              · cases h
              · rename_i c2
                rw [if_neg c2, if_neg (by decide)]
                exact ⟨rfl, o1, o2, hE, by omega, neqL_no c2, rfl⟩
          · cases hE
        · cases hE
    · cases hE
  · rw [if_neg hE] at h
    cases h
theorem appL_good {l : List S26} (hl : goodLegs l = true) {k a : Int} {x y : S26} (h : (appL l k a x y).2 = true) : goodLegs (appL l k a x y).1 = true := by
  refine goodLegs_mk ?_ (appL_len (goodLegs_len hl) k a x y)
  have hA := goodLegs_all hl
  obtain ⟨_, _, ⟨_, _, o, _, _, e⟩ | ⟨_, _, _, _, _, e⟩ | ⟨_, _, o, _, _, _, e⟩⟩ := appL_yes h
  all_goals
    rw [e]
    intro u hu
    simp only [List.mem_append, List.mem_cons] at hu
  · rcases hu with hu | rfl | hu
    · exact hA _ (List.mem_of_mem_take hu)
    · exact o
    · exact hA _ (List.mem_of_mem_drop hu)
  · rcases hu with hu | hu
    · exact hA _ (List.mem_of_mem_take hu)
    · exact hA _ (List.mem_of_mem_drop hu)
  · rcases hu with hu | rfl | hu
    · exact hA _ (List.mem_of_mem_take hu)
    · exact o
    · exact hA _ (List.mem_of_mem_drop hu)
theorem take_at {α : Type} (l : List α) (i : Nat) (z : α) (h : i < l.length) : l.take i ++ (l.getD i z :: l.drop (i + 1)) = l := by
  have e : l.getD i z = l[i] := by rw [List.getD_eq_getElem?_getD, List.getElem?_eq_getElem h]; rfl
  rw [e, ← List.drop_eq_getElem_cons h, List.take_append_drop]
theorem parts_take {α : Type} (l m : List α) (i : Nat) (h : i ≤ l.length) : (l.take i ++ m).take i = l.take i := by
  have hl : (l.take i).length = i := by rw [List.length_take]; omega
  rw [List.take_append_of_le_length (by omega), List.take_take, Nat.min_self]
theorem parts_drop {α : Type} (l m : List α) (i : Nat) (h : i ≤ l.length) : (l.take i ++ m).drop i = m := by
  have hl : (l.take i).length = i := by rw [List.length_take]; omega
  rw [List.drop_append, List.drop_eq_nil_of_le (by omega), hl, Nat.sub_self, List.drop_zero, List.nil_append]
theorem parts_drop1 {α : Type} (l m : List α) (y : α) (i : Nat) (h : i ≤ l.length) : (l.take i ++ y :: m).drop (i + 1) = m := by
  have hl : (l.take i).length = i := by rw [List.length_take]; omega
  rw [List.drop_append, List.drop_eq_nil_of_le (by omega), hl, show i + 1 - i = 1 by omega, List.nil_append]
  rfl
theorem parts_get {α : Type} (l m : List α) (y z : α) (i : Nat) (h : i ≤ l.length) : (l.take i ++ y :: m).getD i z = y := by
  have hl : (l.take i).length = i := by rw [List.length_take]; omega
  rw [List.getD_eq_getElem?_getD, List.getElem?_append_right (by omega), hl, Nat.sub_self]
  rfl
theorem appL_back {l : List S26} (hl : l.length ≤ 12) {k a : Int} {x y : S26} (h : (appL l k a x y).2 = true) : editB (invK k) a y x = true ∧ appL (appL l k a x y).1 (invK k) a y x = (l, true) := by
  obtain ⟨hE, ha, ⟨rfl, z1, o, c1, c2, e⟩ | ⟨rfl, o, z1, c1, g, e⟩ | ⟨rfl, o1, o2, n, c1, g, e⟩⟩ := appL_yes h
  · have hi : a.toNat ≤ l.length := by omega
    have hd := (editB_in hE).1
    have hE2 : editB 2 a y x = true := by unfold editB; rw [if_pos (decide_eq_true hd), if_neg (by decide), if_pos rfl, if_pos o]; exact z1
    refine ⟨hE2, ?_⟩
    rw [e]
    show appL _ 2 a y x = _
    unfold appL
    rw [if_pos hE2, if_neg (by decide), if_neg (by simp only [List.length_append, List.length_cons, List.length_take, List.length_drop]; omega), parts_get l _ y _ _ hi, if_neg (neqL_self y), if_pos rfl, parts_take l _ _ hi, parts_drop1 l _ y _ hi, List.take_append_drop]
  · have hi : a.toNat < l.length := by omega
    have hi' : a.toNat ≤ l.length := by omega
    have hd := (editB_in hE).1
    have hE2 : editB 1 a y x = true := by unfold editB; rw [if_pos (decide_eq_true hd), if_pos rfl, if_pos z1]; exact o
    refine ⟨hE2, ?_⟩
    rw [e]
    show appL _ 1 a y x = _
    unfold appL
    have hlen : (l.take a.toNat ++ l.drop (a.toNat + 1)).length = l.length - 1 := by rw [List.length_append, List.length_take, List.length_drop]; omega
    rw [if_pos hE2, if_pos rfl, if_neg (by rw [hlen]; omega), if_neg (by rw [hlen]; omega), parts_take l _ _ hi', parts_drop l _ _ hi', ← g, take_at l _ _ hi]
  · have hi : a.toNat < l.length := by omega
    have hi' : a.toNat ≤ l.length := by omega
    have hd := (editB_in hE).1
    have hn : neqL y x = true := by
      refine Classical.byContradiction fun h2 => ?_
      rw [neqL_no h2] at n
      exact neqL_self x n
    have hE2 : editB 3 a y x = true := by unfold editB; rw [if_pos (decide_eq_true hd), if_neg (by decide), if_neg (by decide), if_pos rfl, if_pos o2, if_pos o1]; exact hn
    refine ⟨hE2, ?_⟩
    rw [e]
    show appL _ 3 a y x = _
    unfold appL
    rw [if_pos hE2, if_neg (by decide), if_neg (by simp only [List.length_append, List.length_cons, List.length_take, List.length_drop]; omega), parts_get l _ y _ _ hi', if_neg (neqL_self y), if_neg (by decide), parts_take l _ _ hi', parts_drop1 l _ y _ hi', ← g, take_at l _ _ hi]
theorem run_step : ∀ (hs : List S28) (l : List S26) (m : Nat), (runB l hs).2 = true → m < hs.length → (apE (runB l (hs.take m)).1 (hs.getD m z28)).2 = true ∧ (runB l (hs.take (m + 1))).1 = (apE (runB l (hs.take m)).1 (hs.getD m z28)).1
  | [], _, m, _, hm => by simp at hm
  | e :: es, l, m, h, hm => by
    unfold runB at h
    split at h
    · rename_i c
      cases m with
      | zero =>
        have e1 : runB l [e] = ((apE l e).1, true) := by rw [runB, if_pos c]; rfl
        rw [List.take_zero, List.take_succ_cons, List.take_zero, e1]
        exact ⟨c, rfl⟩
      | succ m =>
        rw [List.take_succ_cons, List.take_succ_cons, runB, if_pos c, runB, if_pos c]
        exact run_step es _ m h (by simpa using hm)
    · cases h
theorem run_good : ∀ (hs : List S28) (l : List S26) (m : Nat), goodLegs l = true → (runB l hs).2 = true → goodLegs (runB l (hs.take m)).1 = true
  | [], l, m, g, _ => by rw [List.take_nil]; exact g
  | e :: es, l, 0, g, _ => g
  | e :: es, l, m + 1, g, h => by
    unfold runB at h
    split at h
    · rename_i c
      rw [List.take_succ_cons, runB, if_pos c]
      exact run_good es _ m (appL_good g c) h
    · cases h

theorem byts_of {l : List Int} (h : ∀ x ∈ l, (Lit.int .u8 x).wf = true) : Byts l := by
  intro x hx
  have h1 := h x hx
  simp [Lit.wf, IntKind.min, IntKind.max, IntKind.signed, IntKind.bits] at h1
  omega

theorem im_inv0 (x : S28) : impl_Edit_inverse.f x.f0 x.f1 x.f2.f0 x.f2.f1 x.f2.f2 x.f2.f3 x.f2.f4 x.f3.f0 x.f3.f1 x.f3.f2 x.f3.f3 x.f3.f4 = some ((invE x).f0, (invE x).f1, (invE x).f2.f0, (invE x).f2.f1, (invE x).f2.f2, (invE x).f2.f3, (invE x).f2.f4, (invE x).f3.f0, (invE x).f3.f1, (invE x).f3.f2, (invE x).f3.f3, (invE x).f3.f4) := by
  unfold impl_Edit_inverse.f invE
  by_cases h1 : x.f0 = 1
  · rw [if_pos h1, if_pos h1]
  · rw [if_neg h1, if_neg h1]
    by_cases h2 : x.f0 = 2
    · rw [if_pos h2, if_pos h2]
    · rw [if_neg h2, if_neg h2]
theorem im_inv (e : S28) : impl_InverseEdit.f e.f0 e.f1 e.f2.f0 e.f2.f1 e.f2.f2 e.f2.f3 e.f2.f4 e.f3.f0 e.f3.f1 e.f3.f2 e.f3.f3 e.f3.f4 = some (if editB e.f0 e.f1 e.f2 e.f3 = true then ((invE e).f0, (invE e).f1, (invE e).f2.f0, (invE e).f2.f1, (invE e).f2.f2, (invE e).f2.f3, (invE e).f2.f4, (invE e).f3.f0, (invE e).f3.f1, (invE e).f3.f2, (invE e).f3.f3, (invE e).f3.f4, true) else (0, 0, 0, 0, 0, 0, 0, 0, 0, 0, 0, 0, false)) := by
  unfold impl_InverseEdit.f
  rw [im_isEdit e.f0 e.f1 e.f2 e.f3, Option.bind_some]
  split
  · rw [im_inv0 e, Option.bind_some]
  · rfl
theorem sp_inv2 (e : S28) : spec_InverseEdit.f e.f0 e.f1 e.f2.f0 e.f2.f1 e.f2.f2 e.f2.f3 e.f2.f4 e.f3.f0 e.f3.f1 e.f3.f2 e.f3.f3 e.f3.f4 = some (if editB e.f0 e.f1 e.f2 e.f3 = true then ((invE e).f0, (invE e).f1, (invE e).f2.f0, (invE e).f2.f1, (invE e).f2.f2, (invE e).f2.f3, (invE e).f2.f4, (invE e).f3.f0, (invE e).f3.f1, (invE e).f3.f2, (invE e).f3.f3, (invE e).f3.f4, true) else (0, 0, 0, 0, 0, 0, 0, 0, 0, 0, 0, 0, false)) := by
  unfold spec_InverseEdit.f
  rw [sp_l19Valid e.f0 e.f1 e.f2 e.f3, Option.bind_some]
  split
  · rw [sp_inv e, Option.bind_some]
  · rfl
theorem invE_eq (e : S28) : invE e = ⟨invK e.f0, e.f1, e.f3, e.f2⟩ := by
  unfold invE invK
  split
  · rfl
  · split <;> rfl
theorem invK_inv {k : Int} (h : k = 1 ∨ k = 2 ∨ k = 3) : invK (invK k) = k := by rcases h with rfl | rfl | rfl <;> rfl
theorem invE_inv {e : S28} (h : editB e.f0 e.f1 e.f2 e.f3 = true) : invE (invE e) = e := by
  rw [invE_eq e, invE_eq]
  dsimp only
  rw [invK_inv (editB_in h).2]
theorem apE_back {l : List S26} (hl : l.length ≤ 12) {e : S28} (h : (apE l e).2 = true) : editB (invE e).f0 (invE e).f1 (invE e).f2 (invE e).f3 = true ∧ apE (apE l e).1 (invE e) = (l, true) := by
  rw [invE_eq]
  exact appL_back hl h
theorem FnVersions : laws_FnVersions.Pure := by
  intro l hl _ hb
  apply Evn.get
  have hB : Byts l := byts_of hb
  have j6 : Evn (fun k => laws_FnVersions.j6 k l) true := by
    refine Evn.step ?_
    simp only [laws_FnVersions.j6]
    obtain ⟨t, ht, h1, h2⟩ := dw_DrawVersionAt hB
    refine Evn.bind ht ?_
    refine Evn.bind (im_VersionAt t.1 t.2.1 t.2.2 (by omega)) (Evn.bind (sp_VersionAt t.1 t.2.1 t.2.2 (by omega)) ?_)
    simp only [beq_self_eq_true, if_true]
    exact Evn.bind (ev_vLegs _ (atTs_len _ _ _)) (Evn.done _)
  have j5 : ∀ (x y : List S26) (told : Bool) (e i : S28), (told = true → goodLegs y = true ∧ appL y i.f0 i.f1 i.f2 i.f3 = (x, true) ∧ x.length ≤ 12 ∧ editB i.f0 i.f1 i.f2 i.f3 = true ∧ invE i = e) → Evn (fun k => laws_FnVersions.j5 k l x y told false e.f0 e.f1 e.f2.f0 e.f2.f1 e.f2.f2 e.f2.f3 e.f2.f4 e.f3.f0 e.f3.f1 e.f3.f2 e.f3.f3 e.f3.f4 i.f0 i.f1 i.f2.f0 i.f2.f1 i.f2.f2 i.f2.f3 i.f2.f4 i.f3.f0 i.f3.f1 i.f3.f2 i.f3.f3 i.f3.f4) true := by
    intro x y told e i h
    refine Evn.step ?_
    simp only [laws_FnVersions.j5, Bool.false_eq_true, if_false]
    cases told with
    | false => simp only [Bool.false_eq_true, if_false]; exact j6
    | true =>
      obtain ⟨g1, g2, g3, g4, g5⟩ := h rfl
      simp only [if_true]
      have hA := im_ApplyEdit y (by have := goodLegs_len g1; omega) i.f0 i.f1 i.f2 i.f3
      have e1 : appTs y i.f0 i.f1 i.f2 i.f3 = (x, true) := by
        unfold appTs
        rw [if_pos g1, g2]
        rfl
      rw [e1] at hA
      refine Evn.bind hA (Evn.bind (Evn.of fun _ => im_inv i) ?_)
      rw [if_pos g4, g5]
      simp only [if_true]
      refine Evn.bind (ev_vLegs x (by omega)) ?_
      simp only [if_true, beq_self_eq_true, Bool.not_true, Bool.or_self, Bool.false_eq_true, if_false]
      exact j6
  have j4 : ∀ (x y : List S26) (told : Bool) (e : S28), appTs x e.f0 e.f1 e.f2 e.f3 = (y, told) → Evn (fun k => laws_FnVersions.j4 k l x y told false e.f0 e.f1 e.f2.f0 e.f2.f1 e.f2.f2 e.f2.f3 e.f2.f4 e.f3.f0 e.f3.f1 e.f3.f2 e.f3.f3 e.f3.f4) true := by
    intro x y told e h
    refine Evn.step ?_
    simp only [laws_FnVersions.j4, Bool.false_eq_true, if_false]
    refine Evn.bind (Evn.of fun _ => im_inv e) (Evn.bind (Evn.of fun _ => sp_inv2 e) ?_)
    simp only [beq_self_eq_true, bne_self_eq_false, Bool.not_true, Bool.or_self, Bool.false_eq_true, if_false]
    have hy : told = true → goodLegs x = true ∧ (apE x e).2 = true ∧ y = (apE x e).1 := by
      intro ht
      subst ht
      unfold appTs at h
      split at h
      · rename_i g
        split at h
        · rename_i g2
          exact ⟨g, g2, ((Prod.mk.injEq _ _ _ _).mp h).1.symm⟩
        · cases ((Prod.mk.injEq _ _ _ _).mp h).2
      · cases ((Prod.mk.injEq _ _ _ _).mp h).2
    by_cases hE : editB e.f0 e.f1 e.f2 e.f3 = true
    · rw [if_pos hE]
      simp only [Bool.not_true, ite_self]
      refine j5 x y told e (invE e) (fun ht => ?_)
      obtain ⟨q1, q2, q3⟩ := hy ht
      obtain ⟨b1, b2⟩ := apE_back (goodLegs_len q1) q2
      rw [q3]
      exact ⟨appL_good q1 q2, b2, goodLegs_len q1, b1, invE_inv hE⟩
    · have hf : told = false := by
        cases told with
        | false => rfl
        | true => exact absurd (appL_yes (hy rfl).2.1).1 hE
      rw [if_neg hE, hf]
      simp only [Bool.false_eq_true, if_false]
      exact j5 x y false e ⟨0, 0, ⟨0, 0, 0, 0, 0⟩, ⟨0, 0, 0, 0, 0⟩⟩ (fun h => by cases h)
  have j3 : Evn (fun k => laws_FnVersions.j3 k l) true := by
    refine Evn.step ?_
    simp only [laws_FnVersions.j3]
    obtain ⟨t, ht, h1⟩ := dw_DrawApplyEdit hB
    refine Evn.bind ht ?_
    obtain ⟨x, a0, a1, a2, a3, a4, a5, a6, a7, a8, a9, a10, a11⟩ := t
    dsimp only at h1 ⊢
    have hi := im_ApplyEdit x (by omega) a0 a1 ⟨a2, a3, a4, a5, a6⟩ ⟨a7, a8, a9, a10, a11⟩
    have hs := sp_ApplyEdit x (by omega) a0 a1 ⟨a2, a3, a4, a5, a6⟩ ⟨a7, a8, a9, a10, a11⟩
    have hlen := appTs_len x a0 a1 ⟨a2, a3, a4, a5, a6⟩ ⟨a7, a8, a9, a10, a11⟩
    have h4 := j4 x (appTs x a0 a1 ⟨a2, a3, a4, a5, a6⟩ ⟨a7, a8, a9, a10, a11⟩).1 (appTs x a0 a1 ⟨a2, a3, a4, a5, a6⟩ ⟨a7, a8, a9, a10, a11⟩).2 ⟨a0, a1, ⟨a2, a3, a4, a5, a6⟩, ⟨a7, a8, a9, a10, a11⟩⟩ rfl
    dsimp only at hi hs h4
    refine Evn.bind hi (Evn.bind hs ?_)
    simp only [bne_self_eq_false, Bool.false_eq_true, if_false]
    refine Evn.bind (ev_vLegs _ hlen) ?_
    exact h4
  have back : ∀ (L : List S26) (H : List S28), goodLegs L = true → (runB L H).2 = true → H.length ≤ 10 → ∀ (n m : Nat), m + n = H.length → ∀ (D j : Nat), D + j = n →
      Evn (fun k => laws_FnVersions.l0 k l (((H.drop m).reverse).map invE) (runB L (H.take (m + D))).1 (runB L (H.take m)).1 (j : Int)) true := by
    intro L H gL gH gl n m hmn D
    have hul : (((H.drop m).reverse).map invE).length = n := by rw [List.length_map, List.length_reverse, List.length_drop]; omega
    induction D with
    | zero =>
      intro j hj
      refine Evn.step ?_
      have c1 : ¬ (j : Int) < ((((H.drop m).reverse).map invE).length : Int) := by rw [hul]; omega
      have hv := ev_vLegs (runB L (H.take m)).1 (by have := goodLegs_len (run_good H L m gL gH); omega)
      simp only [laws_FnVersions.l0, if_neg c1, Nat.add_zero]
      refine Evn.bind hv ?_
      simp only [if_true]
      exact j3
    | succ D ih =>
      intro j hj
      have c1 : (j : Int) < ((((H.drop m).reverse).map invE).length : Int) := by rw [hul]; omega
      have c2 : 0 ≤ (j : Int) := by omega
      have hr := ih (j + 1) (by omega)
      have hm : m + D < H.length := by omega
      have hget : (((H.drop m).reverse).map invE).getD j z28 = invE (H.getD (m + D) z28) := by
        have hj1 : j < (((H.drop m).reverse).map invE).length := by omega
        rw [List.getD_eq_getElem?_getD, List.getElem?_eq_getElem hj1, Option.getD_some, List.getElem_map, List.getElem_reverse, List.getElem_drop, List.getD_eq_getElem?_getD, List.getElem?_eq_getElem hm, Option.getD_some]
        congr 2
        rw [List.length_drop]
        omega
      obtain ⟨s1, s2⟩ := run_step H L (m + D) gH hm
      have g0 := run_good H L (m + D) gL gH
      have g1 := run_good H L (m + D + 1) gL gH
      obtain ⟨b1, b2⟩ := apE_back (goodLegs_len g0) s1
      rw [← s2] at b2
      generalize hx : (runB L (H.take (m + D))).1 = X at *
      generalize hy : (runB L (H.take (m + D + 1))).1 = Y at *
      generalize hz : invE (H.getD (m + D) z28) = I at *
      have hA := im_ApplyEdit Y (by have := goodLegs_len g1; omega) I.f0 I.f1 I.f2 I.f3
      have e1 : appTs Y I.f0 I.f1 I.f2 I.f3 = (X, true) := by
        unfold appTs
        have b3 : appL Y I.f0 I.f1 I.f2 I.f3 = (X, true) := b2
        rw [if_pos g1, b3]
        rfl
      rw [e1] at hA
      refine Evn.step ?_
      simp only [laws_FnVersions.l0, if_pos c1, if_pos c2, rd_T28, Int.toNat_natCast, hget]
      refine Evn.bind hA ?_
      simp only [if_true, wrap_succ (show j < 4611686018427387904 by omega)]
      exact hr
  unfold laws_FnVersions.f laws_vBig.f
  simp only [Option.bind_some]
  refine Evn.ite (fun _ => Evn.done _) (fun _ => ?_)
  obtain ⟨t, ht, h1, h2⟩ := dw_DrawUndoEdits hB
  refine Evn.bind ht ?_
  obtain ⟨L, H, n⟩ := t
  dsimp only at h1 h2 ⊢
  have hun := undoTs_len L H n
  refine Evn.bind (im_UndoEdits L H n (by omega)) (Evn.bind (sp_UndoEdits L H n (by omega)) ?_)
  simp only [bne_self_eq_false, Bool.false_eq_true, if_false]
  refine Evn.bind (ev_vEdits _ hun) ?_
  simp only [if_true]
  refine Evn.bind (im_IsHistory L H (by omega)) (Evn.bind (sp_IsHistory L H (by omega)) ?_)
  rw [bne_self_eq_false]
  refine Evn.step ?_
  simp only [laws_FnVersions.j0, Bool.false_eq_true, if_false]
  by_cases c : goodH L H = true ∧ 0 ≤ n ∧ n ≤ (H.length : Int)
  · obtain ⟨g1, g2, g3⟩ := goodH_in c.1
    have e1 : undoTs L H n = (((H.drop (H.length - n.toNat)).reverse).map invE, true) := if_pos c
    obtain ⟨q, rfl⟩ : ∃ q : Nat, n = q := ⟨n.toNat, by omega⟩
    rw [Int.toNat_natCast] at e1
    rw [e1]
    simp only [if_true]
    have hw : wrap64 ((H.length : Int) - (q : Int)) = ((H.length - q : Nat) : Int) := by rw [wrap_id (by omega) (by omega)]; omega
    rw [hw]
    have v1 := im_VersionAt L H (H.length : Int) (by omega)
    have v2 := im_VersionAt L H ((H.length - q : Nat) : Int) (by omega)
    have a1 : atTs L H (H.length : Int) = ((runB L (H.take H.length)).1, true) := by unfold atTs; rw [if_pos ⟨c.1, by omega, by omega⟩, Int.toNat_natCast]
    have a2 : atTs L H ((H.length - q : Nat) : Int) = ((runB L (H.take (H.length - q))).1, true) := by unfold atTs; rw [if_pos ⟨c.1, by omega, by omega⟩, Int.toNat_natCast]
    rw [a1] at v1
    rw [a2] at v2
    refine Evn.bind v1 (Evn.bind v2 ?_)
    simp only [if_true, Bool.not_true]
    refine Evn.step ?_
    simp only [laws_FnVersions.j1, Bool.false_eq_true, if_false]
    have hb := back L H g1 g3 g2 q (H.length - q) (by omega) q 0 (by omega)
    rw [show H.length - q + q = H.length by omega] at hb
    exact hb
  · have e1 : undoTs L H n = ([], false) := if_neg c
    rw [e1]
    simp only [Bool.false_eq_true, if_false]
    exact j3

end Go.Proofs.Ytinelmmnajelaaa.Pure
