/- The plain statement of FnExactChangeLead: its plain function returns true at every input. No condition beyond the arguments' own bounds. -/
import Derived.Test.YtldgjibimolcdaaQFnExactChangeLeadx7
import Derived.Test.YtldgjibimolcdaaAid
namespace Go.Proofs.Ytldgjibimolcdaa.Pure
open Go.RowKit Go.Proofs.YtldgjibimolcdaaW.PrintWords Go.Proofs.YtldgjibimolcdaaW.PrintLast Go.Proofs.Ytldgjibimolcdaa.Aid Go.Proofs.Ytldgjibimolcdaa.QFnExactChangeLead
set_option linter.unusedVariables false
set_option linter.unusedSimpArgs false

theorem ev_szLeadS (l : List S23) (q : Int) : laws_szLeadS.f l q = some (if wrap64 (q - (l.length : Int)) < 0 then -1 else wrap64 (q - (l.length : Int))) := by
  unfold laws_szLeadS.f
  split <;> rfl

-- laws_toLead: as it stands

def convLead (x : S23) : S25 := ⟨x.f0, x.f1, x.f2, x.f3, x.f4⟩
theorem ev_toLeadS_l0 (xs : List S23) (hx : xs.length ≤ 1048576) : ∀ (d i : Nat) (ys : List S25), i + d = xs.length → ys.length = xs.length → Evn (fun k => laws_toLeadS.l0 k xs ys (i : Int)) (ys.take i ++ (xs.drop i).map convLead) := by
  intro d
  induction d with
  | zero =>
    intro i ys h hy
    refine Evn.step ?_
    have h1 : ¬ (i : Int) < (xs.length : Int) := by omega
    simp only [laws_toLeadS.l0, if_neg h1]
    have e : ys.take i ++ (xs.drop i).map convLead = ys := by rw [List.take_of_length_le (by omega), List.drop_eq_nil_of_le (by omega)]; simp
    rw [e]
    exact Evn.done _
  | succ d ih =>
    intro i ys h hy
    refine Evn.step ?_
    have h1 : (i : Int) < (xs.length : Int) := by omega
    have h2 : 0 ≤ (i : Int) := by omega
    have h3 : (i : Int) < (ys.length : Int) := by omega
    simp only [laws_toLeadS.l0, laws_toLead.f, if_pos h1, if_pos h2, if_pos h3, Option.bind_some, Int.toNat_natCast, wrap_succ (show i < 4611686018427387904 by omega)]
    refine (ih (i + 1) _ (by omega) (by simpa using hy)).eq_ ?_
    rw [set_take _ _ _ (by omega), getD_drop xs i z23 (by omega)]
    simp [convLead, rd_T23]
theorem ev_toLeadS (xs : List S23) (hx : xs.length ≤ 1048576) : Evn (fun k => laws_toLeadS.f k xs) (xs.map convLead) := by
  unfold laws_toLeadS.f
  refine Evn.ite (fun _ => Evn.ite (fun _ => ?_) (fun h => (h (by omega)).elim)) (fun h => (h (by omega)).elim)
  have h := ev_toLeadS_l0 xs hx xs.length 0 (List.replicate (xs.length : Int).toNat z25) (by omega) (by simp)
  simpa using h

-- laws_eqLead: as it stands

theorem ev_eqLeadS_l0 (xs : List S25) (hx : xs.length ≤ 4194304) : ∀ (d i : Nat), i + d = xs.length → Evn (fun k => laws_eqLeadS.l0 k xs xs (i : Int)) true := by
  intro d
  induction d with
  | zero =>
    intro i h
    refine Evn.step ?_
    have h1 : ¬ (i : Int) < (xs.length : Int) := by omega
    simp only [laws_eqLeadS.l0, if_neg h1]
    exact Evn.done _
  | succ d ih =>
    intro i h
    refine Evn.step ?_
    have h1 : (i : Int) < (xs.length : Int) := by omega
    have h2 : 0 ≤ (i : Int) := by omega
    simp only [laws_eqLeadS.l0, laws_eqLead.f, if_pos h1, if_pos h2, Option.bind_some, if_true, wrap_succ (show i < 4611686018427387904 by omega)]
    exact ih (i + 1) (by omega)
theorem ev_eqLeadS (xs : List S25) (hx : xs.length ≤ 4194304) : Evn (fun k => laws_eqLeadS.f k xs xs) true := by
  simp only [laws_eqLeadS.f, if_true]
  exact ev_eqLeadS_l0 xs hx xs.length 0 (by omega)

/-! The marks that the law lays: b, b + 1, .. -/
def marksLead (b : Int) : Nat → List S25
  | 0 => []
  | d + 1 => (⟨b, b + 1, b + 2, b + 3, b + 4⟩ : S25) :: marksLead (b + 5) d
theorem marksLead_len (d : Nat) : ∀ b, (marksLead b d).length = d := by
  induction d with
  | zero => intro b; rfl
  | succ d ih => intro b; simp [marksLead, ih]
theorem ev_markLeadS_l0 (n : Nat) (hn : n ≤ 4194304) : ∀ (d i : Nat) (b : Int) (ys : List S25), i + d = n → ys.length = n → 0 ≤ b → b + 5 * d ≤ 1152921504606846976 → Evn (fun k => laws_markLeadS.l0 k ys b (i : Int)) (b + 5 * d, ys.take i ++ marksLead b d) := by
  intro d
  induction d with
  | zero =>
    intro i b ys h hy h0 hb
    refine Evn.step ?_
    have h1 : ¬ (i : Int) < (ys.length : Int) := by omega
    simp only [laws_markLeadS.l0, if_neg h1, marksLead]
    rw [List.take_of_length_le (by omega)]
    simpa using Evn.done _
  | succ d ih =>
    intro i b ys h hy h0 hb
    refine Evn.step ?_
    have h1 : (i : Int) < (ys.length : Int) := by omega
    have h2 : 0 ≤ (i : Int) := by omega
    have hs : ∀ (zs : List S25) (v : S25), zs.length = ys.length → rd_T25 (zs.set i v) (i : Int) = v := by
      intro zs v hz
      unfold rd_T25
      rw [Int.toNat_natCast, List.getD_eq_getElem?_getD, List.getElem?_set_self (by omega)]
      rfl
    have hk := ih (i + 1) (b + 5) (ys.set i ⟨b, b + 1, b + 2, b + 3, b + 4⟩) (by omega) (by simpa using hy) (by omega) (by omega)
    have e1 : wrap64 (b + 1) = b + 1 := by rw [wrap_id (by omega) (by omega)]
    have e2 : wrap64 (b + 1 + 1) = b + 2 := by rw [wrap_id (by omega) (by omega)]; omega
    have e3 : wrap64 (b + 2 + 1) = b + 3 := by rw [wrap_id (by omega) (by omega)]; omega
    have e4 : wrap64 (b + 3 + 1) = b + 4 := by rw [wrap_id (by omega) (by omega)]; omega
    have e5 : wrap64 (b + 4 + 1) = b + 5 := by rw [wrap_id (by omega) (by omega)]; omega
    simp only [laws_markLeadS.l0, if_pos h1, if_pos h2, Option.bind_some, Int.toNat_natCast, hs, List.length_set, List.set_set, e1, e2, e3, e4, e5, wrap_succ (show i < 4611686018427387904 from Nat.lt_of_lt_of_le (show i < 4194304 + 1 by omega) (by decide))]
    refine hk.eq_ ?_
    rw [set_take _ _ _ (by omega), marksLead, List.append_assoc]
    simp only [List.cons_append, List.nil_append, Prod.mk.injEq, and_true]
    omega
theorem ev_markLeadS (ys : List S25) (a : Int) (ha : 0 ≤ a) (ha2 : a ≤ 1099511627776) (hn : ys.length ≤ 4194304) : Evn (fun k => laws_markLeadS.f k ys a) (a + 5 * ys.length, marksLead a ys.length) := by
  have h := ev_markLeadS_l0 ys.length hn ys.length 0 a ys (by omega) rfl ha (by omega)
  simpa [laws_markLeadS.f] using h

theorem sp_l1In (x y z : Int) : spec_l1In.f x y z = some (decide (y ≤ x ∧ x ≤ z)) := by
  unfold spec_l1In.f
  by_cases h : x ≥ y <;> simp [h] <;> omega

theorem sp_l4Station (x : Int) : spec_l4Station.f x = some (decide (0 ≤ x ∧ x ≤ 7)) := by
  simp only [spec_l4Station.f, sp_l1In, Option.bind_some]

def okLead (x : S25) : Bool := decide (1 ≤ x.f0 ∧ x.f0 ≤ 99) && (decide (0 ≤ x.f1 ∧ x.f1 ≤ 7) && (decide (1 ≤ x.f2 ∧ x.f2 ≤ 9) && (decide (1 ≤ x.f3 ∧ x.f3 ≤ 9) && decide (0 ≤ x.f4 ∧ x.f4 ≤ 3))))
/-! The rules of a list of Lead, as both texts have them. -/
def goodLead (xs : List S25) : Nat → Nat → Bool
  | 0, _ => decide (xs.length ≤ 12)
  | d + 1, i => (okLead (xs.getD i z25) && (decide (i = 0) || decide ((xs.getD (i - 1) z25).f0 < (xs.getD i z25).f0))) && goodLead xs d (i + 1)
def goodLeads (xs : List S25) : Bool := goodLead xs xs.length 0
theorem goodLead_facts (xs : List S25) : ∀ (d i : Nat), i + d = xs.length → goodLead xs d i = true → (∀ j, i ≤ j → j < xs.length → okLead (xs.getD j z25) = true ∧ (j = 0 ∨ (xs.getD (j - 1) z25).f0 < (xs.getD j z25).f0)) ∧ xs.length ≤ 12 := by
  intro d
  induction d with
  | zero =>
    intro i h hg
    exact ⟨fun j h1 h2 => by omega, by simpa [goodLead] using hg⟩
  | succ d ih =>
    intro i h hg
    simp only [goodLead, Bool.and_eq_true, Bool.or_eq_true, decide_eq_true_eq] at hg
    obtain ⟨⟨g1, g2⟩, g3⟩ := hg
    obtain ⟨h1, h2⟩ := ih (i + 1) (by omega) g3
    refine ⟨fun j hj hl => ?_, h2⟩
    rcases Nat.lt_or_ge i j with hc | hc
    · exact h1 j hc hl
    · obtain rfl : j = i := by omega
      exact ⟨g1, g2⟩
theorem goodLeads_len {xs : List S25} (h : goodLeads xs = true) : xs.length ≤ 12 := (goodLead_facts xs xs.length 0 (by omega) h).2
theorem goodLeads_ok {xs : List S25} (h : goodLeads xs = true) (j : Nat) (hj : j < xs.length) : okLead (xs.getD j z25) = true := ((goodLead_facts xs xs.length 0 (by omega) h).1 j (by omega) hj).1
theorem goodLeads_step {xs : List S25} (h : goodLeads xs = true) (j : Nat) (hj : j + 1 < xs.length) : (xs.getD j z25).f0 < (xs.getD (j + 1) z25).f0 := by
  have h1 := ((goodLead_facts xs xs.length 0 (by omega) h).1 (j + 1) (by omega) hj).2
  rcases h1 with h1 | h1
  · omega
  · exact h1

theorem sp_l18One (x : S25) : spec_l18One.f x.f0 x.f1 x.f2 x.f3 x.f4 = some (okLead x) := by
  simp only [spec_l18One.f, sp_l4Station, spec_l18State.f, sp_l1In, Option.bind_some, ite_and, okLead]

theorem sp_l18Good_l0 (xs : List S25) (hx : xs.length ≤ 1048576) : ∀ (d i : Nat), i + d = xs.length → Evn (fun k => spec_l18Good.l0 k xs (i : Int)) (goodLead xs d i) := by
  intro d
  induction d with
  | zero =>
    intro i h
    refine Evn.step ?_
    have h1 : ¬ (i : Int) < (xs.length : Int) := by omega
    simp only [spec_l18Good.l0, if_neg h1, goodLead]
    refine (Evn.done _).eq_ ?_
    simp only [decide_eq_decide]
    omega
  | succ d ih =>
    intro i h
    refine Evn.step ?_
    have h1 : (i : Int) < (xs.length : Int) := by omega
    have h2 : 0 ≤ (i : Int) := by omega
    have hih := ih (i + 1) (by omega)
    simp only [spec_l18Good.l0, if_pos h1, if_pos h2, sp_l18One, Option.bind_some, wrap_succ (show i < 4611686018427387904 by omega), rd_T25, Int.toNat_natCast, goodLead]
    refine Evn.ite (fun c1 => ?_) (fun c1 => (Evn.done _).eq_ (by simp only [Bool.eq_false_iff.mpr c1, Bool.false_and]))
    simp only [c1, Bool.true_and]
    rcases Nat.eq_zero_or_pos i with h0 | h0
    · subst h0
      have h3 : ¬ ((0 : Nat) : Int) > 0 := by omega
      simp only [if_neg h3, decide_true, Bool.true_or, Bool.true_and]
      exact hih
    · obtain ⟨j, rfl⟩ : ∃ j, i = j + 1 := ⟨i - 1, by omega⟩
      have h3 : ((j + 1 : Nat) : Int) > 0 := by omega
      have h4 : 0 ≤ (j : Int) := by omega
      have h5 : (j : Int) < (xs.length : Int) := by omega
      simp only [if_pos h3, wrap_pred (show j < 4611686018427387904 by omega), if_pos h4, if_pos h5, Int.toNat_natCast, Nat.add_sub_cancel]
      refine Evn.ite (fun c3 => (Evn.done _).eq_ ?_) (fun c3 => hih.eq_ ?_)
      · have e1 : decide ((xs.getD j z25).f0 < (xs.getD (j + 1) z25).f0) = false := decide_eq_false (by omega)
        simp only [e1, show decide (j + 1 = 0) = false from by simp, Bool.or_false, Bool.false_and]
      · have e1 : decide ((xs.getD j z25).f0 < (xs.getD (j + 1) z25).f0) = true := decide_eq_true (by omega)
        simp only [e1, Bool.or_true, Bool.true_and]
theorem sp_l18Good (xs : List S25) (hx : xs.length ≤ 1048576) : Evn (fun k => spec_l18Good.f k xs) (goodLeads xs) := sp_l18Good_l0 xs hx xs.length 0 (by omega)

theorem idxP_none {α : Type} (p : α → Bool) (f : (α → Bool) → List α → Int → Int) (h0 : ∀ i, f p [] i = -1) (h1 : ∀ x l i, f p (x :: l) i = if p x = true then i else f p l (i + 1)) : ∀ (l : List α) (i : Int), (∀ x ∈ l, p x = false) → f p l i = -1 := by
  intro l
  induction l with
  | nil => intro i _; exact h0 i
  | cons x l ih =>
    intro i h
    rw [h1, if_neg (by rw [h x (List.mem_cons_self ..)]; decide)]
    exact ih (i + 1) fun y hy => h y (List.mem_cons_of_mem _ hy)
theorem mem_drop_getD {α : Type} (xs : List α) (z : α) (i : Nat) (x : α) (h : x ∈ xs.drop i) : ∃ j, i ≤ j ∧ j < xs.length ∧ xs.getD j z = x := by
  obtain ⟨n, hn, he⟩ := List.mem_iff_getElem.1 h
  rw [List.length_drop] at hn
  refine ⟨i + n, by omega, by omega, ?_⟩
  rw [List.getElem_drop] at he
  rw [List.getD_eq_getElem?_getD, List.getElem?_eq_getElem (by omega)]
  exact he

theorem goodLeads_lt {xs : List S25} (h : goodLeads xs = true) (i : Nat) : ∀ j, i < j → j < xs.length → (xs.getD i z25).f0 < (xs.getD j z25).f0 := by
  intro j
  induction j with
  | zero => intro h1; omega
  | succ j ih =>
    intro h1 h2
    have h3 := goodLeads_step h j h2
    rcases Nat.lt_or_ge i j with hc | hc
    · have := ih hc (by omega); omega
    · obtain rfl : i = j := by omega
      exact h3
def mayB (a b : Int) : Bool := if a = 0 then b == 1 else if a = 1 then b != 1 else if a = 3 then b == 0 else false
theorem sp_l18May (a b : Int) : spec_l18May.f a b = some (mayB a b) := by
  unfold spec_l18May.f mayB
  repeat' split
  all_goals rfl
def idx (id : Int) (l : List S25) (i : Int) : Int := idxP25 (fun x => x.f0 == id) l i
def chg (xs : List S25) (st q : Int) : List S25 × Bool :=
  if 0 ≤ q then (if mayB (xs.getD q.toNat z25).f4 st = true then (xs.set q.toNat ⟨(xs.getD q.toNat z25).f0, (xs.getD q.toNat z25).f1, (xs.getD q.toNat z25).f2, (xs.getD q.toNat z25).f3, st⟩, true) else ([], false)) else ([], false)
def chgs (xs : List S25) (id st : Int) : List S25 × Bool := if goodLeads xs = true ∧ (0 ≤ st ∧ st ≤ 3) then chg xs st (idx id xs 0) else ([], false)
theorem idx_after {xs : List S25} (h : goodLeads xs = true) (id : Int) (i : Nat) (hi : i < xs.length) (he : (xs.getD i z25).f0 = id) (q : Int) : idx id (xs.drop (i + 1)) q = -1 := by
  unfold idx
  refine idxP_none _ (fun p l i => idxP25 p l i) (fun _ => rfl) (fun _ _ _ => rfl) _ q fun x hx => ?_
  obtain ⟨j, h1, h2, rfl⟩ := mem_drop_getD xs z25 (i + 1) x hx
  have := goodLeads_lt h i j (by omega) h2
  exact beq_eq_false_iff_ne.2 (by omega)
theorem sp_ChangeLead_l0 (xs : List S25) (id st : Int) (hg : goodLeads xs = true) : ∀ (d i : Nat), i + d = xs.length → Evn (fun k => spec_ChangeLead.l0 k xs id st (i : Int)) (chg xs st (idx id (xs.drop i) i)) := by
  have hx := goodLeads_len hg
  intro d
  induction d with
  | zero =>
    intro i h
    refine Evn.step ?_
    have h1 : ¬ (i : Int) < (xs.length : Int) := by omega
    simp only [spec_ChangeLead.l0, if_neg h1]
    rw [List.drop_eq_nil_of_le (by omega)]
    exact Evn.done _
  | succ d ih =>
    intro i h
    have h1 : (i : Int) < (xs.length : Int) := by omega
    have h2 : 0 ≤ (i : Int) := by omega
    have hih := ih (i + 1) (by omega)
    have hd := getD_drop xs i z25 (by omega)
    have hcast : ((i + 1 : Nat) : Int) = (i : Int) + 1 := by omega
    refine Evn.step ?_
    have hw := wrap_succ (show i < 4611686018427387904 by omega)
    simp only [spec_ChangeLead.l0, if_pos h1, if_pos h2, hw, rd_T25, Int.toNat_natCast, sp_l18May, Option.bind_some, List.nil_append, List.length_nil]
    refine Evn.ite (fun c => ?_) (fun c => ?_)
    · have e : idx id (xs.drop i) (i : Int) = (i : Int) := by
        rw [hd]; unfold idx; rw [idxP25]; exact if_pos (beq_iff_eq.2 c)
      rw [e]
      unfold chg
      rw [if_pos h2, Int.toNat_natCast]
      refine Evn.ite (fun c1 => ?_) (fun c1 => ?_)
      · rw [if_pos c1]
        refine Evn.ite (fun _ => ?_) (fun c2 => absurd (by clear hw; omega) c2)
        exact Evn.done _
      · rw [if_neg c1]
        refine hih.eq_ ?_
        rw [idx_after hg id i (by omega) c]
        rfl
    · have e : idx id (xs.drop i) (i : Int) = idx id (xs.drop (i + 1)) ((i + 1 : Nat) : Int) := by
        rw [hd]; unfold idx; rw [idxP25, if_neg (fun h => c (beq_iff_eq.1 h)), hcast]
      rw [e]
      exact hih
theorem sp_ChangeLead (xs : List S25) (id st : Int) (hx : xs.length ≤ 1048576) : Evn (fun k => spec_ChangeLead.f k xs id st) (chgs xs id st) := by
  unfold spec_ChangeLead.f
  refine Evn.bind (sp_l18Good xs hx) ?_
  unfold chgs
  refine Evn.ite (fun c => ?_) (fun c => ?_)
  · simp only [spec_l18State.f, sp_l1In, Option.bind_some]
    refine Evn.step ?_
    simp only [spec_ChangeLead.j0]
    refine Evn.ite (fun c1 => ?_) (fun c1 => ?_)
    · rw [if_neg (by intro h; have h2 := decide_eq_true h.2; rw [h2] at c1; cases c1)]
      exact Evn.done _
    · rw [if_pos ⟨c, by simpa using c1⟩]
      exact sp_ChangeLead_l0 xs id st c xs.length 0 (by omega)
  · refine Evn.step ?_
    simp only [spec_ChangeLead.j0, if_true]
    rw [if_neg (fun h => c h.1)]
    exact Evn.done _

theorem im_within (x y z : Int) : impl_within.f x y z = some (decide (y ≤ x ∧ x ≤ z)) := by
  unfold impl_within.f
  by_cases h : x ≥ y <;> simp [h] <;> omega

theorem im_isStation (x : Int) : impl_isStation.f x = some (decide (0 ≤ x ∧ x ≤ 7)) := by
  simp only [impl_isStation.f, im_within, Option.bind_some]

theorem im_IsLead (x : S25) : impl_IsLead.f x.f0 x.f1 x.f2 x.f3 x.f4 = some (okLead x) := by
  simp only [impl_IsLead.f, impl_isId.f, im_isStation, impl_isGrade.f, impl_isState.f, im_within, Option.bind_some, ite_and, okLead]

theorem im_AreLeads_l0 (xs : List S25) (hx : xs.length ≤ 1048576) : ∀ (d i : Nat), i + d = xs.length → Evn (fun k => impl_AreLeads.l0 k xs xs (xs.length : Int) (i : Int)) (goodLead xs d i) := by
  intro d
  induction d with
  | zero =>
    intro i h
    refine Evn.step ?_
    have h1 : ¬ (i : Int) < (xs.length : Int) := by omega
    simp only [impl_AreLeads.l0, if_neg h1, goodLead]
    refine (Evn.done _).eq_ ?_
    simp only [decide_eq_decide]
    omega
  | succ d ih =>
    intro i h
    refine Evn.step ?_
    have h1 : (i : Int) < (xs.length : Int) := by omega
    have h2 : 0 ≤ (i : Int) := by omega
    have hih := ih (i + 1) (by omega)
    simp only [impl_AreLeads.l0, if_pos h1, if_pos h2, im_IsLead, Option.bind_some, wrap_succ (show i < 4611686018427387904 by omega), rd_T25, Int.toNat_natCast, goodLead]
    refine Evn.ite (fun c1 => ?_) (fun c1 => (Evn.done _).eq_ (by simp only [Bool.eq_false_iff.mpr c1, Bool.false_and]))
    simp only [c1, Bool.true_and]
    rcases Nat.eq_zero_or_pos i with h0 | h0
    · subst h0
      have h3 : ¬ ((0 : Nat) : Int) > 0 := by omega
      simp only [if_neg h3, decide_true, Bool.true_or, Bool.true_and]
      exact hih
    · obtain ⟨j, rfl⟩ : ∃ j, i = j + 1 := ⟨i - 1, by omega⟩
      have h3 : ((j + 1 : Nat) : Int) > 0 := by omega
      have h4 : 0 ≤ (j : Int) := by omega
      have h5 : (j : Int) < (xs.length : Int) := by omega
      simp only [if_pos h3, wrap_pred (show j < 4611686018427387904 by omega), if_pos h4, if_pos h5, Int.toNat_natCast, Nat.add_sub_cancel]
      refine Evn.ite (fun c3 => (Evn.done _).eq_ ?_) (fun c3 => hih.eq_ ?_)
      · have e1 : decide ((xs.getD j z25).f0 < (xs.getD (j + 1) z25).f0) = false := decide_eq_false (by omega)
        simp only [e1, show decide (j + 1 = 0) = false from by simp, Bool.or_false, Bool.false_and]
      · have e1 : decide ((xs.getD j z25).f0 < (xs.getD (j + 1) z25).f0) = true := decide_eq_true (by omega)
        simp only [e1, Bool.or_true, Bool.true_and]
theorem im_AreLeads (xs : List S25) (hx : xs.length ≤ 1048576) : Evn (fun k => impl_AreLeads.f k xs) (goodLeads xs) := im_AreLeads_l0 xs hx xs.length 0 (by omega)

theorem im_canBecome (a b : Int) : impl_canBecome.f a b = some (mayB a b) := by
  unfold impl_canBecome.f mayB
  repeat' split
  all_goals rfl
theorem idx_lt (id : Int) : ∀ (l : List S25) (i : Int), idx id l i < i + l.length ∨ idx id l i = -1 := by
  intro l
  induction l with
  | nil => intro i; exact Or.inr rfl
  | cons x l ih =>
    intro i
    have e : idx id (x :: l) i = if (x.f0 == id) = true then i else idx id l (i + 1) := rfl
    rw [e, List.length_cons]
    by_cases c : (x.f0 == id) = true
    · rw [if_pos c]; omega
    · rw [if_neg c]
      have := ih (i + 1)
      omega
theorem im_ChangeLead (xs : List S25) (id st : Int) (hx : xs.length ≤ 1048576) : Evn (fun k => impl_ChangeLead.f k xs id st) (chgs xs id st) := by
  unfold impl_ChangeLead.f
  simp only [impl_xLeadId.f, Option.bind_some]
  have hq := idx_lt id xs 0
  have e : idxP25 (fun x => x.f0 == id) xs 0 = idx id xs 0 := rfl
  rw [e]
  generalize hQ : idx id xs 0 = q at hq ⊢
  refine Evn.bind (im_AreLeads xs hx) ?_
  unfold chgs
  rw [hQ]
  refine Evn.ite (fun c => ?_) (fun c => by rw [if_neg (fun h => c h.1)]; exact Evn.done _)
  refine Evn.ite (fun c1 => ?_) (fun c1 => ?_)
  · have : chg xs st q = ([], false) := by unfold chg; rw [if_neg (by omega)]
    rw [this]
    refine (Evn.done _).eq_ ?_
    split <;> rfl
  · simp only [impl_isState.f, im_within, Option.bind_some, im_canBecome, impl_Lead_56.f]
    have hl := goodLeads_len c
    have h0 : 0 ≤ q := by omega
    have h1 : q < (xs.length : Int) := by omega
    have h3 : xs.length * 40 ≤ 140737488351232 := by omega
    refine Evn.ite (fun c2 => ?_) (fun c2 => ?_)
    · rw [if_pos (show goodLeads xs = true ∧ (0 ≤ st ∧ st ≤ 3) from ⟨c, of_decide_eq_true c2⟩)]
      simp only [if_pos h0, if_pos h1, if_pos h3, Option.bind_some, rd_T25]
      unfold chg
      rw [if_pos h0]
      refine Evn.ite (fun c4 => ?_) (fun c4 => ?_)
      · rw [if_pos c4]; exact Evn.done _
      · rw [if_neg c4]; exact Evn.done _
    · rw [if_neg (show ¬ (goodLeads xs = true ∧ (0 ≤ st ∧ st ≤ 3)) from fun h => c2 (decide_eq_true h.2))]
      exact Evn.done _

theorem ev_heldLeadS_l0 (n : Nat) (hn : n ≤ 4194304) : ∀ (d i : Nat) (b : Int) (ys : List S25), i + d = n → ys.length = n → ys.drop i = marksLead b d → 0 ≤ b → b + 5 * d ≤ 1152921504606846976 → Evn (fun k => laws_heldLeadS.l0 k ys b (i : Int)) (b + 5 * d) := by
  intro d
  induction d with
  | zero =>
    intro i b ys h hy hd h0 hb
    refine Evn.step ?_
    have h1 : ¬ (i : Int) < (ys.length : Int) := by omega
    simp only [laws_heldLeadS.l0, if_neg h1]
    simpa using Evn.done _
  | succ d ih =>
    intro i b ys h hy hd h0 hb
    refine Evn.step ?_
    have h1 : (i : Int) < (ys.length : Int) := by omega
    have h2 : 0 ≤ (i : Int) := by omega
    rw [getD_drop ys i z25 (by omega), marksLead] at hd
    injection hd with hd1 hd2
    have hr : rd_T25 ys (i : Int) = ⟨b, b + 1, b + 2, b + 3, b + 4⟩ := by unfold rd_T25; rw [Int.toNat_natCast]; exact hd1
    have hk := ih (i + 1) (b + 5) ys (by omega) hy hd2 (by omega) (by omega)
    have e1 : wrap64 (b + 1) = b + 1 := by rw [wrap_id (by omega) (by omega)]
    have e2 : wrap64 (b + 1 + 1) = b + 2 := by rw [wrap_id (by omega) (by omega)]; omega
    have e3 : wrap64 (b + 2 + 1) = b + 3 := by rw [wrap_id (by omega) (by omega)]; omega
    have e4 : wrap64 (b + 3 + 1) = b + 4 := by rw [wrap_id (by omega) (by omega)]; omega
    have e5 : wrap64 (b + 4 + 1) = b + 5 := by rw [wrap_id (by omega) (by omega)]; omega
    simp only [laws_heldLeadS.l0, if_pos h1, if_pos h2, hr, e1, e2, e3, e4, e5, if_true, wrap_succ (show i < 4611686018427387904 from Nat.lt_of_lt_of_le (show i < 4194304 + 1 by omega) (by decide))]
    refine hk.eq_ ?_
    clear e1 e2 e3 e4 e5
    omega
theorem ev_heldLeadS (n : Nat) (a : Int) (ha : 0 ≤ a) (ha2 : a ≤ 1099511627776) (hn : n ≤ 4194304) : Evn (fun k => laws_heldLeadS.f k (marksLead a n) a) (a + 5 * n) := by
  have h := ev_heldLeadS_l0 n hn n 0 a (marksLead a n) (by omega) (marksLead_len n a) rfl ha (by omega)
  simpa [laws_heldLeadS.f] using h

theorem chgs_len (xs : List S25) (id st : Int) (hx : xs.length ≤ 4194304) : (chgs xs id st).1.length ≤ 4194304 := by
  unfold chgs chg
  repeat' split
  all_goals first | (rw [List.length_set]; exact hx) | simp
theorem FnExactChangeLead : ∀ (l0 : List (S23)) (a1 : Int) (a2 : Int), l0.length ≤ maxLen → (∀ x ∈ l0, (Lit.int .i64 x.f0).wf = true ∧ (Lit.int .i64 x.f1).wf = true ∧ (Lit.int .i64 x.f2).wf = true ∧ (Lit.int .i64 x.f3).wf = true ∧ (Lit.int .i64 x.f4).wf = true) → (Lit.int .i64 a1).wf = true → (Lit.int .i64 a2).wf = true → ∃ k, laws_FnExactChangeLead.f k l0 a1 a2 = some true := by
  intro l s t hl _ _ _
  apply Evn.get
  unfold laws_FnExactChangeLead.f
  simp only [ev_szLeadS, Option.bind_some]
  refine Evn.ite (fun _ => Evn.done _) (fun h => ?_)
  have hx : l.length ≤ 1048576 := by unfold maxLen at hl; unfold wrap64 at h; split at h <;> omega
  have hx' : (l.map convLead).length ≤ 4194304 := by rw [List.length_map]; omega
  have hx1 : (l.map convLead).length ≤ 1048576 := by rw [List.length_map]; omega
  clear h hl
  have hs := sp_ChangeLead (l.map convLead) s t hx1
  have hi := im_ChangeLead (l.map convLead) s t hx1
  have hr := chgs_len (l.map convLead) s t hx'
  generalize chgs (l.map convLead) s t = r at hs hi hr
  generalize hL : l.map convLead = L at hs hi hx'
  have hto : Evn (fun k => laws_toLeadS.f k l) L := hL ▸ ev_toLeadS l hx
  repeat (first
    | exact Evn.done _
    | simp only [if_true, bne_self_eq_false, Bool.false_eq_true, if_false]
    | refine Evn.bind hto ?_
    | refine Evn.bind hs ?_
    | refine Evn.bind hi ?_
    | refine Evn.bind (ev_toLeadS _ (by assumption)) ?_
    | refine Evn.bind (ev_eqLeadS _ (by assumption)) ?_
    | refine Evn.bind (ev_markLeadS _ _ (by omega) (by omega) (by first | assumption | omega)) ?_
    | refine Evn.bind (ev_heldLeadS _ _ (by omega) (by omega) (by first | assumption | omega)) ?_
    | refine Evn.ite (fun h_ => absurd h_ (by first | omega | decide)) (fun _ => ?_)
    | refine Evn.ite (fun _ => ?_) (fun h_ => absurd (by first | rfl | omega) h_)
    | dsimp only
    | (refine Evn.step ?_; simp only [laws_FnExactChangeLead.j0])
    | (refine Evn.step ?_; simp only [laws_FnExactChangeLead.j1])
    | (refine Evn.step ?_; simp only [laws_FnExactChangeLead.j2]))

end Go.Proofs.Ytldgjibimolcdaa.Pure
