/- The plain statement of FnExactTripFor: its plain function returns true at every input. No condition beyond the arguments' own bounds. -/
import Derived.Test.YtldgjibimolcdaaQFnExactTripForx11
import Derived.Test.YtldgjibimolcdaaVtAid
namespace Go.Proofs.Ytldgjibimolcdaa.Pure
open Go.RowKit Go.Proofs.YtldgjibimolcdaaW.PrintWords Go.Proofs.YtldgjibimolcdaaW.PrintLast Go.Proofs.Ytldgjibimolcdaa.Aid Go.Proofs.Ytldgjibimolcdaa.QFnExactTripFor
set_option linter.unusedVariables false
set_option linter.unusedSimpArgs false

theorem ev_szLeadS (l : List S23) (q : Int) : laws_szLeadS.f l q = some (if wrap64 (q - (l.length : Int)) < 0 then -1 else wrap64 (q - (l.length : Int))) := by
  unfold laws_szLeadS.f
  split <;> rfl

-- laws_toLead: as it stands

def convLead (x : S23) : S25 := ⟨x.f0, x.f1, x.f2, x.f3, x.f4⟩
theorem ev_toLeadS_l0 (xs : List S23) (hx : xs.length ≤ 1048576) : ∀ (d i : Nat) (ys : List S25), i + d = xs.length → ys.length = xs.length → Evn (fun k => laws_toLeadS.l0 k xs ys (i : Int)) (ys.take i ++ (xs.drop i).map convLead) := by
  intro d
  induction d with
  | zero =>
    intro i ys h hy
    refine Evn.step ?_
    have h1 : ¬ (i : Int) < (xs.length : Int) := by omega
    simp only [laws_toLeadS.l0, if_neg h1]
    have e : ys.take i ++ (xs.drop i).map convLead = ys := by rw [List.take_of_length_le (by omega), List.drop_eq_nil_of_le (by omega)]; simp
    rw [e]
    exact Evn.done _
  | succ d ih =>
    intro i ys h hy
    refine Evn.step ?_
    have h1 : (i : Int) < (xs.length : Int) := by omega
    have h2 : 0 ≤ (i : Int) := by omega
    have h3 : (i : Int) < (ys.length : Int) := by omega
    simp only [laws_toLeadS.l0, laws_toLead.f, if_pos h1, if_pos h2, if_pos h3, Option.bind_some, Int.toNat_natCast, wrap_succ (show i < 4611686018427387904 by omega)]
    refine (ih (i + 1) _ (by omega) (by simpa using hy)).eq_ ?_
    rw [set_take _ _ _ (by omega), getD_drop xs i z23 (by omega)]
    simp [convLead, rd_T23]
theorem ev_toLeadS (xs : List S23) (hx : xs.length ≤ 1048576) : Evn (fun k => laws_toLeadS.f k xs) (xs.map convLead) := by
  unfold laws_toLeadS.f
  refine Evn.ite (fun _ => Evn.ite (fun _ => ?_) (fun h => (h (by omega)).elim)) (fun h => (h (by omega)).elim)
  have h := ev_toLeadS_l0 xs hx xs.length 0 (List.replicate (xs.length : Int).toNat z25) (by omega) (by simp)
  simpa using h

-- laws_eqLead: as it stands

theorem ev_eqLeadS_l0 (xs : List S25) (hx : xs.length ≤ 4194304) : ∀ (d i : Nat), i + d = xs.length → Evn (fun k => laws_eqLeadS.l0 k xs xs (i : Int)) true := by
  intro d
  induction d with
  | zero =>
    intro i h
    refine Evn.step ?_
    have h1 : ¬ (i : Int) < (xs.length : Int) := by omega
    simp only [laws_eqLeadS.l0, if_neg h1]
    exact Evn.done _
  | succ d ih =>
    intro i h
    refine Evn.step ?_
    have h1 : (i : Int) < (xs.length : Int) := by omega
    have h2 : 0 ≤ (i : Int) := by omega
    simp only [laws_eqLeadS.l0, laws_eqLead.f, if_pos h1, if_pos h2, Option.bind_some, if_true, wrap_succ (show i < 4611686018427387904 by omega)]
    exact ih (i + 1) (by omega)
theorem ev_eqLeadS (xs : List S25) (hx : xs.length ≤ 4194304) : Evn (fun k => laws_eqLeadS.f k xs xs) true := by
  simp only [laws_eqLeadS.f, if_true]
  exact ev_eqLeadS_l0 xs hx xs.length 0 (by omega)

theorem ev_eqIntS_l0 (xs : List Int) (hx : xs.length ≤ 4194304) : ∀ (d i : Nat), i + d = xs.length → Evn (fun k => laws_eqIntS.l0 k xs xs (i : Int)) true := by
  intro d
  induction d with
  | zero =>
    intro i h
    refine Evn.step ?_
    have h1 : ¬ (i : Int) < (xs.length : Int) := by omega
    simp only [laws_eqIntS.l0, if_neg h1]
    exact Evn.done _
  | succ d ih =>
    intro i h
    refine Evn.step ?_
    have h1 : (i : Int) < (xs.length : Int) := by omega
    have h2 : 0 ≤ (i : Int) := by omega
    simp only [laws_eqIntS.l0, if_pos h1, if_pos h2, if_true, wrap_succ (show i < 4611686018427387904 by omega)]
    exact ih (i + 1) (by omega)
theorem ev_eqIntS (xs : List Int) (hx : xs.length ≤ 4194304) : Evn (fun k => laws_eqIntS.f k xs xs) true := by
  simp only [laws_eqIntS.f, if_true]
  exact ev_eqIntS_l0 xs hx xs.length 0 (by omega)

/-! The marks that the law lays: b, b + 1, .. -/
def marksLead (b : Int) : Nat → List S25
  | 0 => []
  | d + 1 => (⟨b, b + 1, b + 2, b + 3, b + 4⟩ : S25) :: marksLead (b + 5) d
theorem marksLead_len (d : Nat) : ∀ b, (marksLead b d).length = d := by
  induction d with
  | zero => intro b; rfl
  | succ d ih => intro b; simp [marksLead, ih]
theorem ev_markLeadS_l0 (n : Nat) (hn : n ≤ 4194304) : ∀ (d i : Nat) (b : Int) (ys : List S25), i + d = n → ys.length = n → 0 ≤ b → b + 5 * d ≤ 1152921504606846976 → Evn (fun k => laws_markLeadS.l0 k ys b (i : Int)) (b + 5 * d, ys.take i ++ marksLead b d) := by
  intro d
  induction d with
  | zero =>
    intro i b ys h hy h0 hb
    refine Evn.step ?_
    have h1 : ¬ (i : Int) < (ys.length : Int) := by omega
    simp only [laws_markLeadS.l0, if_neg h1, marksLead]
    rw [List.take_of_length_le (by omega)]
    simpa using Evn.done _
  | succ d ih =>
    intro i b ys h hy h0 hb
    refine Evn.step ?_
    have h1 : (i : Int) < (ys.length : Int) := by omega
    have h2 : 0 ≤ (i : Int) := by omega
    have hs : ∀ (zs : List S25) (v : S25), zs.length = ys.length → rd_T25 (zs.set i v) (i : Int) = v := by
      intro zs v hz
      unfold rd_T25
      rw [Int.toNat_natCast, List.getD_eq_getElem?_getD, List.getElem?_set_self (by omega)]
      rfl
    have hk := ih (i + 1) (b + 5) (ys.set i ⟨b, b + 1, b + 2, b + 3, b + 4⟩) (by omega) (by simpa using hy) (by omega) (by omega)
    have e1 : wrap64 (b + 1) = b + 1 := by rw [wrap_id (by omega) (by omega)]
    have e2 : wrap64 (b + 1 + 1) = b + 2 := by rw [wrap_id (by omega) (by omega)]; omega
    have e3 : wrap64 (b + 2 + 1) = b + 3 := by rw [wrap_id (by omega) (by omega)]; omega
    have e4 : wrap64 (b + 3 + 1) = b + 4 := by rw [wrap_id (by omega) (by omega)]; omega
    have e5 : wrap64 (b + 4 + 1) = b + 5 := by rw [wrap_id (by omega) (by omega)]; omega
    simp only [laws_markLeadS.l0, if_pos h1, if_pos h2, Option.bind_some, Int.toNat_natCast, hs, List.length_set, List.set_set, e1, e2, e3, e4, e5, wrap_succ (show i < 4611686018427387904 from Nat.lt_of_lt_of_le (show i < 4194304 + 1 by omega) (by decide))]
    refine hk.eq_ ?_
    rw [set_take _ _ _ (by omega), marksLead, List.append_assoc]
    simp only [List.cons_append, List.nil_append, Prod.mk.injEq, and_true]
    omega
theorem ev_markLeadS (ys : List S25) (a : Int) (ha : 0 ≤ a) (ha2 : a ≤ 1099511627776) (hn : ys.length ≤ 4194304) : Evn (fun k => laws_markLeadS.f k ys a) (a + 5 * ys.length, marksLead a ys.length) := by
  have h := ev_markLeadS_l0 ys.length hn ys.length 0 a ys (by omega) rfl ha (by omega)
  simpa [laws_markLeadS.f] using h

/-! The marks: a, a + 1, .. -/
def marksI (a : Int) : Nat → List Int
  | 0 => []
  | n + 1 => marksI a n ++ [a + n]
theorem marksI_len (a : Int) (n : Nat) : (marksI a n).length = n := by
  induction n with
  | zero => rfl
  | succ n ih => simp [marksI, ih]
theorem marksI_get (a : Int) (n : Nat) : ∀ i, i < n → (marksI a n).getD i 0 = a + i := by
  induction n with
  | zero => intro i h; omega
  | succ n ih =>
    intro i h
    rw [marksI, List.getD_eq_getElem?_getD]
    rcases Nat.lt_or_ge i n with hi | hi
    · rw [List.getElem?_append_left (by rw [marksI_len]; exact hi), ← List.getD_eq_getElem?_getD]
      exact ih i hi
    · obtain rfl : i = n := by omega
      rw [List.getElem?_append_right (by rw [marksI_len]; omega), marksI_len]
      simp
theorem ev_markIntS_l0 (a : Int) (ha : 0 ≤ a) (ha2 : a ≤ 1099511627776) (n : Nat) (hn : n ≤ 4194304) : ∀ (d i : Nat) (ys : List Int), i + d = n → ys.length = n → ys.take i = marksI a i → Evn (fun k => laws_markIntS.l0 k ys (a + i) (i : Int)) (a + n, marksI a n) := by
  intro d
  induction d with
  | zero =>
    intro i ys h hy ht
    refine Evn.step ?_
    have h1 : ¬ (i : Int) < (ys.length : Int) := by omega
    simp only [laws_markIntS.l0, if_neg h1]
    obtain rfl : i = n := by omega
    rw [List.take_of_length_le (by omega)] at ht
    rw [ht]
    exact Evn.done _
  | succ d ih =>
    intro i ys h hy ht
    refine Evn.step ?_
    have h1 : (i : Int) < (ys.length : Int) := by omega
    have h2 : 0 ≤ (i : Int) := by omega
    have e : wrap64 (a + i + 1) = a + ((i + 1 : Nat) : Int) := by rw [wrap_id (by omega) (by omega)]; omega
    simp only [laws_markIntS.l0, if_pos h1, if_pos h2, Int.toNat_natCast, e, wrap_succ (show i < 4611686018427387904 by omega)]
    exact ih (i + 1) _ (by omega) (by simpa using hy) (by rw [set_take _ _ _ (by omega), ht, marksI])
theorem ev_markIntS (ys : List Int) (a : Int) (ha : 0 ≤ a) (ha2 : a ≤ 1099511627776) (hn : ys.length ≤ 4194304) : Evn (fun k => laws_markIntS.f k ys a) (a + ys.length, marksI a ys.length) := by
  have h := ev_markIntS_l0 a ha ha2 ys.length hn ys.length 0 ys (by omega) rfl rfl
  simpa [laws_markIntS.f] using h

theorem ev_heldIntS_l0 (a : Int) (ha : 0 ≤ a) (ha2 : a ≤ 1099511627776) (n : Nat) (hn : n ≤ 4194304) : ∀ (d i : Nat), i + d = n → Evn (fun k => laws_heldIntS.l0 k (marksI a n) (a + i) (i : Int)) (a + n) := by
  intro d
  induction d with
  | zero =>
    intro i h
    refine Evn.step ?_
    have h1 : ¬ (i : Int) < ((marksI a n).length : Int) := by rw [marksI_len]; omega
    simp only [laws_heldIntS.l0, if_neg h1]
    obtain rfl : i = n := by omega
    exact Evn.done _
  | succ d ih =>
    intro i h
    refine Evn.step ?_
    have h1 : (i : Int) < ((marksI a n).length : Int) := by rw [marksI_len]; omega
    have h2 : 0 ≤ (i : Int) := by omega
    have h3 : rd (marksI a n) (i : Int) = a + i := by unfold rd; rw [Int.toNat_natCast]; exact marksI_get a n i (by omega)
    have e : wrap64 (a + i + 1) = a + ((i + 1 : Nat) : Int) := by rw [wrap_id (by omega) (by omega)]; omega
    simp only [laws_heldIntS.l0, if_pos h1, if_pos h2, if_pos h3, e, wrap_succ (show i < 4611686018427387904 by omega)]
    exact ih (i + 1) (by omega)
theorem ev_heldIntS (n : Nat) (a : Int) (ha : 0 ≤ a) (ha2 : a ≤ 1099511627776) (hn : n ≤ 4194304) : Evn (fun k => laws_heldIntS.f k (marksI a n) a) (a + n) := by
  have h := ev_heldIntS_l0 a ha ha2 n hn n 0 (by omega)
  simpa [laws_heldIntS.f] using h

theorem sp_l1In (x y z : Int) : spec_l1In.f x y z = some (decide (y ≤ x ∧ x ≤ z)) := by
  unfold spec_l1In.f
  by_cases h : x ≥ y <;> simp [h] <;> omega

theorem sp_l4Station (x : Int) : spec_l4Station.f x = some (decide (0 ≤ x ∧ x ≤ 7)) := by
  simp only [spec_l4Station.f, sp_l1In, Option.bind_some]

def okLead (x : S25) : Bool := decide (1 ≤ x.f0 ∧ x.f0 ≤ 99) && (decide (0 ≤ x.f1 ∧ x.f1 ≤ 7) && (decide (1 ≤ x.f2 ∧ x.f2 ≤ 9) && (decide (1 ≤ x.f3 ∧ x.f3 ≤ 9) && decide (0 ≤ x.f4 ∧ x.f4 ≤ 3))))
/-! The rules of a list of Lead, as both texts have them. -/
def goodLead (xs : List S25) : Nat → Nat → Bool
  | 0, _ => decide (xs.length ≤ 12)
  | d + 1, i => (okLead (xs.getD i z25) && (decide (i = 0) || decide ((xs.getD (i - 1) z25).f0 < (xs.getD i z25).f0))) && goodLead xs d (i + 1)
def goodLeads (xs : List S25) : Bool := goodLead xs xs.length 0
theorem goodLead_facts (xs : List S25) : ∀ (d i : Nat), i + d = xs.length → goodLead xs d i = true → (∀ j, i ≤ j → j < xs.length → okLead (xs.getD j z25) = true ∧ (j = 0 ∨ (xs.getD (j - 1) z25).f0 < (xs.getD j z25).f0)) ∧ xs.length ≤ 12 := by
  intro d
  induction d with
  | zero =>
    intro i h hg
    exact ⟨fun j h1 h2 => by omega, by simpa [goodLead] using hg⟩
  | succ d ih =>
    intro i h hg
    simp only [goodLead, Bool.and_eq_true, Bool.or_eq_true, decide_eq_true_eq] at hg
    obtain ⟨⟨g1, g2⟩, g3⟩ := hg
    obtain ⟨h1, h2⟩ := ih (i + 1) (by omega) g3
    refine ⟨fun j hj hl => ?_, h2⟩
    rcases Nat.lt_or_ge i j with hc | hc
    · exact h1 j hc hl
    · obtain rfl : j = i := by omega
      exact ⟨g1, g2⟩
theorem goodLeads_len {xs : List S25} (h : goodLeads xs = true) : xs.length ≤ 12 := (goodLead_facts xs xs.length 0 (by omega) h).2
theorem goodLeads_ok {xs : List S25} (h : goodLeads xs = true) (j : Nat) (hj : j < xs.length) : okLead (xs.getD j z25) = true := ((goodLead_facts xs xs.length 0 (by omega) h).1 j (by omega) hj).1
theorem goodLeads_step {xs : List S25} (h : goodLeads xs = true) (j : Nat) (hj : j + 1 < xs.length) : (xs.getD j z25).f0 < (xs.getD (j + 1) z25).f0 := by
  have h1 := ((goodLead_facts xs xs.length 0 (by omega) h).1 (j + 1) (by omega) hj).2
  rcases h1 with h1 | h1
  · omega
  · exact h1

theorem sp_l18One (x : S25) : spec_l18One.f x.f0 x.f1 x.f2 x.f3 x.f4 = some (okLead x) := by
  simp only [spec_l18One.f, sp_l4Station, spec_l18State.f, sp_l1In, Option.bind_some, ite_and, okLead]

theorem sp_l18Good_l0 (xs : List S25) (hx : xs.length ≤ 1048576) : ∀ (d i : Nat), i + d = xs.length → Evn (fun k => spec_l18Good.l0 k xs (i : Int)) (goodLead xs d i) := by
  intro d
  induction d with
  | zero =>
    intro i h
    refine Evn.step ?_
    have h1 : ¬ (i : Int) < (xs.length : Int) := by omega
    simp only [spec_l18Good.l0, if_neg h1, goodLead]
    refine (Evn.done _).eq_ ?_
    simp only [decide_eq_decide]
    omega
  | succ d ih =>
    intro i h
    refine Evn.step ?_
    have h1 : (i : Int) < (xs.length : Int) := by omega
    have h2 : 0 ≤ (i : Int) := by omega
    have hih := ih (i + 1) (by omega)
    simp only [spec_l18Good.l0, if_pos h1, if_pos h2, sp_l18One, Option.bind_some, wrap_succ (show i < 4611686018427387904 by omega), rd_T25, Int.toNat_natCast, goodLead]
    refine Evn.ite (fun c1 => ?_) (fun c1 => (Evn.done _).eq_ (by simp only [Bool.eq_false_iff.mpr c1, Bool.false_and]))
    simp only [c1, Bool.true_and]
    rcases Nat.eq_zero_or_pos i with h0 | h0
    · subst h0
      have h3 : ¬ ((0 : Nat) : Int) > 0 := by omega
      simp only [if_neg h3, decide_true, Bool.true_or, Bool.true_and]
      exact hih
    · obtain ⟨j, rfl⟩ : ∃ j, i = j + 1 := ⟨i - 1, by omega⟩
      have h3 : ((j + 1 : Nat) : Int) > 0 := by omega
      have h4 : 0 ≤ (j : Int) := by omega
      have h5 : (j : Int) < (xs.length : Int) := by omega
      simp only [if_pos h3, wrap_pred (show j < 4611686018427387904 by omega), if_pos h4, if_pos h5, Int.toNat_natCast, Nat.add_sub_cancel]
      refine Evn.ite (fun c3 => (Evn.done _).eq_ ?_) (fun c3 => hih.eq_ ?_)
      · have e1 : decide ((xs.getD j z25).f0 < (xs.getD (j + 1) z25).f0) = false := decide_eq_false (by omega)
        simp only [e1, show decide (j + 1 = 0) = false from by simp, Bool.or_false, Bool.false_and]
      · have e1 : decide ((xs.getD j z25).f0 < (xs.getD (j + 1) z25).f0) = true := decide_eq_true (by omega)
        simp only [e1, Bool.or_true, Bool.true_and]
theorem sp_l18Good (xs : List S25) (hx : xs.length ≤ 1048576) : Evn (fun k => spec_l18Good.f k xs) (goodLeads xs) := sp_l18Good_l0 xs hx xs.length 0 (by omega)

/-! Leads in the order of their worth, as both texts put them. -/
def wth (x : S25) : Int := wrap64 (wrap64 (3 * x.f2) + x.f3)
/-- Where x goes among the first p of ys, looked at from their end. -/
def posR {α : Type} (w : α → Int) (z x : α) (ys : List α) : Nat → Nat
  | 0 => 0
  | p + 1 => if w (ys.getD p z) < w x then posR w z x ys p else p + 1
def insP {α : Type} (x : α) (ys : List α) (p : Nat) : List α := ys.take p ++ x :: ys.drop p
def insR {α : Type} (w : α → Int) (z x : α) (ys : List α) : List α := insP x ys (posR w z x ys ys.length)
def sortR {α : Type} (w : α → Int) (z : α) (l : List α) : List α := l.foldl (fun ys x => insR w z x ys) []
def openL (l : List S25) : List S25 := l.filter (fun x => decide (x.f4 = 0))
def rankL (l : List S25) : List S25 := sortR wth z25 (openL l)
theorem posR_le {α : Type} (w : α → Int) (z x : α) (ys : List α) : ∀ p, posR w z x ys p ≤ p
  | 0 => Nat.le_refl 0
  | p + 1 => by
    unfold posR
    split
    · exact Nat.le_succ_of_le (posR_le w z x ys p)
    · exact Nat.le_refl _
theorem insP_len {α : Type} (x : α) (ys : List α) (p : Nat) : (insP x ys p).length = ys.length + 1 := by
  unfold insP
  rw [List.length_append, List.length_cons, List.length_take, List.length_drop]
  omega
theorem insR_len {α : Type} (w : α → Int) (z x : α) (ys : List α) : (insR w z x ys).length = ys.length + 1 := insP_len _ _ _
theorem sortR_snoc {α : Type} (w : α → Int) (z x : α) (l : List α) : sortR w z (l ++ [x]) = insR w z x (sortR w z l) := by
  unfold sortR
  rw [List.foldl_append]
  rfl
theorem sortR_len {α : Type} (w : α → Int) (z : α) (l : List α) : (sortR w z l).length = l.length := by
  have key : ∀ (l ys : List α), (l.foldl (fun ys x => insR w z x ys) ys).length = ys.length + l.length := by
    intro l
    induction l with
    | nil => intro ys; rfl
    | cons x l ih => intro ys; rw [List.foldl_cons, ih, insR_len, List.length_cons]; omega
  unfold sortR
  rw [key]
  simp
theorem rankL_len (l : List S25) : (rankL l).length ≤ l.length := by
  unfold rankL openL
  rw [sortR_len]
  exact List.length_filter_le _ _
theorem getD_map_ {α β : Type} (g : α → β) (z : α) (z' : β) (ys : List α) (p : Nat) (h : p < ys.length) : (ys.map g).getD p z' = g (ys.getD p z) := by
  rw [List.getD_eq_getElem?_getD, List.getElem?_map, List.getElem?_eq_getElem h, List.getD_eq_getElem?_getD, List.getElem?_eq_getElem h]
  rfl
theorem posR_map {α β : Type} (w : β → Int) (g : α → β) (z : α) (z' : β) (x : α) (ys : List α) : ∀ p, p ≤ ys.length → posR (fun a => w (g a)) z x ys p = posR w z' (g x) (ys.map g) p
  | 0, _ => rfl
  | p + 1, h => by
    unfold posR
    rw [getD_map_ g z z' ys p (by omega), posR_map w g z z' x ys p (by omega)]
theorem insR_map {α β : Type} (w : β → Int) (g : α → β) (z : α) (z' : β) (x : α) (ys : List α) : (insR (fun a => w (g a)) z x ys).map g = insR w z' (g x) (ys.map g) := by
  unfold insR insP
  rw [posR_map w g z z' x ys _ (Nat.le_refl _), List.length_map, List.map_append, List.map_cons, List.map_take, List.map_drop]
theorem insP_mem {α : Type} (x y : α) (ys : List α) (p : Nat) (h : y ∈ insP x ys p) : y = x ∨ y ∈ ys := by
  unfold insP at h
  rcases List.mem_append.1 h with h | h
  · exact Or.inr (List.mem_of_mem_take h)
  · rcases List.mem_cons.1 h with h | h
    · exact Or.inl h
    · exact Or.inr (List.mem_of_mem_drop h)
/-- Two neighbors of a list, exchanged. -/
theorem swap_at {α : Type} (A B : List α) (s x : α) : ((A ++ s :: x :: B).set (A.length + 1) s).set A.length x = A ++ x :: s :: B := by
  induction A with
  | nil => rfl
  | cons a A _ => simp
theorem swap_set {α : Type} (A B : List α) (s x : α) : ((A ++ s :: x :: B).set (A.length + 1) s).set A.length x = A ++ x :: s :: B := swap_at A B s x
theorem getD_mid {α : Type} (A B : List α) (x z : α) : (A ++ x :: B).getD A.length z = x := by
  rw [List.getD_eq_getElem?_getD, List.getElem?_append_right (Nat.le_refl _), Nat.sub_self]
  rfl
theorem getD_left {α : Type} (A B : List α) (z : α) (p : Nat) (h : p < A.length) : (A ++ B).getD p z = A.getD p z := by
  rw [List.getD_eq_getElem?_getD, List.getElem?_append_left h, List.getD_eq_getElem?_getD]
def rkM (l : List S25) : List Int × Bool := if goodLeads l = true then ((rankL l).map (fun x => x.f0), true) else ([], false)
theorem rkM_len (l : List S25) : (rkM l).1.length ≤ l.length := by
  unfold rkM
  split
  · rw [List.length_map]; exact rankL_len l
  · exact Nat.zero_le _

theorem sp_worth (x : S25) : spec_l18Worth.f x.f0 x.f1 x.f2 x.f3 x.f4 = some (wth x) := rfl
theorem sp_xIns (l : List Int) (i : Int) (p : Nat) (hp : p ≤ l.length) (hl : l.length ≤ 1000000) : spec_xIns.f l i (p : Int) = some (insP i l p) := by
  have h0 : 0 ≤ (p : Int) := by omega
  have h1 : (p : Int) ≤ (l.length : Int) := by omega
  unfold spec_xIns.f
  simp only [Option.bind_some, if_pos h0, if_pos h1, Int.toNat_natCast]
  rw [if_pos (by rw [List.length_take, List.length_nil]; omega), if_pos (by rw [List.length_append, List.length_take, List.length_nil, List.length_singleton]; omega), if_pos (by rw [List.length_append, List.length_append, List.length_take, List.length_nil, List.length_singleton, List.length_drop]; omega)]
  unfold insP
  simp
def gtL (l : List S25) (j : Int) : S25 := l.getD j.toNat z25
theorem sp_l18Rank_l1 (l : List S25) (i : Nat) (hi : i < l.length) (hl : l.length ≤ 1000000) (out : List Int) (ho : out.length ≤ i) (hb : ∀ j ∈ out, 0 ≤ j ∧ j < (l.length : Int)) (r : List Int) : ∀ p, p ≤ out.length → Evn (fun k => spec_l18Rank.l0 k l (insP (i : Int) out (posR (fun j => wth (gtL l j)) 0 (i : Int) out p)) ((i + 1 : Nat) : Int)) r → Evn (fun k => spec_l18Rank.l1 k l out (i : Int) (p : Int)) r
  | 0, _, h => by
    refine Evn.step ?_
    have h1 : ¬ ((0 : Nat) : Int) > 0 := by omega
    simp only [spec_l18Rank.l1, if_neg h1, sp_xIns out (i : Int) 0 (by omega) (by omega), Option.bind_some, wrap_succ (show i < 4611686018427387904 by omega)]
    exact h
  | p + 1, hp, h => by
    refine Evn.step ?_
    have h1 : ((p + 1 : Nat) : Int) > 0 := by omega
    have h2 : 0 ≤ (p : Int) := by omega
    have h3 : (p : Int) < (out.length : Int) := by omega
    have h4 : 0 ≤ (i : Int) := by omega
    have h5 : (i : Int) < (l.length : Int) := by omega
    have hm : out.getD p 0 ∈ out := by
      rw [List.getD_eq_getElem?_getD, List.getElem?_eq_getElem (by omega)]
      exact List.getElem_mem _
    obtain ⟨h6, h7⟩ := hb _ hm
    have hw := wrap_pred (show p < 4611686018427387904 by omega)
    have ih := sp_l18Rank_l1 l i hi hl out ho hb r p (by omega)
    simp only [posR] at h
    simp only [spec_l18Rank.l1, if_pos h1, hw, if_pos h2, if_pos h3, rd, Int.toNat_natCast, if_pos h6, if_pos h7, rd_T25, sp_worth, Option.bind_some, if_pos h4, if_pos h5]
    refine Evn.ite (fun c => ?_) (fun c => ?_)
    · rw [if_pos (show wth (gtL l (out.getD p 0)) < wth (gtL l (i : Int)) from by unfold gtL; rw [Int.toNat_natCast]; exact c)] at h
      exact ih h
    · rw [if_neg (show ¬ wth (gtL l (out.getD p 0)) < wth (gtL l (i : Int)) from by unfold gtL; rw [Int.toNat_natCast]; exact c)] at h
      simp only [sp_xIns out (i : Int) (p + 1) hp (by omega), Option.bind_some, wrap_succ (show i < 4611686018427387904 by omega)]
      exact h
def rankI (l : List S25) : Nat → Nat → List Int → List Int
  | 0, _, out => out
  | d + 1, i, out => rankI l d (i + 1) (if (l.getD i z25).f4 = 0 then insR (fun j => wth (gtL l j)) 0 (i : Int) out else out)
theorem sp_l18Rank_l0 (l : List S25) (hl : l.length ≤ 1000000) : ∀ (d i : Nat) (out : List Int), i + d = l.length → out.length ≤ i → (∀ j ∈ out, 0 ≤ j ∧ j < (l.length : Int)) → Evn (fun k => spec_l18Rank.l0 k l out (i : Int)) (rankI l d i out) := by
  intro d
  induction d with
  | zero =>
    intro i out h _ _
    refine Evn.step ?_
    have h1 : ¬ (i : Int) < (l.length : Int) := by omega
    simp only [spec_l18Rank.l0, if_neg h1, rankI]
    exact Evn.done _
  | succ d ih =>
    intro i out h ho hb
    refine Evn.step ?_
    have h1 : (i : Int) < (l.length : Int) := by omega
    have h2 : 0 ≤ (i : Int) := by omega
    simp only [spec_l18Rank.l0, if_pos h1, if_pos h2, rd_T25, Int.toNat_natCast, rankI]
    refine Evn.ite (fun c => ?_) (fun c => ?_)
    · rw [if_pos c]
      refine sp_l18Rank_l1 l i (by omega) hl out ho hb _ out.length (Nat.le_refl _) ?_
      refine ih (i + 1) _ (by omega) (by rw [insP_len]; omega) (fun j hj => ?_)
      rcases insP_mem _ _ _ _ hj with rfl | hj
      · omega
      · exact hb j hj
    · rw [if_neg c]
      simp only [wrap_succ (show i < 4611686018427387904 by omega)]
      exact ih (i + 1) out (by omega) (by omega) hb
theorem rankI_in (l : List S25) : ∀ (d i : Nat) (out : List Int), i + d = l.length → (∀ j ∈ out, 0 ≤ j ∧ j < (l.length : Int)) → ∀ j ∈ rankI l d i out, 0 ≤ j ∧ j < (l.length : Int) := by
  intro d
  induction d with
  | zero => intro i out _ hb; exact hb
  | succ d ih =>
    intro i out h hb
    refine ih (i + 1) _ (by omega) (fun j hj => ?_)
    split at hj
    · rcases insP_mem _ _ _ _ hj with rfl | hj
      · omega
      · exact hb j hj
    · exact hb j hj
theorem rankI_map (l : List S25) : ∀ (d i : Nat) (out : List Int), i + d = l.length → (rankI l d i out).map (gtL l) = (openL (l.drop i)).foldl (fun ys x => insR wth z25 x ys) (out.map (gtL l)) := by
  intro d
  induction d with
  | zero =>
    intro i out h
    rw [List.drop_eq_nil_of_le (by omega)]
    rfl
  | succ d ih =>
    intro i out h
    have hx : gtL l (i : Int) = l.getD i z25 := by unfold gtL; rw [Int.toNat_natCast]
    rw [rankI, ih (i + 1) _ (by omega), getD_drop l i z25 (by omega)]
    unfold openL
    rw [List.filter_cons]
    by_cases c : (l.getD i z25).f4 = 0
    · rw [if_pos c, if_pos (by simpa using c), List.foldl_cons, insR_map wth (gtL l) 0 z25, hx]
    · rw [if_neg c, if_neg (by simpa using c)]
def rankX (l : List S25) : List Int := rankI l l.length 0 []
theorem rankX_map (l : List S25) : (rankX l).map (gtL l) = rankL l := by
  have h := rankI_map l l.length 0 [] (by omega)
  rw [List.drop_zero] at h
  exact h
theorem rankX_in (l : List S25) : ∀ j ∈ rankX l, 0 ≤ j ∧ j < (l.length : Int) := rankI_in l l.length 0 [] (by omega) (fun j hj => by cases hj)
theorem rankX_len (l : List S25) : (rankX l).length = (rankL l).length := by rw [← rankX_map, List.length_map]
theorem sp_l18Rank (l : List S25) (hl : l.length ≤ 1000000) : Evn (fun k => spec_l18Rank.f k l) (rankX l) := by
  unfold spec_l18Rank.f
  exact sp_l18Rank_l0 l hl l.length 0 [] (by omega) (by simp) (fun j hj => by cases hj)

/-- The easy ones among R, as long as there is room. -/
def trF (e m : Int) (R : List S25) (zs : List Int) : List Int := R.foldl (fun zs x => if x.f3 ≥ e ∧ (zs.length : Int) < m then zs ++ [x.f0] else zs) zs
theorem trF_cons (e m : Int) (x : S25) (R : List S25) (zs : List Int) : trF e m (x :: R) zs = trF e m R (if x.f3 ≥ e ∧ (zs.length : Int) < m then zs ++ [x.f0] else zs) := rfl
theorem trF_full (e m : Int) (zs : List Int) (h : ¬ (zs.length : Int) < m) : ∀ R : List S25, trF e m R zs = zs
  | [] => rfl
  | x :: R => by rw [trF_cons, if_neg (fun hh => h hh.2)]; exact trF_full e m zs h R
theorem trF_len (e m : Int) : ∀ (R : List S25) (zs : List Int), (trF e m R zs).length ≤ zs.length + R.length
  | [], zs => Nat.le_refl _
  | x :: R, zs => by
    rw [trF_cons]
    refine Nat.le_trans (trF_len e m R _) ?_
    rw [List.length_cons]
    split
    · rw [List.length_append, List.length_singleton]; omega
    · omega
def tripM (l : List S25) (e m : Int) : List Int × Bool := if goodLeads l = true ∧ (1 ≤ e ∧ e ≤ 9) ∧ (0 ≤ m ∧ m ≤ 12) then (trF e m (rankL l) [], true) else ([], false)
theorem tripM_len (l : List S25) (e m : Int) : (tripM l e m).1.length ≤ l.length := by
  unfold tripM
  split
  · have h := trF_len e m (rankL l) []
    have := rankL_len l
    simp only [List.length_nil] at h
    show (trF e m (rankL l) []).length ≤ _
    omega
  · exact Nat.zero_le _

theorem sp_TripFor_l0 (l : List S25) (e m : Int) (X : List Int) (hX : X.length ≤ 1000000) (hb : ∀ j ∈ X, 0 ≤ j ∧ j < (l.length : Int)) : ∀ (d i : Nat) (zs : List Int), i + d = X.length → zs.length ≤ i → Evn (fun k => spec_TripFor.l0 k l e m zs X (i : Int)) (trF e m ((X.drop i).map (gtL l)) zs, true) := by
  intro d
  induction d with
  | zero =>
    intro i zs h hz
    refine Evn.step ?_
    have h1 : ¬ (i : Int) < (X.length : Int) := by omega
    simp only [spec_TripFor.l0, if_neg h1]
    refine Evn.step ?_
    simp only [spec_TripFor.j2, Bool.false_eq_true, if_false]
    rw [List.drop_eq_nil_of_le (by omega)]
    exact Evn.done _
  | succ d ih =>
    intro i zs h hz
    refine Evn.step ?_
    have h1 : (i : Int) < (X.length : Int) := by omega
    have h2 : 0 ≤ (i : Int) := by omega
    have hm : X.getD i 0 ∈ X := by
      rw [List.getD_eq_getElem?_getD, List.getElem?_eq_getElem (by omega)]
      exact List.getElem_mem _
    obtain ⟨h6, h7⟩ := hb _ hm
    rw [getD_drop X i 0 (by omega), List.map_cons, trF_cons]
    simp only [spec_TripFor.l0, if_pos h1]
    by_cases c : (zs.length : Int) < m
    · rw [decide_eq_true c]
      refine Evn.step ?_
      simp only [spec_TripFor.j2, if_true, if_pos h2, if_pos h1, rd, Int.toNat_natCast, if_pos h6, if_pos h7, rd_T25, wrap_succ (show i < 4611686018427387904 by omega)]
      refine Evn.ite (fun c2 => Evn.ite (fun _ => ?_) (fun c3 => absurd (by omega) c3)) (fun c2 => ?_)
      · rw [if_pos (show (gtL l (X.getD i 0)).f3 ≥ e ∧ (zs.length : Int) < m from ⟨c2, c⟩)]
        exact ih (i + 1) _ (by omega) (by rw [List.length_append, List.length_singleton]; omega)
      · rw [if_neg (show ¬ ((gtL l (X.getD i 0)).f3 ≥ e ∧ (zs.length : Int) < m) from fun hh => c2 hh.1)]
        exact ih (i + 1) _ (by omega) (by omega)
    · rw [decide_eq_false c]
      refine Evn.step ?_
      simp only [spec_TripFor.j2, Bool.false_eq_true, if_false]
      rw [if_neg (fun hh => c hh.2), trF_full e m zs c]
      exact Evn.done _
theorem sp_TripFor (l : List S25) (e m : Int) (hl : l.length ≤ 1048576) : Evn (fun k => spec_TripFor.f k l e m) (tripM l e m) := by
  unfold spec_TripFor.f
  simp only [Option.bind_some]
  have no : ¬ (goodLeads l = true ∧ (1 ≤ e ∧ e ≤ 9) ∧ (0 ≤ m ∧ m ≤ 12)) → Evn (fun k => spec_TripFor.j0 k l e m [] true) (tripM l e m) := by
    intro hn
    refine Evn.step ?_
    simp only [spec_TripFor.j0, if_true]
    unfold tripM
    rw [if_neg hn]
    exact Evn.done _
  refine Evn.bind (sp_l18Good l hl) ?_
  refine Evn.ite (fun c => ?_) (fun c => no (fun h => c h.1))
  simp only [sp_l1In, Option.bind_some]
  refine Evn.ite (fun c1 => ?_) (fun c1 => no (fun h => c1 (decide_eq_true h.2.1)))
  by_cases c2 : 0 ≤ m ∧ m ≤ 12
  · rw [decide_eq_true c2]
    refine Evn.step ?_
    simp only [spec_TripFor.j0, Bool.not_true, Bool.false_eq_true, if_false]
    have hg := goodLeads_len c
    refine Evn.bind (sp_l18Rank l (by omega)) ?_
    unfold tripM
    rw [if_pos ⟨c, of_decide_eq_true c1, c2⟩]
    have hn := rankX_len l
    have hk := rankL_len l
    have h := sp_TripFor_l0 l e m (rankX l) (by omega) (rankX_in l) (rankX l).length 0 [] (by omega) (by simp)
    rw [List.drop_zero, rankX_map] at h
    exact h
  · rw [decide_eq_false c2]
    exact no (fun h => c2 h.2.2)

theorem im_within (x y z : Int) : impl_within.f x y z = some (decide (y ≤ x ∧ x ≤ z)) := by
  unfold impl_within.f
  by_cases h : x ≥ y <;> simp [h] <;> omega

theorem im_isStation (x : Int) : impl_isStation.f x = some (decide (0 ≤ x ∧ x ≤ 7)) := by
  simp only [impl_isStation.f, im_within, Option.bind_some]

theorem im_IsLead (x : S25) : impl_IsLead.f x.f0 x.f1 x.f2 x.f3 x.f4 = some (okLead x) := by
  simp only [impl_IsLead.f, impl_isId.f, im_isStation, impl_isGrade.f, impl_isState.f, im_within, Option.bind_some, ite_and, okLead]

theorem im_AreLeads_l0 (xs : List S25) (hx : xs.length ≤ 1048576) : ∀ (d i : Nat), i + d = xs.length → Evn (fun k => impl_AreLeads.l0 k xs xs (xs.length : Int) (i : Int)) (goodLead xs d i) := by
  intro d
  induction d with
  | zero =>
    intro i h
    refine Evn.step ?_
    have h1 : ¬ (i : Int) < (xs.length : Int) := by omega
    simp only [impl_AreLeads.l0, if_neg h1, goodLead]
    refine (Evn.done _).eq_ ?_
    simp only [decide_eq_decide]
    omega
  | succ d ih =>
    intro i h
    refine Evn.step ?_
    have h1 : (i : Int) < (xs.length : Int) := by omega
    have h2 : 0 ≤ (i : Int) := by omega
    have hih := ih (i + 1) (by omega)
    simp only [impl_AreLeads.l0, if_pos h1, if_pos h2, im_IsLead, Option.bind_some, wrap_succ (show i < 4611686018427387904 by omega), rd_T25, Int.toNat_natCast, goodLead]
    refine Evn.ite (fun c1 => ?_) (fun c1 => (Evn.done _).eq_ (by simp only [Bool.eq_false_iff.mpr c1, Bool.false_and]))
    simp only [c1, Bool.true_and]
    rcases Nat.eq_zero_or_pos i with h0 | h0
    · subst h0
      have h3 : ¬ ((0 : Nat) : Int) > 0 := by omega
      simp only [if_neg h3, decide_true, Bool.true_or, Bool.true_and]
      exact hih
    · obtain ⟨j, rfl⟩ : ∃ j, i = j + 1 := ⟨i - 1, by omega⟩
      have h3 : ((j + 1 : Nat) : Int) > 0 := by omega
      have h4 : 0 ≤ (j : Int) := by omega
      have h5 : (j : Int) < (xs.length : Int) := by omega
      simp only [if_pos h3, wrap_pred (show j < 4611686018427387904 by omega), if_pos h4, if_pos h5, Int.toNat_natCast, Nat.add_sub_cancel]
      refine Evn.ite (fun c3 => (Evn.done _).eq_ ?_) (fun c3 => hih.eq_ ?_)
      · have e1 : decide ((xs.getD j z25).f0 < (xs.getD (j + 1) z25).f0) = false := decide_eq_false (by omega)
        simp only [e1, show decide (j + 1 = 0) = false from by simp, Bool.or_false, Bool.false_and]
      · have e1 : decide ((xs.getD j z25).f0 < (xs.getD (j + 1) z25).f0) = true := decide_eq_true (by omega)
        simp only [e1, Bool.or_true, Bool.true_and]
theorem im_AreLeads (xs : List S25) (hx : xs.length ≤ 1048576) : Evn (fun k => impl_AreLeads.f k xs) (goodLeads xs) := im_AreLeads_l0 xs hx xs.length 0 (by omega)

theorem im_worth (x : S25) : impl_Lead_worth.f x.f0 x.f1 x.f2 x.f3 x.f4 = some (wth x) := rfl
theorem im_closed (x : S25) : impl_ranked_1.f x.f0 x.f1 x.f2 x.f3 x.f4 = some (!decide (x.f4 = 0)) := by
  unfold impl_ranked_1.f
  by_cases h : x.f4 = 0 <;> simp [h]
theorem im_cmp (x y : S25) : ∃ c, impl_ranked_2.f x.f0 x.f1 x.f2 x.f3 x.f4 y.f0 y.f1 y.f2 y.f3 y.f4 = some c ∧ (c < 0 ↔ wth y < wth x) := by
  simp only [impl_ranked_2.f, im_worth, Option.bind_some, cmp_Compare_int.f, cmp_isNaN_int.f, bne_self_eq_false, Bool.false_eq_true, if_false]
  by_cases h1 : wth y < wth x
  · exact ⟨-1, by rw [if_pos h1]; rfl, by omega⟩
  · by_cases h2 : wth y > wth x
    · exact ⟨1, by rw [if_neg h1, if_pos h2]; rfl, by omega⟩
    · exact ⟨0, by rw [if_neg h1, if_neg h2]; rfl, by omega⟩
/-! The first closed lead. -/
def idxC (l : List S25) : Nat → Nat → Int
  | 0, _ => -1
  | d + 1, i => if (l.getD i z25).f4 = 0 then idxC l d (i + 1) else (i : Int)
theorem im_index (l : List S25) (hl : l.length ≤ 4194304) : ∀ (d i : Nat), i + d = l.length → Evn (fun k => impl_Lead_53.l0 k l (l.length : Int) (i : Int)) (idxC l d i) := by
  intro d
  induction d with
  | zero =>
    intro i h
    refine Evn.step ?_
    have h1 : ¬ (i : Int) < (l.length : Int) := by omega
    simp only [impl_Lead_53.l0, if_neg h1, idxC]
    exact Evn.done _
  | succ d ih =>
    intro i h
    refine Evn.step ?_
    have h1 : (i : Int) < (l.length : Int) := by omega
    have h2 : 0 ≤ (i : Int) := by omega
    simp only [impl_Lead_53.l0, if_pos h1, if_pos h2, rd_T25, Int.toNat_natCast, im_closed, Option.bind_some, idxC, wrap_succ (show i < 4611686018427387904 by omega)]
    by_cases c : (l.getD i z25).f4 = 0
    · simp only [decide_eq_true c, Bool.not_true, Bool.false_eq_true, if_false, if_pos c]
      exact ih (i + 1) (by omega)
    · simp only [decide_eq_false c, Bool.not_false, if_true, if_neg c]
      exact Evn.done _
theorem idxC_spec (l : List S25) : ∀ (d i : Nat), i + d = l.length → (idxC l d i = -1 ∧ openL (l.drop i) = l.drop i) ∨ ∃ j : Nat, idxC l d i = (j : Int) ∧ i ≤ j ∧ j < l.length ∧ ¬ (l.getD j z25).f4 = 0 ∧ openL ((l.take j).drop i) = (l.take j).drop i := by
  intro d
  induction d with
  | zero =>
    intro i h
    left
    rw [List.drop_eq_nil_of_le (by omega)]
    exact ⟨rfl, rfl⟩
  | succ d ih =>
    intro i h
    unfold idxC
    by_cases c : (l.getD i z25).f4 = 0
    · rw [if_pos c]
      rcases ih (i + 1) (by omega) with ⟨h1, h2⟩ | ⟨j, h1, h2, h3, h4, h5⟩
      · left
        refine ⟨h1, ?_⟩
        rw [getD_drop l i z25 (by omega)]
        unfold openL at h2 ⊢
        rw [List.filter_cons, if_pos (by simpa using c), h2]
      · right
        refine ⟨j, h1, by omega, h3, h4, ?_⟩
        have hg : (l.take j).getD i z25 = l.getD i z25 := by rw [List.getD_eq_getElem?_getD, List.getElem?_take, if_pos (by omega), List.getD_eq_getElem?_getD]
        rw [getD_drop (l.take j) i z25 (by rw [List.length_take]; omega), hg]
        unfold openL at h5 ⊢
        rw [List.filter_cons, if_pos (by simpa using c), h5]
    · rw [if_neg c]
      right
      refine ⟨i, rfl, Nat.le_refl _, by omega, c, ?_⟩
      rw [List.drop_eq_nil_of_le (by rw [List.length_take]; omega)]
      rfl
theorem openL_snoc (l : List S25) (j : Nat) (hj : j < l.length) : openL (l.take (j + 1)) = if (l.getD j z25).f4 = 0 then openL (l.take j) ++ [l.getD j z25] else openL (l.take j) := by
  have h : l.take (j + 1) = l.take j ++ [l.getD j z25] := by
    rw [List.take_succ_eq_append_getElem hj, List.getD_eq_getElem?_getD, List.getElem?_eq_getElem hj]
    rfl
  unfold openL
  rw [h, List.filter_append]
  by_cases c : (l.getD j z25).f4 = 0
  · rw [if_pos c, List.filter_cons, if_pos (by simpa using c)]
    rfl
  · rw [if_neg c, List.filter_cons, if_neg (by simpa using c)]
    simp
theorem eta_lead (x : S25) : (⟨x.f0, x.f1, x.f2, x.f3, x.f4⟩ : S25) = x := rfl
theorem im_del_l0 (l : List S25) (hl : l.length ≤ 4194304) : ∀ (d j i : Nat) (X : List S25), j + d = l.length → i ≤ j → X.length = l.length → X.take i = openL (l.take j) → X.drop j = l.drop j → Evn (fun k => impl_Lead_66.l0 k X (i : Int) (j : Int)) (openL l) := by
  intro d
  induction d with
  | zero =>
    intro j i X h hij hX ht _
    refine Evn.step ?_
    have h1 : ¬ (j : Int) < (X.length : Int) := by omega
    have h2 : 0 ≤ (i : Int) := by omega
    have h3 : (i : Int) ≤ (X.length : Int) := by omega
    simp only [impl_Lead_66.l0, if_neg h1, if_pos h2, if_pos h3, Int.toNat_natCast, ht]
    rw [List.take_of_length_le (by omega)]
    exact Evn.done _
  | succ d ih =>
    intro j i X h hij hX ht hd
    refine Evn.step ?_
    have h1 : (j : Int) < (X.length : Int) := by omega
    have h2 : 0 ≤ (j : Int) := by omega
    have h3 : 0 ≤ (i : Int) := by omega
    have h4 : (i : Int) < (X.length : Int) := by omega
    have hx : X.getD j z25 = l.getD j z25 := by
      have e := congrArg (fun t => t[0]?) hd
      simp only [List.getElem?_drop, Nat.add_zero] at e
      rw [List.getD_eq_getElem?_getD, List.getD_eq_getElem?_getD, e]
    have hs : X.drop (j + 1) = l.drop (j + 1) := by
      have e := congrArg (List.drop 1) hd
      rw [List.drop_drop, List.drop_drop] at e
      exact e
    have hn := openL_snoc l j (by omega)
    simp only [impl_Lead_66.l0, if_pos h1, if_pos h2, if_pos h3, if_pos h4, rd_T25, Int.toNat_natCast, im_closed, Option.bind_some, eta_lead, hx, wrap_succ (show j < 4611686018427387904 by omega), wrap_succ (show i < 4611686018427387904 by omega)]
    by_cases c : (l.getD j z25).f4 = 0
    · simp only [decide_eq_true c, Bool.not_true, Bool.false_eq_true, if_false]
      rw [if_pos c] at hn
      refine ih (j + 1) (i + 1) _ (by omega) (by omega) (by rw [List.length_set]; exact hX) ?_ ?_
      · rw [set_take X i _ (by omega), ht, hn]
      · rw [← hs]
        apply List.ext_getElem?
        intro q
        rw [List.getElem?_drop, List.getElem?_drop, List.getElem?_set_ne (by omega)]
    · simp only [decide_eq_false c, Bool.not_false, if_true]
      rw [if_neg c] at hn
      exact ih (j + 1) i X (by omega) (by omega) hX (by rw [hn, ht]) hs
theorem im_delete (l : List S25) (a : Int) (hl : l.length ≤ 4194304) : Evn (fun k => impl_Lead_66.f k l a) (openL l) := by
  unfold impl_Lead_66.f impl_Lead_53.f
  refine Evn.bind (im_index l hl l.length 0 (by omega)) ?_
  rcases idxC_spec l l.length 0 (by omega) with ⟨h1, h2⟩ | ⟨j, h1, h2, h3, h4, h5⟩
  · rw [h1, List.drop_zero] at *
    simp only [if_true]
    rw [h2]
    exact Evn.done _
  · rw [h1]
    have hn : ¬ (j : Int) = -1 := by omega
    simp only [if_neg hn, wrap_succ (show j < 4611686018427387904 by omega)]
    rw [List.drop_zero] at h5
    have hn2 := openL_snoc l j h3
    rw [if_neg h4, h5] at hn2
    exact im_del_l0 l hl (l.length - (j + 1)) (j + 1) j l (by omega) (by omega) rfl hn2.symm rfl
/-! The insertion sort. -/
theorem im_sort_l1 (i n : Nat) (hn : n ≤ 1000) (hi : i < n) (S R : List S25) (x : S25) (hS : S.length = i) (hR : R.length + i + 1 = n) (r : List S25) : ∀ p, p ≤ i → Evn (fun k => impl_Lead_76.l0 k (insP x S (posR wth z25 x S p) ++ R) 0 (n : Int) ((i + 1 : Nat) : Int)) r → Evn (fun k => impl_Lead_76.l1 k (insP x S p ++ R) 0 (n : Int) (i : Int) (p : Int)) r
  | 0, _, h => by
    refine Evn.step ?_
    have h1 : ¬ ((0 : Nat) : Int) > 0 := by omega
    simp only [impl_Lead_76.l1, if_neg h1, wrap_succ (show i < 4611686018427387904 by omega)]
    exact h
  | p + 1, hp, h => by
    refine Evn.step ?_
    have ih := im_sort_l1 i n hn hi S R x hS hR r p (by omega)
    have hA : (S.take p).length = p := by rw [List.length_take]; omega
    have e1 : insP x S (p + 1) ++ R = S.take p ++ S.getD p z25 :: x :: (S.drop (p + 1) ++ R) := by
      unfold insP
      have ht : S.take (p + 1) = S.take p ++ [S.getD p z25] := by
        rw [List.take_succ_eq_append_getElem (by omega), List.getD_eq_getElem?_getD, List.getElem?_eq_getElem (by omega)]
        rfl
      rw [ht]
      simp
    have e2 : insP x S p ++ R = S.take p ++ x :: S.getD p z25 :: (S.drop (p + 1) ++ R) := by
      unfold insP
      rw [getD_drop S p z25 (by omega)]
      simp
    have hl : (insP x S (p + 1) ++ R).length = n := by rw [List.length_append, insP_len]; omega
    have g1 : (insP x S (p + 1) ++ R).getD (p + 1) z25 = x := by
      rw [e1, show S.take p ++ S.getD p z25 :: x :: (S.drop (p + 1) ++ R) = (S.take p ++ [S.getD p z25]) ++ x :: (S.drop (p + 1) ++ R) from by simp]
      have := getD_mid (S.take p ++ [S.getD p z25]) (S.drop (p + 1) ++ R) x z25
      rwa [List.length_append, hA, List.length_singleton] at this
    have g2 : (insP x S (p + 1) ++ R).getD p z25 = S.getD p z25 := by
      rw [e1]
      have := getD_mid (S.take p) (x :: (S.drop (p + 1) ++ R)) (S.getD p z25) z25
      rwa [hA] at this
    have g3 : ((insP x S (p + 1) ++ R).set (p + 1) (S.getD p z25)).set p x = insP x S p ++ R := by
      rw [e1, e2]
      have := swap_at (S.take p) (S.drop (p + 1) ++ R) (S.getD p z25) x
      rwa [hA] at this
    obtain ⟨c, hc, hcc⟩ := im_cmp x (S.getD p z25)
    simp only [posR] at h
    have h1 : ((p + 1 : Nat) : Int) > 0 := by omega
    have h2 : 0 ≤ ((p + 1 : Nat) : Int) := by omega
    have h3 : ((p + 1 : Nat) : Int) < ((insP x S (p + 1) ++ R).length : Int) := by omega
    have h4 : 0 ≤ (p : Int) := by omega
    have h5 : (p : Int) < ((insP x S (p + 1) ++ R).length : Int) := by omega
    have hw := wrap_pred (show p < 4611686018427387904 by omega)
    clear e1 e2 hl
    obtain ⟨D, hD⟩ : ∃ D, insP x S (p + 1) ++ R = D := ⟨_, rfl⟩
    rw [hD] at g1 g2 g3 h3 h5 ⊢
    simp only [impl_Lead_76.l1, if_pos h1, if_pos h2, if_pos h3, hw, if_pos h4, if_pos h5, rd_T25, Int.toNat_natCast, g1, g2, hc, Option.bind_some, eta_lead, g3, wrap_succ (show i < 4611686018427387904 by omega)]
    by_cases cc : c < 0
    · rw [if_pos (hcc.1 cc)] at h
      simp only [if_pos cc]
      exact ih h
    · rw [if_neg (fun hh => cc (hcc.2 hh)), hD] at h
      simp only [if_neg cc]
      exact h
theorem im_sort_l0 (F : List S25) (hF : F.length ≤ 1000) : ∀ (d i : Nat), i + d = F.length → Evn (fun k => impl_Lead_76.l0 k (sortR wth z25 (F.take i) ++ F.drop i) 0 (F.length : Int) (i : Int)) (sortR wth z25 F) := by
  intro d
  induction d with
  | zero =>
    intro i h
    refine Evn.step ?_
    have h1 : ¬ (i : Int) < (F.length : Int) := by omega
    simp only [impl_Lead_76.l0, if_neg h1]
    rw [List.take_of_length_le (by omega), List.drop_eq_nil_of_le (by omega), List.append_nil]
    exact Evn.done _
  | succ d ih =>
    intro i h
    refine Evn.step ?_
    have h1 : (i : Int) < (F.length : Int) := by omega
    simp only [impl_Lead_76.l0, if_pos h1]
    have hS : (sortR wth z25 (F.take i)).length = i := by rw [sortR_len, List.length_take]; omega
    have e : sortR wth z25 (F.take i) ++ F.drop i = insP (F.getD i z25) (sortR wth z25 (F.take i)) i ++ F.drop (i + 1) := by
      rw [getD_drop F i z25 (by omega)]
      generalize sortR wth z25 (F.take i) = S at hS
      unfold insP
      rw [List.take_of_length_le (show S.length ≤ i by omega), List.drop_eq_nil_of_le (show S.length ≤ i by omega)]
      simp
    rw [e]
    refine im_sort_l1 i F.length hF (by omega) _ (F.drop (i + 1)) _ hS (by rw [List.length_drop]; omega) _ i (Nat.le_refl _) ?_
    have h2 := ih (i + 1) (by omega)
    have ht : F.take (i + 1) = F.take i ++ [F.getD i z25] := by
      rw [List.take_succ_eq_append_getElem (by omega), List.getD_eq_getElem?_getD, List.getElem?_eq_getElem (by omega)]
      rfl
    rw [ht, sortR_snoc] at h2
    unfold insR at h2
    rw [hS] at h2
    exact h2
theorem im_sort (F : List S25) (a : Int) (hF : F.length < 20) : Evn (fun k => impl_Lead_68.f k F a) (sortR wth z25 F) := by
  have h0 : (F.length : Int) < 20 := by omega
  unfold impl_Lead_68.f impl_Lead_74.f impl_Lead_76.f
  simp only [if_pos h0]
  refine Evn.bind (Evn.bind ?_ (Evn.done _)) (Evn.done _)
  have hw : wrap64 ((0 : Int) + 1) = ((1 : Nat) : Int) := by rw [wrap_id (by omega) (by omega)]; rfl
  rw [hw]
  rcases F with _ | ⟨x, F⟩
  · refine Evn.step ?_
    have h1 : ¬ ((1 : Nat) : Int) < ((([] : List S25).length : Nat) : Int) := by simp
    simp only [impl_Lead_76.l0, if_neg h1]
    exact Evn.done _
  · have h := im_sort_l0 (x :: F) (by omega) F.length 1 (by rw [List.length_cons]; omega)
    exact h
theorem im_ranked (l : List S25) (hl : l.length < 20) : Evn (fun k => impl_ranked.f k l) (rankL l) := by
  unfold impl_ranked.f
  have hc : impl_Lead_56.f l = some l := by unfold impl_Lead_56.f; rw [if_pos (by omega)]
  simp only [hc, Option.bind_some]
  refine Evn.bind (im_delete l 0 (by omega)) ?_
  refine Evn.bind (im_sort _ 0 ?_) (Evn.done _)
  have : (openL l).length ≤ l.length := List.length_filter_le _ _
  omega

theorem im_TripFor_l0 (e m : Int) (R : List S25) (hR : R.length ≤ 1000000) : ∀ (d i : Nat) (zs : List Int), i + d = R.length → zs.length ≤ i → Evn (fun k => impl_TripFor.l0 k e m zs R (R.length : Int) (i : Int)) (trF e m (R.drop i) zs, true) := by
  intro d
  induction d with
  | zero =>
    intro i zs h hz
    refine Evn.step ?_
    have h1 : ¬ (i : Int) < (R.length : Int) := by omega
    simp only [impl_TripFor.l0, if_neg h1]
    rw [List.drop_eq_nil_of_le (by omega)]
    exact Evn.done _
  | succ d ih =>
    intro i zs h hz
    refine Evn.step ?_
    have h1 : (i : Int) < (R.length : Int) := by omega
    have h2 : 0 ≤ (i : Int) := by omega
    rw [getD_drop R i z25 (by omega), trF_cons]
    simp only [impl_TripFor.l0, if_pos h1, if_pos h2, rd_T25, Int.toNat_natCast, wrap_succ (show i < 4611686018427387904 by omega)]
    refine Evn.ite (fun c => ?_) (fun c => ?_)
    · refine Evn.ite (fun c2 => Evn.ite (fun _ => ?_) (fun c3 => absurd (by omega) c3)) (fun c2 => ?_)
      · rw [if_pos ⟨c, c2⟩]
        exact ih (i + 1) _ (by omega) (by rw [List.length_append, List.length_singleton]; omega)
      · rw [if_neg (fun hh => c2 hh.2)]
        exact ih (i + 1) _ (by omega) (by omega)
    · rw [if_neg (fun hh => c hh.1)]
      exact ih (i + 1) _ (by omega) (by omega)
theorem im_TripFor (l : List S25) (e m : Int) (hl : l.length ≤ 1048576) : Evn (fun k => impl_TripFor.f k l e m) (tripM l e m) := by
  unfold impl_TripFor.f
  have no : ¬ (goodLeads l = true ∧ (1 ≤ e ∧ e ≤ 9) ∧ (0 ≤ m ∧ m ≤ 12)) → Evn (fun k => impl_TripFor.j0 k l e m true) (tripM l e m) := by
    intro hn
    refine Evn.step ?_
    simp only [impl_TripFor.j0, if_true]
    unfold tripM
    rw [if_neg hn]
    exact Evn.done _
  refine Evn.bind (im_AreLeads l hl) ?_
  refine Evn.ite (fun c => ?_) (fun c => no (fun h => c h.1))
  simp only [impl_isGrade.f, im_within, Option.bind_some]
  refine Evn.ite (fun c1 => ?_) (fun c1 => no (fun h => c1 (decide_eq_true h.2.1)))
  by_cases c2 : 0 ≤ m ∧ m ≤ 12
  · rw [decide_eq_true c2]
    refine Evn.step ?_
    simp only [impl_TripFor.j0, Bool.not_true, Bool.false_eq_true, if_false]
    have hg := goodLeads_len c
    refine Evn.bind (im_ranked l (by omega)) ?_
    unfold tripM
    rw [if_pos ⟨c, of_decide_eq_true c1, c2⟩]
    have hk := rankL_len l
    have h := im_TripFor_l0 e m (rankL l) (by omega) (rankL l).length 0 [] (by omega) (by simp)
    rw [List.drop_zero] at h
    exact h
  · rw [decide_eq_false c2]
    exact no (fun h => c2 h.2.2)

theorem FnExactTripFor : ∀ (l0 : List (S23)) (a1 : Int) (a2 : Int), l0.length ≤ maxLen → (∀ x ∈ l0, (Lit.int .i64 x.f0).wf = true ∧ (Lit.int .i64 x.f1).wf = true ∧ (Lit.int .i64 x.f2).wf = true ∧ (Lit.int .i64 x.f3).wf = true ∧ (Lit.int .i64 x.f4).wf = true) → (Lit.int .i64 a1).wf = true → (Lit.int .i64 a2).wf = true → ∃ k, laws_FnExactTripFor.f k l0 a1 a2 = some true := by
  intro l s m hl _ _ _
  apply Evn.get
  unfold laws_FnExactTripFor.f
  simp only [ev_szLeadS, Option.bind_some]
  refine Evn.ite (fun _ => Evn.done _) (fun h => ?_)
  have hx : l.length ≤ 1048576 := by unfold maxLen at hl; unfold wrap64 at h; split at h <;> omega
  have hx' : (l.map convLead).length ≤ 4194304 := by rw [List.length_map]; omega
  have hx1 : (l.map convLead).length ≤ 1048576 := by rw [List.length_map]; omega
  clear h hl
  have hs := sp_TripFor (l.map convLead) s m hx1
  have hi := im_TripFor (l.map convLead) s m hx1
  have hr : (tripM (l.map convLead) s m).1.length ≤ 4194304 := Nat.le_trans (tripM_len _ _ _) hx'
  generalize tripM (l.map convLead) s m = r at hs hi hr
  generalize hL : l.map convLead = L at hs hi hx'
  have hto : Evn (fun k => laws_toLeadS.f k l) L := hL ▸ ev_toLeadS l hx
  repeat (first
    | exact Evn.done _
    | simp only [if_true, bne_self_eq_false, Bool.false_eq_true, if_false]
    | refine Evn.bind hto ?_
    | refine Evn.bind hs ?_
    | refine Evn.bind hi ?_
    | refine Evn.bind (ev_toLeadS _ (by assumption)) ?_
    | refine Evn.bind (ev_toIntS _ (by assumption)) ?_
    | refine Evn.bind (ev_eqLeadS _ (by assumption)) ?_
    | refine Evn.bind (ev_eqIntS _ (by assumption)) ?_
    | refine Evn.bind (ev_markLeadS _ _ (by omega) (by omega) (by first | assumption | omega)) ?_
    | refine Evn.bind (ev_heldLeadS _ _ (by omega) (by omega) (by first | assumption | omega)) ?_
    | refine Evn.bind (ev_markIntS _ _ (by omega) (by omega) (by first | assumption | omega)) ?_
    | refine Evn.bind (ev_heldIntS _ _ (by omega) (by omega) (by first | assumption | omega)) ?_
    | refine Evn.ite (fun h_ => absurd h_ (by first | omega | decide)) (fun _ => ?_)
    | refine Evn.ite (fun _ => ?_) (fun h_ => absurd (by first | rfl | omega) h_)
    | dsimp only
    | (refine Evn.step ?_; simp only [laws_FnExactTripFor.j0])
    | (refine Evn.step ?_; simp only [laws_FnExactTripFor.j1])
    | (refine Evn.step ?_; simp only [laws_FnExactTripFor.j2]))

end Go.Proofs.Ytldgjibimolcdaa.Pure
