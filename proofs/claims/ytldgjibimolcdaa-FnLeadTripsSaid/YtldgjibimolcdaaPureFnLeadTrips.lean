/- The plain statement of FnLeadTrips: its plain function returns true at every input. No condition beyond the arguments' own bounds. -/
import Derived.Test.YtldgjibimolcdaaQFnLeadTripsx14
import Derived.Test.YtldgjibimolcdaaVTAid
namespace Go.Proofs.Ytldgjibimolcdaa.Pure
open Go.RowKit Go.Proofs.YtldgjibimolcdaaW.PrintWords Go.Proofs.YtldgjibimolcdaaW.PrintLast Go.Proofs.Ytldgjibimolcdaa.Aid Go.Proofs.Ytldgjibimolcdaa.QFnLeadTrips
set_option linter.unusedVariables false
set_option linter.unusedSimpArgs false

theorem sp_l1In (x y z : Int) : spec_l1In.f x y z = some (decide (y ≤ x ∧ x ≤ z)) := by
  unfold spec_l1In.f
  by_cases h : x ≥ y <;> simp [h] <;> omega

theorem sp_l4Station (x : Int) : spec_l4Station.f x = some (decide (0 ≤ x ∧ x ≤ 7)) := by
  simp only [spec_l4Station.f, sp_l1In, Option.bind_some]

def okLead (x : S25) : Bool := decide (1 ≤ x.f0 ∧ x.f0 ≤ 99) && (decide (0 ≤ x.f1 ∧ x.f1 ≤ 7) && (decide (1 ≤ x.f2 ∧ x.f2 ≤ 9) && (decide (1 ≤ x.f3 ∧ x.f3 ≤ 9) && decide (0 ≤ x.f4 ∧ x.f4 ≤ 3))))
/-! The rules of a list of Lead, as both texts have them. -/
def goodLead (xs : List S25) : Nat → Nat → Bool
  | 0, _ => decide (xs.length ≤ 12)
  | d + 1, i => (okLead (xs.getD i z25) && (decide (i = 0) || decide ((xs.getD (i - 1) z25).f0 < (xs.getD i z25).f0))) && goodLead xs d (i + 1)
def goodLeads (xs : List S25) : Bool := goodLead xs xs.length 0
theorem goodLead_facts (xs : List S25) : ∀ (d i : Nat), i + d = xs.length → goodLead xs d i = true → (∀ j, i ≤ j → j < xs.length → okLead (xs.getD j z25) = true ∧ (j = 0 ∨ (xs.getD (j - 1) z25).f0 < (xs.getD j z25).f0)) ∧ xs.length ≤ 12 := by
  intro d
  induction d with
  | zero =>
    intro i h hg
    exact ⟨fun j h1 h2 => by omega, by simpa [goodLead] using hg⟩
  | succ d ih =>
    intro i h hg
    simp only [goodLead, Bool.and_eq_true, Bool.or_eq_true, decide_eq_true_eq] at hg
    obtain ⟨⟨g1, g2⟩, g3⟩ := hg
    obtain ⟨h1, h2⟩ := ih (i + 1) (by omega) g3
    refine ⟨fun j hj hl => ?_, h2⟩
    rcases Nat.lt_or_ge i j with hc | hc
    · exact h1 j hc hl
    · obtain rfl : j = i := by omega
      exact ⟨g1, g2⟩
theorem goodLeads_len {xs : List S25} (h : goodLeads xs = true) : xs.length ≤ 12 := (goodLead_facts xs xs.length 0 (by omega) h).2
theorem goodLeads_ok {xs : List S25} (h : goodLeads xs = true) (j : Nat) (hj : j < xs.length) : okLead (xs.getD j z25) = true := ((goodLead_facts xs xs.length 0 (by omega) h).1 j (by omega) hj).1
theorem goodLeads_step {xs : List S25} (h : goodLeads xs = true) (j : Nat) (hj : j + 1 < xs.length) : (xs.getD j z25).f0 < (xs.getD (j + 1) z25).f0 := by
  have h1 := ((goodLead_facts xs xs.length 0 (by omega) h).1 (j + 1) (by omega) hj).2
  rcases h1 with h1 | h1
  · omega
  · exact h1

theorem sp_l18One (x : S25) : spec_l18One.f x.f0 x.f1 x.f2 x.f3 x.f4 = some (okLead x) := by
  simp only [spec_l18One.f, sp_l4Station, spec_l18State.f, sp_l1In, Option.bind_some, ite_and, okLead]

theorem sp_l18Good_l0 (xs : List S25) (hx : xs.length ≤ 1048576) : ∀ (d i : Nat), i + d = xs.length → Evn (fun k => spec_l18Good.l0 k xs (i : Int)) (goodLead xs d i) := by
  intro d
  induction d with
  | zero =>
    intro i h
    refine Evn.step ?_
    have h1 : ¬ (i : Int) < (xs.length : Int) := by omega
    simp only [spec_l18Good.l0, if_neg h1, goodLead]
    refine (Evn.done _).eq_ ?_
    simp only [decide_eq_decide]
    omega
  | succ d ih =>
    intro i h
    refine Evn.step ?_
    have h1 : (i : Int) < (xs.length : Int) := by omega
    have h2 : 0 ≤ (i : Int) := by omega
    have hih := ih (i + 1) (by omega)
    simp only [spec_l18Good.l0, if_pos h1, if_pos h2, sp_l18One, Option.bind_some, wrap_succ (show i < 4611686018427387904 by omega), rd_T25, Int.toNat_natCast, goodLead]
    refine Evn.ite (fun c1 => ?_) (fun c1 => (Evn.done _).eq_ (by simp only [Bool.eq_false_iff.mpr c1, Bool.false_and]))
    simp only [c1, Bool.true_and]
    rcases Nat.eq_zero_or_pos i with h0 | h0
    · subst h0
      have h3 : ¬ ((0 : Nat) : Int) > 0 := by omega
      simp only [if_neg h3, decide_true, Bool.true_or, Bool.true_and]
      exact hih
    · obtain ⟨j, rfl⟩ : ∃ j, i = j + 1 := ⟨i - 1, by omega⟩
      have h3 : ((j + 1 : Nat) : Int) > 0 := by omega
      have h4 : 0 ≤ (j : Int) := by omega
      have h5 : (j : Int) < (xs.length : Int) := by omega
      simp only [if_pos h3, wrap_pred (show j < 4611686018427387904 by omega), if_pos h4, if_pos h5, Int.toNat_natCast, Nat.add_sub_cancel]
      refine Evn.ite (fun c3 => (Evn.done _).eq_ ?_) (fun c3 => hih.eq_ ?_)
      · have e1 : decide ((xs.getD j z25).f0 < (xs.getD (j + 1) z25).f0) = false := decide_eq_false (by omega)
        simp only [e1, show decide (j + 1 = 0) = false from by simp, Bool.or_false, Bool.false_and]
      · have e1 : decide ((xs.getD j z25).f0 < (xs.getD (j + 1) z25).f0) = true := decide_eq_true (by omega)
        simp only [e1, Bool.or_true, Bool.true_and]
theorem sp_l18Good (xs : List S25) (hx : xs.length ≤ 1048576) : Evn (fun k => spec_l18Good.f k xs) (goodLeads xs) := sp_l18Good_l0 xs hx xs.length 0 (by omega)

theorem idxP_none {α : Type} (p : α → Bool) (f : (α → Bool) → List α → Int → Int) (h0 : ∀ i, f p [] i = -1) (h1 : ∀ x l i, f p (x :: l) i = if p x = true then i else f p l (i + 1)) : ∀ (l : List α) (i : Int), (∀ x ∈ l, p x = false) → f p l i = -1 := by
  intro l
  induction l with
  | nil => intro i _; exact h0 i
  | cons x l ih =>
    intro i h
    rw [h1, if_neg (by rw [h x (List.mem_cons_self ..)]; decide)]
    exact ih (i + 1) fun y hy => h y (List.mem_cons_of_mem _ hy)
theorem mem_drop_getD {α : Type} (xs : List α) (z : α) (i : Nat) (x : α) (h : x ∈ xs.drop i) : ∃ j, i ≤ j ∧ j < xs.length ∧ xs.getD j z = x := by
  obtain ⟨n, hn, he⟩ := List.mem_iff_getElem.1 h
  rw [List.length_drop] at hn
  refine ⟨i + n, by omega, by omega, ?_⟩
  rw [List.getElem_drop] at he
  rw [List.getD_eq_getElem?_getD, List.getElem?_eq_getElem (by omega)]
  exact he

theorem goodLeads_lt {xs : List S25} (h : goodLeads xs = true) (i : Nat) : ∀ j, i < j → j < xs.length → (xs.getD i z25).f0 < (xs.getD j z25).f0 := by
  intro j
  induction j with
  | zero => intro h1; omega
  | succ j ih =>
    intro h1 h2
    have h3 := goodLeads_step h j h2
    rcases Nat.lt_or_ge i j with hc | hc
    · have := ih hc (by omega); omega
    · obtain rfl : i = j := by omega
      exact h3
def mayB (a b : Int) : Bool := if a = 0 then b == 1 else if a = 1 then b != 1 else if a = 3 then b == 0 else false
theorem sp_l18May (a b : Int) : spec_l18May.f a b = some (mayB a b) := by
  unfold spec_l18May.f mayB
  repeat' split
  all_goals rfl
def idx (id : Int) (l : List S25) (i : Int) : Int := idxP25 (fun x => x.f0 == id) l i
def chg (xs : List S25) (st q : Int) : List S25 × Bool :=
  if 0 ≤ q then (if mayB (xs.getD q.toNat z25).f4 st = true then (xs.set q.toNat ⟨(xs.getD q.toNat z25).f0, (xs.getD q.toNat z25).f1, (xs.getD q.toNat z25).f2, (xs.getD q.toNat z25).f3, st⟩, true) else ([], false)) else ([], false)
def chgs (xs : List S25) (id st : Int) : List S25 × Bool := if goodLeads xs = true ∧ (0 ≤ st ∧ st ≤ 3) then chg xs st (idx id xs 0) else ([], false)
theorem idx_after {xs : List S25} (h : goodLeads xs = true) (id : Int) (i : Nat) (hi : i < xs.length) (he : (xs.getD i z25).f0 = id) (q : Int) : idx id (xs.drop (i + 1)) q = -1 := by
  unfold idx
  refine idxP_none _ (fun p l i => idxP25 p l i) (fun _ => rfl) (fun _ _ _ => rfl) _ q fun x hx => ?_
  obtain ⟨j, h1, h2, rfl⟩ := mem_drop_getD xs z25 (i + 1) x hx
  have := goodLeads_lt h i j (by omega) h2
  exact beq_eq_false_iff_ne.2 (by omega)
theorem sp_ChangeLead_l0 (xs : List S25) (id st : Int) (hg : goodLeads xs = true) : ∀ (d i : Nat), i + d = xs.length → Evn (fun k => spec_ChangeLead.l0 k xs id st (i : Int)) (chg xs st (idx id (xs.drop i) i)) := by
  have hx := goodLeads_len hg
  intro d
  induction d with
  | zero =>
    intro i h
    refine Evn.step ?_
    have h1 : ¬ (i : Int) < (xs.length : Int) := by omega
    simp only [spec_ChangeLead.l0, if_neg h1]
    rw [List.drop_eq_nil_of_le (by omega)]
    exact Evn.done _
  | succ d ih =>
    intro i h
    have h1 : (i : Int) < (xs.length : Int) := by omega
    have h2 : 0 ≤ (i : Int) := by omega
    have hih := ih (i + 1) (by omega)
    have hd := getD_drop xs i z25 (by omega)
    have hcast : ((i + 1 : Nat) : Int) = (i : Int) + 1 := by omega
    refine Evn.step ?_
    have hw := wrap_succ (show i < 4611686018427387904 by omega)
    simp only [spec_ChangeLead.l0, if_pos h1, if_pos h2, hw, rd_T25, Int.toNat_natCast, sp_l18May, Option.bind_some, List.nil_append, List.length_nil]
    refine Evn.ite (fun c => ?_) (fun c => ?_)
    · have e : idx id (xs.drop i) (i : Int) = (i : Int) := by
        rw [hd]; unfold idx; rw [idxP25]; exact if_pos (beq_iff_eq.2 c)
      rw [e]
      unfold chg
      rw [if_pos h2, Int.toNat_natCast]
      refine Evn.ite (fun c1 => ?_) (fun c1 => ?_)
      · rw [if_pos c1]
        refine Evn.ite (fun _ => ?_) (fun c2 => absurd (by clear hw; omega) c2)
        exact Evn.done _
      · rw [if_neg c1]
        refine hih.eq_ ?_
        rw [idx_after hg id i (by omega) c]
        rfl
    · have e : idx id (xs.drop i) (i : Int) = idx id (xs.drop (i + 1)) ((i + 1 : Nat) : Int) := by
        rw [hd]; unfold idx; rw [idxP25, if_neg (fun h => c (beq_iff_eq.1 h)), hcast]
      rw [e]
      exact hih
theorem sp_ChangeLead (xs : List S25) (id st : Int) (hx : xs.length ≤ 1048576) : Evn (fun k => spec_ChangeLead.f k xs id st) (chgs xs id st) := by
  unfold spec_ChangeLead.f
  refine Evn.bind (sp_l18Good xs hx) ?_
  unfold chgs
  refine Evn.ite (fun c => ?_) (fun c => ?_)
  · simp only [spec_l18State.f, sp_l1In, Option.bind_some]
    refine Evn.step ?_
    simp only [spec_ChangeLead.j0]
    refine Evn.ite (fun c1 => ?_) (fun c1 => ?_)
    · rw [if_neg (by intro h; have h2 := decide_eq_true h.2; rw [h2] at c1; cases c1)]
      exact Evn.done _
    · rw [if_pos ⟨c, by simpa using c1⟩]
      exact sp_ChangeLead_l0 xs id st c xs.length 0 (by omega)
  · refine Evn.step ?_
    simp only [spec_ChangeLead.j0, if_true]
    rw [if_neg (fun h => c h.1)]
    exact Evn.done _

/-! Leads in the order of their worth, as both texts put them. -/
def wth (x : S25) : Int := wrap64 (wrap64 (3 * x.f2) + x.f3)
/-- Where x goes among the first p of ys, looked at from their end. -/
def posR {α : Type} (w : α → Int) (z x : α) (ys : List α) : Nat → Nat
  | 0 => 0
  | p + 1 => if w (ys.getD p z) < w x then posR w z x ys p else p + 1
def insP {α : Type} (x : α) (ys : List α) (p : Nat) : List α := ys.take p ++ x :: ys.drop p
def insR {α : Type} (w : α → Int) (z x : α) (ys : List α) : List α := insP x ys (posR w z x ys ys.length)
def sortR {α : Type} (w : α → Int) (z : α) (l : List α) : List α := l.foldl (fun ys x => insR w z x ys) []
def openL (l : List S25) : List S25 := l.filter (fun x => decide (x.f4 = 0))
def rankL (l : List S25) : List S25 := sortR wth z25 (openL l)
theorem posR_le {α : Type} (w : α → Int) (z x : α) (ys : List α) : ∀ p, posR w z x ys p ≤ p
  | 0 => Nat.le_refl 0
  | p + 1 => by
    unfold posR
    split
    · exact Nat.le_succ_of_le (posR_le w z x ys p)
    · exact Nat.le_refl _
theorem insP_len {α : Type} (x : α) (ys : List α) (p : Nat) : (insP x ys p).length = ys.length + 1 := by
  unfold insP
  rw [List.length_append, List.length_cons, List.length_take, List.length_drop]
  omega
theorem insR_len {α : Type} (w : α → Int) (z x : α) (ys : List α) : (insR w z x ys).length = ys.length + 1 := insP_len _ _ _
theorem sortR_snoc {α : Type} (w : α → Int) (z x : α) (l : List α) : sortR w z (l ++ [x]) = insR w z x (sortR w z l) := by
  unfold sortR
  rw [List.foldl_append]
  rfl
theorem sortR_len {α : Type} (w : α → Int) (z : α) (l : List α) : (sortR w z l).length = l.length := by
  have key : ∀ (l ys : List α), (l.foldl (fun ys x => insR w z x ys) ys).length = ys.length + l.length := by
    intro l
    induction l with
    | nil => intro ys; rfl
    | cons x l ih => intro ys; rw [List.foldl_cons, ih, insR_len, List.length_cons]; omega
  unfold sortR
  rw [key]
  simp
theorem rankL_len (l : List S25) : (rankL l).length ≤ l.length := by
  unfold rankL openL
  rw [sortR_len]
  exact List.length_filter_le _ _
theorem getD_map_ {α β : Type} (g : α → β) (z : α) (z' : β) (ys : List α) (p : Nat) (h : p < ys.length) : (ys.map g).getD p z' = g (ys.getD p z) := by
  rw [List.getD_eq_getElem?_getD, List.getElem?_map, List.getElem?_eq_getElem h, List.getD_eq_getElem?_getD, List.getElem?_eq_getElem h]
  rfl
theorem posR_map {α β : Type} (w : β → Int) (g : α → β) (z : α) (z' : β) (x : α) (ys : List α) : ∀ p, p ≤ ys.length → posR (fun a => w (g a)) z x ys p = posR w z' (g x) (ys.map g) p
  | 0, _ => rfl
  | p + 1, h => by
    unfold posR
    rw [getD_map_ g z z' ys p (by omega), posR_map w g z z' x ys p (by omega)]
theorem insR_map {α β : Type} (w : β → Int) (g : α → β) (z : α) (z' : β) (x : α) (ys : List α) : (insR (fun a => w (g a)) z x ys).map g = insR w z' (g x) (ys.map g) := by
  unfold insR insP
  rw [posR_map w g z z' x ys _ (Nat.le_refl _), List.length_map, List.map_append, List.map_cons, List.map_take, List.map_drop]
theorem insP_mem {α : Type} (x y : α) (ys : List α) (p : Nat) (h : y ∈ insP x ys p) : y = x ∨ y ∈ ys := by
  unfold insP at h
  rcases List.mem_append.1 h with h | h
  · exact Or.inr (List.mem_of_mem_take h)
  · rcases List.mem_cons.1 h with h | h
    · exact Or.inl h
    · exact Or.inr (List.mem_of_mem_drop h)
/-- Two neighbors of a list, exchanged. -/
theorem swap_at {α : Type} (A B : List α) (s x : α) : ((A ++ s :: x :: B).set (A.length + 1) s).set A.length x = A ++ x :: s :: B := by
  induction A with
  | nil => rfl
  | cons a A _ => simp
theorem swap_set {α : Type} (A B : List α) (s x : α) : ((A ++ s :: x :: B).set (A.length + 1) s).set A.length x = A ++ x :: s :: B := swap_at A B s x
theorem getD_mid {α : Type} (A B : List α) (x z : α) : (A ++ x :: B).getD A.length z = x := by
  rw [List.getD_eq_getElem?_getD, List.getElem?_append_right (Nat.le_refl _), Nat.sub_self]
  rfl
theorem getD_left {α : Type} (A B : List α) (z : α) (p : Nat) (h : p < A.length) : (A ++ B).getD p z = A.getD p z := by
  rw [List.getD_eq_getElem?_getD, List.getElem?_append_left h, List.getD_eq_getElem?_getD]
def rkM (l : List S25) : List Int × Bool := if goodLeads l = true then ((rankL l).map (fun x => x.f0), true) else ([], false)
theorem rkM_len (l : List S25) : (rkM l).1.length ≤ l.length := by
  unfold rkM
  split
  · rw [List.length_map]; exact rankL_len l
  · exact Nat.zero_le _

theorem sp_worth (x : S25) : spec_l18Worth.f x.f0 x.f1 x.f2 x.f3 x.f4 = some (wth x) := rfl
theorem sp_xIns (l : List Int) (i : Int) (p : Nat) (hp : p ≤ l.length) (hl : l.length ≤ 1000000) : spec_xIns.f l i (p : Int) = some (insP i l p) := by
  have h0 : 0 ≤ (p : Int) := by omega
  have h1 : (p : Int) ≤ (l.length : Int) := by omega
  unfold spec_xIns.f
  simp only [Option.bind_some, if_pos h0, if_pos h1, Int.toNat_natCast]
  rw [if_pos (by rw [List.length_take, List.length_nil]; omega), if_pos (by rw [List.length_append, List.length_take, List.length_nil, List.length_singleton]; omega), if_pos (by rw [List.length_append, List.length_append, List.length_take, List.length_nil, List.length_singleton, List.length_drop]; omega)]
  unfold insP
  simp
def gtL (l : List S25) (j : Int) : S25 := l.getD j.toNat z25
theorem sp_l18Rank_l1 (l : List S25) (i : Nat) (hi : i < l.length) (hl : l.length ≤ 1000000) (out : List Int) (ho : out.length ≤ i) (hb : ∀ j ∈ out, 0 ≤ j ∧ j < (l.length : Int)) (r : List Int) : ∀ p, p ≤ out.length → Evn (fun k => spec_l18Rank.l0 k l (insP (i : Int) out (posR (fun j => wth (gtL l j)) 0 (i : Int) out p)) ((i + 1 : Nat) : Int)) r → Evn (fun k => spec_l18Rank.l1 k l out (i : Int) (p : Int)) r
  | 0, _, h => by
    refine Evn.step ?_
    have h1 : ¬ ((0 : Nat) : Int) > 0 := by omega
    simp only [spec_l18Rank.l1, if_neg h1, sp_xIns out (i : Int) 0 (by omega) (by omega), Option.bind_some, wrap_succ (show i < 4611686018427387904 by omega)]
    exact h
  | p + 1, hp, h => by
    refine Evn.step ?_
    have h1 : ((p + 1 : Nat) : Int) > 0 := by omega
    have h2 : 0 ≤ (p : Int) := by omega
    have h3 : (p : Int) < (out.length : Int) := by omega
    have h4 : 0 ≤ (i : Int) := by omega
    have h5 : (i : Int) < (l.length : Int) := by omega
    have hm : out.getD p 0 ∈ out := by
      rw [List.getD_eq_getElem?_getD, List.getElem?_eq_getElem (by omega)]
      exact List.getElem_mem _
    obtain ⟨h6, h7⟩ := hb _ hm
    have hw := wrap_pred (show p < 4611686018427387904 by omega)
    have ih := sp_l18Rank_l1 l i hi hl out ho hb r p (by omega)
    simp only [posR] at h
    simp only [spec_l18Rank.l1, if_pos h1, hw, if_pos h2, if_pos h3, rd, Int.toNat_natCast, if_pos h6, if_pos h7, rd_T25, sp_worth, Option.bind_some, if_pos h4, if_pos h5]
    refine Evn.ite (fun c => ?_) (fun c => ?_)
    · rw [if_pos (show wth (gtL l (out.getD p 0)) < wth (gtL l (i : Int)) from by unfold gtL; rw [Int.toNat_natCast]; exact c)] at h
      exact ih h
    · rw [if_neg (show ¬ wth (gtL l (out.getD p 0)) < wth (gtL l (i : Int)) from by unfold gtL; rw [Int.toNat_natCast]; exact c)] at h
      simp only [sp_xIns out (i : Int) (p + 1) hp (by omega), Option.bind_some, wrap_succ (show i < 4611686018427387904 by omega)]
      exact h
def rankI (l : List S25) : Nat → Nat → List Int → List Int
  | 0, _, out => out
  | d + 1, i, out => rankI l d (i + 1) (if (l.getD i z25).f4 = 0 then insR (fun j => wth (gtL l j)) 0 (i : Int) out else out)
theorem sp_l18Rank_l0 (l : List S25) (hl : l.length ≤ 1000000) : ∀ (d i : Nat) (out : List Int), i + d = l.length → out.length ≤ i → (∀ j ∈ out, 0 ≤ j ∧ j < (l.length : Int)) → Evn (fun k => spec_l18Rank.l0 k l out (i : Int)) (rankI l d i out) := by
  intro d
  induction d with
  | zero =>
    intro i out h _ _
    refine Evn.step ?_
    have h1 : ¬ (i : Int) < (l.length : Int) := by omega
    simp only [spec_l18Rank.l0, if_neg h1, rankI]
    exact Evn.done _
  | succ d ih =>
    intro i out h ho hb
    refine Evn.step ?_
    have h1 : (i : Int) < (l.length : Int) := by omega
    have h2 : 0 ≤ (i : Int) := by omega
    simp only [spec_l18Rank.l0, if_pos h1, if_pos h2, rd_T25, Int.toNat_natCast, rankI]
    refine Evn.ite (fun c => ?_) (fun c => ?_)
    · rw [if_pos c]
      refine sp_l18Rank_l1 l i (by omega) hl out ho hb _ out.length (Nat.le_refl _) ?_
      refine ih (i + 1) _ (by omega) (by rw [insP_len]; omega) (fun j hj => ?_)
      rcases insP_mem _ _ _ _ hj with rfl | hj
      · omega
      · exact hb j hj
    · rw [if_neg c]
      simp only [wrap_succ (show i < 4611686018427387904 by omega)]
      exact ih (i + 1) out (by omega) (by omega) hb
theorem rankI_in (l : List S25) : ∀ (d i : Nat) (out : List Int), i + d = l.length → (∀ j ∈ out, 0 ≤ j ∧ j < (l.length : Int)) → ∀ j ∈ rankI l d i out, 0 ≤ j ∧ j < (l.length : Int) := by
  intro d
  induction d with
  | zero => intro i out _ hb; exact hb
  | succ d ih =>
    intro i out h hb
    refine ih (i + 1) _ (by omega) (fun j hj => ?_)
    split at hj
    · rcases insP_mem _ _ _ _ hj with rfl | hj
      · omega
      · exact hb j hj
    · exact hb j hj
theorem rankI_map (l : List S25) : ∀ (d i : Nat) (out : List Int), i + d = l.length → (rankI l d i out).map (gtL l) = (openL (l.drop i)).foldl (fun ys x => insR wth z25 x ys) (out.map (gtL l)) := by
  intro d
  induction d with
  | zero =>
    intro i out h
    rw [List.drop_eq_nil_of_le (by omega)]
    rfl
  | succ d ih =>
    intro i out h
    have hx : gtL l (i : Int) = l.getD i z25 := by unfold gtL; rw [Int.toNat_natCast]
    rw [rankI, ih (i + 1) _ (by omega), getD_drop l i z25 (by omega)]
    unfold openL
    rw [List.filter_cons]
    by_cases c : (l.getD i z25).f4 = 0
    · rw [if_pos c, if_pos (by simpa using c), List.foldl_cons, insR_map wth (gtL l) 0 z25, hx]
    · rw [if_neg c, if_neg (by simpa using c)]
def rankX (l : List S25) : List Int := rankI l l.length 0 []
theorem rankX_map (l : List S25) : (rankX l).map (gtL l) = rankL l := by
  have h := rankI_map l l.length 0 [] (by omega)
  rw [List.drop_zero] at h
  exact h
theorem rankX_in (l : List S25) : ∀ j ∈ rankX l, 0 ≤ j ∧ j < (l.length : Int) := rankI_in l l.length 0 [] (by omega) (fun j hj => by cases hj)
theorem rankX_len (l : List S25) : (rankX l).length = (rankL l).length := by rw [← rankX_map, List.length_map]
theorem sp_l18Rank (l : List S25) (hl : l.length ≤ 1000000) : Evn (fun k => spec_l18Rank.f k l) (rankX l) := by
  unfold spec_l18Rank.f
  exact sp_l18Rank_l0 l hl l.length 0 [] (by omega) (by simp) (fun j hj => by cases hj)

def bestM (l : List S25) : Int × Bool := if goodLeads l = true then (match rankL l with | [] => (0, false) | x :: _ => (x.f0, true)) else (0, false)

theorem sp_BestLead (l : List S25) (hl : l.length ≤ 1048576) : Evn (fun k => spec_BestLead.f k l) (bestM l) := by
  unfold spec_BestLead.f
  refine Evn.bind (sp_l18Good l hl) ?_
  unfold bestM
  refine Evn.ite (fun c => ?_) (fun c => ?_)
  · have hg := goodLeads_len c
    rw [if_pos c]
    have hX := sp_l18Rank l (by omega)
    have hm := rankX_map l
    have hin := rankX_in l
    refine Evn.bind hX ?_
    generalize rankX l = X at hX hm hin ⊢
    cases X with
    | nil =>
      rw [← hm]
      exact Evn.done _
    | cons j X =>
      obtain ⟨h6, h7⟩ := hin j (by simp)
      have h1 : ¬ (((j :: X).length : Nat) : Int) = 0 := by rw [List.length_cons]; omega
      have h2 : (0 : Int) < (((j :: X).length : Nat) : Int) := by rw [List.length_cons]; omega
      simp only [if_neg h1]
      refine Evn.bind hX ?_
      have hr : rd (j :: X) 0 = j := rfl
      simp only [if_pos h2, hr, if_pos h6, if_pos h7]
      rw [← hm]
      exact Evn.done _
  · rw [if_neg c]
    exact Evn.done _

theorem sp_RankLeads_l0 (l : List S25) (out : List Int) (ho : out.length ≤ 1000000) (hb : ∀ j ∈ out, 0 ≤ j ∧ j < (l.length : Int)) : ∀ (d i : Nat) (zs : List Int), i + d = out.length → zs.length = i → Evn (fun k => spec_RankLeads.l0 k l (zs ++ out.drop i) (i : Int)) (zs ++ (out.drop i).map (fun j => (gtL l j).f0), true) := by
  intro d
  induction d with
  | zero =>
    intro i zs h hz
    refine Evn.step ?_
    rw [List.drop_eq_nil_of_le (by omega)]
    have h1 : ¬ (i : Int) < ((zs ++ ([] : List Int)).length : Int) := by rw [List.append_nil]; omega
    simp only [spec_RankLeads.l0, if_neg h1]
    exact Evn.done _
  | succ d ih =>
    intro i zs h hz
    refine Evn.step ?_
    rw [getD_drop out i 0 (by omega)]
    have h1 : (i : Int) < ((zs ++ out.getD i 0 :: out.drop (i + 1)).length : Int) := by rw [List.length_append, List.length_cons, List.length_drop]; omega
    have h2 : 0 ≤ (i : Int) := by omega
    have hm : out.getD i 0 ∈ out := by
      rw [List.getD_eq_getElem?_getD, List.getElem?_eq_getElem (by omega)]
      exact List.getElem_mem _
    obtain ⟨h6, h7⟩ := hb _ hm
    have hx : (zs ++ out.getD i 0 :: out.drop (i + 1)).getD i 0 = out.getD i 0 := by rw [← hz]; exact getD_mid zs _ _ 0
    have hs : (zs ++ out.getD i 0 :: out.drop (i + 1)).set i ((l.getD (out.getD i 0).toNat z25).f0) = (zs ++ [(gtL l (out.getD i 0)).f0]) ++ out.drop (i + 1) := by
      rw [List.set_append_right _ _ (by omega), hz, Nat.sub_self, List.set_cons_zero, List.append_assoc]
      rfl
    simp only [spec_RankLeads.l0, if_pos h1, if_pos h2, rd, Int.toNat_natCast, hx, if_pos h6, if_pos h7, rd_T25, hs, wrap_succ (show i < 4611686018427387904 by omega)]
    refine (ih (i + 1) _ (by omega) (by simp [hz])).eq_ ?_
    rw [List.map_cons, List.append_assoc]
    rfl
theorem sp_RankLeads (l : List S25) (hl : l.length ≤ 1048576) : Evn (fun k => spec_RankLeads.f k l) (rkM l) := by
  unfold spec_RankLeads.f
  refine Evn.bind (sp_l18Good l hl) ?_
  unfold rkM
  refine Evn.ite (fun c => ?_) (fun c => ?_)
  · have hg := goodLeads_len c
    rw [if_pos c]
    refine Evn.bind (sp_l18Rank l (by omega)) ?_
    have hn := rankX_len l
    have hk := rankL_len l
    have h := sp_RankLeads_l0 l (rankX l) (by omega) (rankX_in l) (rankX l).length 0 [] (by omega) rfl
    rw [List.drop_zero, List.nil_append, List.nil_append] at h
    refine h.eq_ ?_
    rw [← rankX_map, List.map_map]
    rfl
  · rw [if_neg c]
    exact Evn.done _

/-- The easy ones among R, as long as there is room. -/
def trF (e m : Int) (R : List S25) (zs : List Int) : List Int := R.foldl (fun zs x => if x.f3 ≥ e ∧ (zs.length : Int) < m then zs ++ [x.f0] else zs) zs
theorem trF_cons (e m : Int) (x : S25) (R : List S25) (zs : List Int) : trF e m (x :: R) zs = trF e m R (if x.f3 ≥ e ∧ (zs.length : Int) < m then zs ++ [x.f0] else zs) := rfl
theorem trF_full (e m : Int) (zs : List Int) (h : ¬ (zs.length : Int) < m) : ∀ R : List S25, trF e m R zs = zs
  | [] => rfl
  | x :: R => by rw [trF_cons, if_neg (fun hh => h hh.2)]; exact trF_full e m zs h R
theorem trF_len (e m : Int) : ∀ (R : List S25) (zs : List Int), (trF e m R zs).length ≤ zs.length + R.length
  | [], zs => Nat.le_refl _
  | x :: R, zs => by
    rw [trF_cons]
    refine Nat.le_trans (trF_len e m R _) ?_
    rw [List.length_cons]
    split
    · rw [List.length_append, List.length_singleton]; omega
    · omega
def tripM (l : List S25) (e m : Int) : List Int × Bool := if goodLeads l = true ∧ (1 ≤ e ∧ e ≤ 9) ∧ (0 ≤ m ∧ m ≤ 12) then (trF e m (rankL l) [], true) else ([], false)
theorem tripM_len (l : List S25) (e m : Int) : (tripM l e m).1.length ≤ l.length := by
  unfold tripM
  split
  · have h := trF_len e m (rankL l) []
    have := rankL_len l
    simp only [List.length_nil] at h
    show (trF e m (rankL l) []).length ≤ _
    omega
  · exact Nat.zero_le _

theorem sp_TripFor_l0 (l : List S25) (e m : Int) (X : List Int) (hX : X.length ≤ 1000000) (hb : ∀ j ∈ X, 0 ≤ j ∧ j < (l.length : Int)) : ∀ (d i : Nat) (zs : List Int), i + d = X.length → zs.length ≤ i → Evn (fun k => spec_TripFor.l0 k l e m zs X (i : Int)) (trF e m ((X.drop i).map (gtL l)) zs, true) := by
  intro d
  induction d with
  | zero =>
    intro i zs h hz
    refine Evn.step ?_
    have h1 : ¬ (i : Int) < (X.length : Int) := by omega
    simp only [spec_TripFor.l0, if_neg h1]
    refine Evn.step ?_
    simp only [spec_TripFor.j2, Bool.false_eq_true, if_false]
    rw [List.drop_eq_nil_of_le (by omega)]
    exact Evn.done _
  | succ d ih =>
    intro i zs h hz
    refine Evn.step ?_
    have h1 : (i : Int) < (X.length : Int) := by omega
    have h2 : 0 ≤ (i : Int) := by omega
    have hm : X.getD i 0 ∈ X := by
      rw [List.getD_eq_getElem?_getD, List.getElem?_eq_getElem (by omega)]
      exact List.getElem_mem _
    obtain ⟨h6, h7⟩ := hb _ hm
    rw [getD_drop X i 0 (by omega), List.map_cons, trF_cons]
    simp only [spec_TripFor.l0, if_pos h1]
    by_cases c : (zs.length : Int) < m
    · rw [decide_eq_true c]
      refine Evn.step ?_
      simp only [spec_TripFor.j2, if_true, if_pos h2, if_pos h1, rd, Int.toNat_natCast, if_pos h6, if_pos h7, rd_T25, wrap_succ (show i < 4611686018427387904 by omega)]
      refine Evn.ite (fun c2 => Evn.ite (fun _ => ?_) (fun c3 => absurd (by omega) c3)) (fun c2 => ?_)
      · rw [if_pos (show (gtL l (X.getD i 0)).f3 ≥ e ∧ (zs.length : Int) < m from ⟨c2, c⟩)]
        exact ih (i + 1) _ (by omega) (by rw [List.length_append, List.length_singleton]; omega)
      · rw [if_neg (show ¬ ((gtL l (X.getD i 0)).f3 ≥ e ∧ (zs.length : Int) < m) from fun hh => c2 hh.1)]
        exact ih (i + 1) _ (by omega) (by omega)
    · rw [decide_eq_false c]
      refine Evn.step ?_
      simp only [spec_TripFor.j2, Bool.false_eq_true, if_false]
      rw [if_neg (fun hh => c hh.2), trF_full e m zs c]
      exact Evn.done _
theorem sp_TripFor (l : List S25) (e m : Int) (hl : l.length ≤ 1048576) : Evn (fun k => spec_TripFor.f k l e m) (tripM l e m) := by
  unfold spec_TripFor.f
  simp only [Option.bind_some]
  have no : ¬ (goodLeads l = true ∧ (1 ≤ e ∧ e ≤ 9) ∧ (0 ≤ m ∧ m ≤ 12)) → Evn (fun k => spec_TripFor.j0 k l e m [] true) (tripM l e m) := by
    intro hn
    refine Evn.step ?_
    simp only [spec_TripFor.j0, if_true]
    unfold tripM
    rw [if_neg hn]
    exact Evn.done _
  refine Evn.bind (sp_l18Good l hl) ?_
  refine Evn.ite (fun c => ?_) (fun c => no (fun h => c h.1))
  simp only [sp_l1In, Option.bind_some]
  refine Evn.ite (fun c1 => ?_) (fun c1 => no (fun h => c1 (decide_eq_true h.2.1)))
  by_cases c2 : 0 ≤ m ∧ m ≤ 12
  · rw [decide_eq_true c2]
    refine Evn.step ?_
    simp only [spec_TripFor.j0, Bool.not_true, Bool.false_eq_true, if_false]
    have hg := goodLeads_len c
    refine Evn.bind (sp_l18Rank l (by omega)) ?_
    unfold tripM
    rw [if_pos ⟨c, of_decide_eq_true c1, c2⟩]
    have hn := rankX_len l
    have hk := rankL_len l
    have h := sp_TripFor_l0 l e m (rankX l) (by omega) (rankX_in l) (rankX l).length 0 [] (by omega) (by simp)
    rw [List.drop_zero, rankX_map] at h
    exact h
  · rw [decide_eq_false c2]
    exact no (fun h => c2 h.2.2)

/-! The draws: a cursor over bytes. -/
def Byts (l : List Int) : Prop := ∀ x ∈ l, 0 ≤ x ∧ x ≤ 255
theorem bits255 (x : Int) : 0 ≤ Go.bits .and .u64 x 255 ∧ Go.bits .and .u64 x 255 ≤ 255 := by
  have h : (BitVec.ofInt 64 x &&& BitVec.ofInt 64 255).toNat ≤ 255 := by rw [BitVec.toNat_and]; exact Nat.le_trans Nat.and_le_right (by decide)
  have e : Go.bits .and .u64 x 255 = IntKind.u64.wrap ((BitVec.ofInt 64 x &&& BitVec.ofInt 64 255).toNat : Int) := rfl
  rw [e, IntKind.wrap_u64]
  omega
theorem Byts.at_ {l : List Int} (h : Byts l) (p : Int) : 0 ≤ rd l p ∧ rd l p ≤ 255 := by
  unfold rd
  by_cases g : p.toNat < l.length
  · rw [List.getD_eq_getElem?_getD, List.getElem?_eq_getElem g, Option.getD_some]
    exact h _ (List.getElem_mem g)
  · rw [List.getD_eq_getElem?_getD, List.getElem?_eq_none (by omega), Option.getD_none]
    omega
theorem dw_next {l : List Int} {p : Int} (hl : Byts l) (h0 : 0 ≤ p) (h1 : p ≤ 2000000000) (s : Int) : ∃ r, spec_l1Cur_next.f l p s = some r ∧ 0 ≤ r.1 ∧ r.1 ≤ 255 ∧ r.2.1 = p + 1 := by
  have hr := hl.at_ p
  have e : wrap64 (rd l p) = rd l p := wrap_id (by omega) (by omega)
  have e2 : wrap64 (p + 1) = p + 1 := wrap_id (by omega) (by omega)
  unfold spec_l1Cur_next.f
  rw [e, e2]
  split
  · (try rw [if_pos h0])
    split
    · exact ⟨_, rfl, hr.1, hr.2, rfl⟩
    · refine ⟨_, rfl, ?_, ?_, rfl⟩
      · dsimp only; rw [wrap_id (by have := bits255; exact Int.le_trans (by decide) (this _).1) (Int.le_trans (bits255 _).2 (by decide))]; exact (bits255 _).1
      · dsimp only; rw [wrap_id (by have := bits255; exact Int.le_trans (by decide) (this _).1) (Int.le_trans (bits255 _).2 (by decide))]; exact (bits255 _).2
  · split
    · exact ⟨_, rfl, by dsimp only; omega, by dsimp only; omega, rfl⟩
    · refine ⟨_, rfl, ?_, ?_, rfl⟩
      · dsimp only; rw [wrap_id (by have := bits255; exact Int.le_trans (by decide) (this _).1) (Int.le_trans (bits255 _).2 (by decide))]; exact (bits255 _).1
      · dsimp only; rw [wrap_id (by have := bits255; exact Int.le_trans (by decide) (this _).1) (Int.le_trans (bits255 _).2 (by decide))]; exact (bits255 _).2

theorem tmod_in {x n : Int} (hx : 0 ≤ x) (hn : 1 < n) : 0 ≤ Int.tmod x n ∧ Int.tmod x n < n := by
  rw [Int.tmod_eq_emod_of_nonneg hx]
  exact ⟨Int.emod_nonneg _ (by omega), Int.emod_lt_of_pos _ (by omega)⟩
theorem dw_pick {l : List Int} {p : Int} (hl : Byts l) (h0 : 0 ≤ p) (h1 : p ≤ 1000000000) (s n : Int) : ∃ r, spec_l1Cur_pick.f l p s n = some r ∧ 0 ≤ r.1 ∧ (r.1 < n ∨ r.1 = 0) ∧ p ≤ r.2.1 ∧ r.2.1 ≤ p + 2 := by
  unfold spec_l1Cur_pick.f
  by_cases c : n ≤ 1
  · rw [if_pos c]
    exact ⟨_, rfl, by dsimp only; omega, Or.inr rfl, Int.le_refl _, by dsimp only; omega⟩
  · rw [if_neg c]
    obtain ⟨a, ha, a0, a1, a2⟩ := dw_next hl h0 (by omega) s
    rw [ha, Option.bind_some]
    split
    · obtain ⟨b, hb, b0, b1, b2⟩ := dw_next hl (p := a.2.1) (by omega) (by omega) a.2.2
      rw [hb, Option.bind_some, if_neg (by omega)]
      have t := tmod_in (x := wrap64 (wrap64 (a.1 * 256) + b.1)) (n := n) (by rw [wrap_id (x := a.1 * 256) (by omega) (by omega), wrap_id (by omega) (by omega)]; omega) (by omega)
      exact ⟨_, rfl, t.1, Or.inl t.2, by dsimp only; omega, by dsimp only; omega⟩
    · rw [if_neg (by omega)]
      have t := tmod_in (x := a.1) (n := n) a0 (by omega)
      exact ⟨_, rfl, t.1, Or.inl t.2, by dsimp only; omega, by dsimp only; omega⟩

theorem dw_one {l : List Int} {p : Int} (hl : Byts l) (h0 : 0 ≤ p) (h1 : p ≤ 1000000000) (s n : Int) : ∃ r, spec_l1Cur_one.f l p s n = some r ∧ p ≤ r.2.1 ∧ r.2.1 ≤ p + 2 := by
  unfold spec_l1Cur_one.f
  obtain ⟨a, ha, a0, a1, a2, a3⟩ := dw_pick hl h0 h1 s n
  rw [ha, Option.bind_some]
  exact ⟨_, rfl, a2, a3⟩

theorem rd_mem {L : List Int} {i : Int} (h0 : 0 ≤ i) (h1 : i < L.length) : rd L i ∈ L := by
  unfold rd
  rw [List.getD_eq_getElem?_getD, List.getElem?_eq_getElem (by omega), Option.getD_some]
  exact List.getElem_mem _
theorem dw_among {l : List Int} {p : Int} (hl : Byts l) (h0 : 0 ≤ p) (h1 : p ≤ 1000000000) (s : Int) (L : List Int) (hL : 0 < L.length) : ∃ r, spec_l1Cur_among.f l p s L = some r ∧ r.1 ∈ L ∧ p ≤ r.2.1 ∧ r.2.1 ≤ p + 2 := by
  unfold spec_l1Cur_among.f
  obtain ⟨a, ha, a0, a1, a2, a3⟩ := dw_pick hl h0 h1 s (L.length : Int)
  have a4 : a.1 < (L.length : Int) := by omega
  rw [ha, Option.bind_some, if_pos a0, if_pos a4]
  exact ⟨_, rfl, rd_mem a0 a4, a2, a3⟩

theorem dw_lead {l : List Int} {p : Int} (hl : Byts l) (h0 : 0 ≤ p) (h1 : p ≤ 900000000) (s i : Int) : ∃ r, spec_l1Cur_lead.f l p s i = some r ∧ p ≤ r.2.2.2.2.2.1 ∧ r.2.2.2.2.2.1 ≤ p + 14 := by
  unfold spec_l1Cur_lead.f
  obtain ⟨a, ha, a0, a1, a2, a3⟩ := dw_pick hl h0 (by omega) s 8
  obtain ⟨b, hb, _, b2, b3⟩ := dw_among hl (p := a.2.1) (by omega) (by omega) a.2.2 [1, 3, 3, 5, 9] (by simp)
  obtain ⟨c, hc, _, c2, c3⟩ := dw_among hl (p := b.2.1) (by omega) (by omega) b.2.2 [1, 3, 3, 6, 9] (by simp)
  obtain ⟨d, hd, _, d2, d3⟩ := dw_among hl (p := c.2.1) (by omega) (by omega) c.2.2 [0, 0, 0, 1, 2, 3] (by simp)
  obtain ⟨u, hu, u0, u1, u2, u3⟩ := dw_pick hl (p := d.2.1) (by omega) (by omega) d.2.2 60
  simp only [ha, hb, hc, hd, hu, Option.bind_some]
  by_cases q0 : u.1 = 0
  · obtain ⟨v, hv, _, v2, v3⟩ := dw_among hl (p := u.2.1) (by omega) (by omega) u.2.2 [0, 99, 100] (by simp)
    simp only [if_pos q0, hv, Option.bind_some]
    exact ⟨_, rfl, by dsimp only; omega, by dsimp only; omega⟩
  by_cases q1 : u.1 = 1
  · obtain ⟨v, hv, _, v2, v3⟩ := dw_among hl (p := u.2.1) (by omega) (by omega) u.2.2 [-1, 8] (by simp)
    simp only [if_neg q0, if_pos q1, hv, Option.bind_some]
    exact ⟨_, rfl, by dsimp only; omega, by dsimp only; omega⟩
  by_cases q2 : u.1 = 2
  · obtain ⟨v, hv, _, v2, v3⟩ := dw_among hl (p := u.2.1) (by omega) (by omega) u.2.2 [0, 10] (by simp)
    simp only [if_neg q0, if_neg q1, if_pos q2, hv, Option.bind_some]
    exact ⟨_, rfl, by dsimp only; omega, by dsimp only; omega⟩
  by_cases q3 : u.1 = 3
  · obtain ⟨v, hv, _, v2, v3⟩ := dw_among hl (p := u.2.1) (by omega) (by omega) u.2.2 [0, 10] (by simp)
    simp only [if_neg q0, if_neg q1, if_neg q2, if_pos q3, hv, Option.bind_some]
    exact ⟨_, rfl, by dsimp only; omega, by dsimp only; omega⟩
  by_cases q4 : u.1 = 4
  · obtain ⟨v, hv, _, v2, v3⟩ := dw_among hl (p := u.2.1) (by omega) (by omega) u.2.2 [-1, 4] (by simp)
    simp only [if_neg q0, if_neg q1, if_neg q2, if_neg q3, if_pos q4, hv, Option.bind_some]
    exact ⟨_, rfl, by dsimp only; omega, by dsimp only; omega⟩
  simp only [if_neg q0, if_neg q1, if_neg q2, if_neg q3, if_neg q4]
  exact ⟨_, rfl, by dsimp only; omega, by dsimp only; omega⟩

theorem dw_leads_l1 {l : List Int} (hl : Byts l) : ∀ (D : Nat) (zs : List S25) (i p s : Int), zs.length + D = 13 → 0 ≤ p → p ≤ 900000000 - 2 * (D : Int) → ∃ r, Evn (fun k => spec_l1Cur_leads.l1 k zs i l p s) r ∧ r.1.length ≤ 13 ∧ p ≤ r.2.1 ∧ r.2.1 ≤ p + 2 + 2 * (D : Int) := by
  intro D
  induction D with
  | zero =>
    intro zs i p s hz h0 h1
    obtain ⟨u, hu, u0, u1, u2, u3⟩ := dw_pick hl h0 (by omega) s 2
    have c1 : ¬ (zs.length : Int) < wrap64 (12 + u.1) := by rw [wrap_id (by omega) (by omega)]; omega
    refine ⟨(zs, u.2.1, u.2.2), Evn.step ?_, by dsimp only; omega, by dsimp only; omega, by dsimp only; omega⟩
    simp only [spec_l1Cur_leads.l1, hu, Option.bind_some, if_neg c1]
    exact Evn.done _
  | succ D ih =>
    intro zs i p s hz h0 h1
    obtain ⟨u, hu, u0, u1, u2, u3⟩ := dw_pick hl h0 (by omega) s 2
    by_cases c1 : (zs.length : Int) < wrap64 (12 + u.1)
    · have hq : zs.length < 3518437208883 := by omega
      obtain ⟨r, hr, r1, r2, r3⟩ := ih (zs ++ [⟨wrap64 (i + 1), 0, 2, 2, 0⟩]) (wrap64 (i + 1)) u.2.1 u.2.2 (by rw [List.length_append, List.length_singleton]; omega) (by omega) (by omega)
      refine ⟨r, Evn.step ?_, r1, by omega, by omega⟩
      simp only [spec_l1Cur_leads.l1, hu, Option.bind_some, if_pos c1, if_pos hq]
      exact hr
    · refine ⟨(zs, u.2.1, u.2.2), Evn.step ?_, by dsimp only; omega, by dsimp only; omega, by dsimp only; omega⟩
      simp only [spec_l1Cur_leads.l1, hu, Option.bind_some, if_neg c1]
      exact Evn.done _
theorem dw_leads_l0 {l : List Int} (hl : Byts l) : ∀ (D : Nat) (zs : List S25) (i p s : Int), zs.length + D ≤ 9 → 0 ≤ p → p ≤ 800000000 - 20 * (D : Int) → ∃ r, Evn (fun k => spec_l1Cur_leads.l0 k zs i (D : Int) l p s) r ∧ r.1.length ≤ 13 ∧ p ≤ r.2.1 ∧ r.2.1 ≤ p + 40 + 20 * (D : Int) := by
  intro D
  induction D with
  | zero =>
    intro zs i p s hz h0 h1
    have hn : ¬ ((0 : Nat) : Int) > 0 := by decide
    obtain ⟨u, hu, u2, u3⟩ := dw_one hl h0 (by omega) s 24
    by_cases c1 : u.1 = true
    · obtain ⟨r, hr, r1, r2, r3⟩ := dw_leads_l1 hl (13 - zs.length) zs i u.2.1 u.2.2 (by omega) (by omega) (by omega)
      refine ⟨r, Evn.step ?_, r1, by omega, by omega⟩
      simp only [spec_l1Cur_leads.l0, if_neg hn, hu, Option.bind_some, if_pos c1]
      exact hr
    · refine ⟨(zs, u.2.1, u.2.2), Evn.step ?_, by dsimp only; omega, by dsimp only; omega, by dsimp only; omega⟩
      simp only [spec_l1Cur_leads.l0, if_neg hn, hu, Option.bind_some, if_neg c1]
      exact Evn.done _
  | succ D ih =>
    intro zs i p s hz h0 h1
    obtain ⟨a, ha, a0, a1, a2, a3⟩ := dw_pick hl h0 (by omega) s 3
    obtain ⟨b, hb, b0, b1, b2, b3⟩ := dw_pick hl (p := a.2.1) (by omega) (by omega) a.2.2 80
    obtain ⟨u, hu, u2, u3⟩ := dw_lead hl (p := b.2.1) (by omega) (by omega) b.2.2 (wrap64 ((wrap64 ((wrap64 (i + 1)) + a.1)) - (wrap64 (Int.tdiv b.1 79))))
    have hp : ((D + 1 : Nat) : Int) > 0 := by omega
    have hw : wrap64 (((D + 1 : Nat) : Int) - 1) = (D : Int) := wrap_pred (by omega)
    obtain ⟨r, hr, r1, r2, r3⟩ := ih (zs ++ [⟨u.1, u.2.1, u.2.2.1, u.2.2.2.1, u.2.2.2.2.1⟩]) (wrap64 ((wrap64 ((wrap64 (i + 1)) + a.1)) - (wrap64 (Int.tdiv b.1 79)))) u.2.2.2.2.2.1 u.2.2.2.2.2.2 (by rw [List.length_append, List.length_singleton]; omega) (by omega) (by omega)
    refine ⟨r, Evn.step ?_, r1, by omega, by omega⟩
    have hq : zs.length < 3518437208883 := by omega
    simp only [spec_l1Cur_leads.l0, if_pos hp, hw]
    refine Evn.bind (Evn.of fun _ => ha) (Evn.bind (Evn.of fun _ => hb) (Evn.bind (Evn.of fun _ => hu) ?_))
    simp only [if_pos hq]
    exact hr
theorem dw_leads {l : List Int} {p : Int} (hl : Byts l) (h0 : 0 ≤ p) (h1 : p ≤ 700000000) (s : Int) : ∃ r, Evn (fun k => spec_l1Cur_leads.f k l p s) r ∧ r.1.length ≤ 13 ∧ p ≤ r.2.1 ∧ r.2.1 ≤ p + 400 := by
  unfold spec_l1Cur_leads.f
  obtain ⟨a, ha, a0, a1, a2, a3⟩ := dw_pick hl h0 (by omega) s 9
  obtain ⟨D, hD⟩ : ∃ D : Nat, a.1 = D := ⟨a.1.toNat, by omega⟩
  obtain ⟨r, hr, r1, r2, r3⟩ := dw_leads_l0 hl D [] 0 a.2.1 a.2.2 (by simp only [List.length_nil]; omega) (by omega) (by omega)
  refine ⟨r, ?_, r1, by omega, by omega⟩
  simp only [ha, Option.bind_some, hD]
  exact hr

theorem cut_n {x c : Int} (h0 : 0 ≤ x) (h1 : x < 24) (hc : 0 ≤ c) (hc2 : c ≤ 100) : ∃ n : Nat, wrap64 (c + wrap64 (Int.tdiv x 11)) = (n : Int) ∧ c ≤ (n : Int) ∧ (n : Int) ≤ c + 2 := by
  have e : Int.tdiv x 11 = x / 11 := Int.tdiv_eq_ediv_of_nonneg h0
  rw [e, wrap_id (x := x / 11) (by omega) (by omega), wrap_id (by omega) (by omega)]
  exact ⟨(c + x / 11).toNat, by omega, by omega, by omega⟩
theorem dw_DrawTripFor {l : List Int} (hl : Byts l) : ∃ r, Evn (fun k => spec_DrawTripFor.f k l) r ∧ r.1.length ≤ 13 := by
  unfold spec_DrawTripFor.f
  obtain ⟨a, ha, a1, a2, a3⟩ := dw_leads hl (p := 0) (by decide) (by decide) 0
  obtain ⟨b, hb, b0, b1, b2, b3⟩ := dw_pick hl (p := a.2.1) (by omega) (by omega) a.2.2 24
  obtain ⟨n, hn, n1, n2⟩ := cut_n (c := 4) b0 (by omega) (by decide) (by decide)
  have l1 : ([1, 3, 4, 9, 0, 10] : List Int).length = 6 := rfl
  obtain ⟨c, hc, _, c2, c3⟩ := dw_among hl (p := b.2.1) (by omega) (by omega) b.2.2 (([1, 3, 4, 9, 0, 10] : List Int).take n) (by rw [List.length_take, l1]; omega)
  obtain ⟨d, hd, d0, d1, d2, d3⟩ := dw_pick hl (p := c.2.1) (by omega) (by omega) c.2.2 24
  obtain ⟨m, hm, m1, m2⟩ := cut_n (c := 4) d0 (by omega) (by decide) (by decide)
  have l2 : ([0, 1, 3, 12, (-1), 13] : List Int).length = 6 := rfl
  obtain ⟨e, he, _, e2, e3⟩ := dw_among hl (p := d.2.1) (by omega) (by omega) d.2.2 (([0, 1, 3, 12, (-1), 13] : List Int).take m) (by rw [List.length_take, l2]; omega)
  have q1 : 0 ≤ (n : Int) := by omega
  have q2 : (n : Int) ≤ ((6 : Nat) : Int) := by omega
  have q3 : 0 ≤ (m : Int) := by omega
  have q4 : (m : Int) ≤ ((6 : Nat) : Int) := by omega
  refine ⟨(a.1, c.1, e.1), Evn.bind ha (Evn.of fun _ => ?_), a1⟩
  simp only [Option.bind_some, hb, hn, if_pos q1, l1, if_pos q2, Int.toNat_natCast, hc, hd, hm, if_pos q3, l2, if_pos q4, he]

theorem dw_DrawChangeLead {l : List Int} (hl : Byts l) : ∃ r, Evn (fun k => spec_DrawChangeLead.f k l) r ∧ r.1.length ≤ 13 := by
  have l1 : ([0, 1, 1, 2, 3, (-1), 4] : List Int).length = 7 := rfl
  have go : ∀ (xs : List S25) (i p s : Int) (f : Bool), xs.length ≤ 13 → (f = true → 0 < xs.length) → 0 ≤ p → p ≤ 100000 → ∃ r, Evn (fun k => spec_DrawChangeLead.j0 k xs i f l p s) r ∧ r.1.length ≤ 13 := by
    intro xs i p s f hx hf h0 h1
    cases f with
    | false =>
      obtain ⟨b, hb, b0, b1, b2, b3⟩ := dw_pick hl (p := p) (by omega) (by omega) s 24
      obtain ⟨n, hn, n1, n2⟩ := cut_n (c := 5) b0 (by omega) (by decide) (by decide)
      obtain ⟨c, hc, _, c2, c3⟩ := dw_among hl (p := b.2.1) (by omega) (by omega) b.2.2 (([0, 1, 1, 2, 3, (-1), 4] : List Int).take n) (by rw [List.length_take, l1]; omega)
      have q1 : 0 ≤ (n : Int) := by omega
      have q2 : (n : Int) ≤ ((7 : Nat) : Int) := by omega
      refine ⟨(xs, i, c.1), Evn.step (Evn.of fun _ => ?_), hx⟩
      simp only [spec_DrawChangeLead.j0, Bool.false_eq_true, if_false, Option.bind_some, hb, hn, if_pos q1, l1, if_pos q2, Int.toNat_natCast, hc]
    | true =>
      have hp := hf rfl
      obtain ⟨a, ha, a0, a1, a2, a3⟩ := dw_pick hl (p := p) (by omega) (by omega) s (xs.length : Int)
      have a4 : a.1 < (xs.length : Int) := by omega
      obtain ⟨b, hb, b0, b1, b2, b3⟩ := dw_pick hl (p := a.2.1) (by omega) (by omega) a.2.2 24
      obtain ⟨n, hn, n1, n2⟩ := cut_n (c := 5) b0 (by omega) (by decide) (by decide)
      obtain ⟨c, hc, _, c2, c3⟩ := dw_among hl (p := b.2.1) (by omega) (by omega) b.2.2 (([0, 1, 1, 2, 3, (-1), 4] : List Int).take n) (by rw [List.length_take, l1]; omega)
      have q1 : 0 ≤ (n : Int) := by omega
      have q2 : (n : Int) ≤ ((7 : Nat) : Int) := by omega
      refine ⟨(xs, (rd_T25 xs a.1).f0, c.1), Evn.step (Evn.of fun _ => ?_), hx⟩
      simp only [spec_DrawChangeLead.j0, if_true, Option.bind_some, ha, if_pos a0, if_pos a4, hb, hn, if_pos q1, l1, if_pos q2, Int.toNat_natCast, hc]
  unfold spec_DrawChangeLead.f
  obtain ⟨a, ha, a1, a2, a3⟩ := dw_leads hl (p := 0) (by decide) (by decide) 0
  obtain ⟨b, hb, _, b2, b3⟩ := dw_among hl (p := a.2.1) (by omega) (by omega) a.2.2 [0, 1, 50] (by simp)
  by_cases c : (a.1.length : Int) > 0
  · obtain ⟨o, ho, o2, o3⟩ := dw_one hl (p := b.2.1) (by omega) (by omega) b.2.2 8
    obtain ⟨r, hr, h2⟩ := go a.1 b.1 o.2.1 o.2.2 (!o.1) a1 (fun _ => by omega) (by omega) (by omega)
    exact ⟨r, Evn.bind ha (Evn.bind (Evn.of fun _ => hb) (Evn.ite (fun _ => Evn.bind (Evn.of fun _ => ho) hr) (fun h => absurd c h))), h2⟩
  · obtain ⟨r, hr, h2⟩ := go a.1 b.1 b.2.1 b.2.2 false a1 (fun h => by cases h) (by omega) (by omega)
    exact ⟨r, Evn.bind ha (Evn.bind (Evn.of fun _ => hb) (Evn.ite (fun h => absurd h c) (fun _ => hr))), h2⟩

theorem im_within (x y z : Int) : impl_within.f x y z = some (decide (y ≤ x ∧ x ≤ z)) := by
  unfold impl_within.f
  by_cases h : x ≥ y <;> simp [h] <;> omega

theorem im_isStation (x : Int) : impl_isStation.f x = some (decide (0 ≤ x ∧ x ≤ 7)) := by
  simp only [impl_isStation.f, im_within, Option.bind_some]

theorem im_IsLead (x : S25) : impl_IsLead.f x.f0 x.f1 x.f2 x.f3 x.f4 = some (okLead x) := by
  simp only [impl_IsLead.f, impl_isId.f, im_isStation, impl_isGrade.f, impl_isState.f, im_within, Option.bind_some, ite_and, okLead]

theorem im_AreLeads_l0 (xs : List S25) (hx : xs.length ≤ 1048576) : ∀ (d i : Nat), i + d = xs.length → Evn (fun k => impl_AreLeads.l0 k xs xs (xs.length : Int) (i : Int)) (goodLead xs d i) := by
  intro d
  induction d with
  | zero =>
    intro i h
    refine Evn.step ?_
    have h1 : ¬ (i : Int) < (xs.length : Int) := by omega
    simp only [impl_AreLeads.l0, if_neg h1, goodLead]
    refine (Evn.done _).eq_ ?_
    simp only [decide_eq_decide]
    omega
  | succ d ih =>
    intro i h
    refine Evn.step ?_
    have h1 : (i : Int) < (xs.length : Int) := by omega
    have h2 : 0 ≤ (i : Int) := by omega
    have hih := ih (i + 1) (by omega)
    simp only [impl_AreLeads.l0, if_pos h1, if_pos h2, im_IsLead, Option.bind_some, wrap_succ (show i < 4611686018427387904 by omega), rd_T25, Int.toNat_natCast, goodLead]
    refine Evn.ite (fun c1 => ?_) (fun c1 => (Evn.done _).eq_ (by simp only [Bool.eq_false_iff.mpr c1, Bool.false_and]))
    simp only [c1, Bool.true_and]
    rcases Nat.eq_zero_or_pos i with h0 | h0
    · subst h0
      have h3 : ¬ ((0 : Nat) : Int) > 0 := by omega
      simp only [if_neg h3, decide_true, Bool.true_or, Bool.true_and]
      exact hih
    · obtain ⟨j, rfl⟩ : ∃ j, i = j + 1 := ⟨i - 1, by omega⟩
      have h3 : ((j + 1 : Nat) : Int) > 0 := by omega
      have h4 : 0 ≤ (j : Int) := by omega
      have h5 : (j : Int) < (xs.length : Int) := by omega
      simp only [if_pos h3, wrap_pred (show j < 4611686018427387904 by omega), if_pos h4, if_pos h5, Int.toNat_natCast, Nat.add_sub_cancel]
      refine Evn.ite (fun c3 => (Evn.done _).eq_ ?_) (fun c3 => hih.eq_ ?_)
      · have e1 : decide ((xs.getD j z25).f0 < (xs.getD (j + 1) z25).f0) = false := decide_eq_false (by omega)
        simp only [e1, show decide (j + 1 = 0) = false from by simp, Bool.or_false, Bool.false_and]
      · have e1 : decide ((xs.getD j z25).f0 < (xs.getD (j + 1) z25).f0) = true := decide_eq_true (by omega)
        simp only [e1, Bool.or_true, Bool.true_and]
theorem im_AreLeads (xs : List S25) (hx : xs.length ≤ 1048576) : Evn (fun k => impl_AreLeads.f k xs) (goodLeads xs) := im_AreLeads_l0 xs hx xs.length 0 (by omega)

theorem im_canBecome (a b : Int) : impl_canBecome.f a b = some (mayB a b) := by
  unfold impl_canBecome.f mayB
  repeat' split
  all_goals rfl
theorem idx_lt (id : Int) : ∀ (l : List S25) (i : Int), idx id l i < i + l.length ∨ idx id l i = -1 := by
  intro l
  induction l with
  | nil => intro i; exact Or.inr rfl
  | cons x l ih =>
    intro i
    have e : idx id (x :: l) i = if (x.f0 == id) = true then i else idx id l (i + 1) := rfl
    rw [e, List.length_cons]
    by_cases c : (x.f0 == id) = true
    · rw [if_pos c]; omega
    · rw [if_neg c]
      have := ih (i + 1)
      omega
theorem im_ChangeLead (xs : List S25) (id st : Int) (hx : xs.length ≤ 1048576) : Evn (fun k => impl_ChangeLead.f k xs id st) (chgs xs id st) := by
  unfold impl_ChangeLead.f
  simp only [impl_xLeadId.f, Option.bind_some]
  have hq := idx_lt id xs 0
  have e : idxP25 (fun x => x.f0 == id) xs 0 = idx id xs 0 := rfl
  rw [e]
  generalize hQ : idx id xs 0 = q at hq ⊢
  refine Evn.bind (im_AreLeads xs hx) ?_
  unfold chgs
  rw [hQ]
  refine Evn.ite (fun c => ?_) (fun c => by rw [if_neg (fun h => c h.1)]; exact Evn.done _)
  refine Evn.ite (fun c1 => ?_) (fun c1 => ?_)
  · have : chg xs st q = ([], false) := by unfold chg; rw [if_neg (by omega)]
    rw [this]
    refine (Evn.done _).eq_ ?_
    split <;> rfl
  · simp only [impl_isState.f, im_within, Option.bind_some, im_canBecome, impl_Lead_56.f]
    have hl := goodLeads_len c
    have h0 : 0 ≤ q := by omega
    have h1 : q < (xs.length : Int) := by omega
    have h3 : xs.length * 40 ≤ 140737488351232 := by omega
    refine Evn.ite (fun c2 => ?_) (fun c2 => ?_)
    · rw [if_pos (show goodLeads xs = true ∧ (0 ≤ st ∧ st ≤ 3) from ⟨c, of_decide_eq_true c2⟩)]
      simp only [if_pos h0, if_pos h1, if_pos h3, Option.bind_some, rd_T25]
      unfold chg
      rw [if_pos h0]
      refine Evn.ite (fun c4 => ?_) (fun c4 => ?_)
      · rw [if_pos c4]; exact Evn.done _
      · rw [if_neg c4]; exact Evn.done _
    · rw [if_neg (show ¬ (goodLeads xs = true ∧ (0 ≤ st ∧ st ≤ 3)) from fun h => c2 (decide_eq_true h.2))]
      exact Evn.done _

theorem im_worth (x : S25) : impl_Lead_worth.f x.f0 x.f1 x.f2 x.f3 x.f4 = some (wth x) := rfl
theorem im_closed (x : S25) : impl_ranked_1.f x.f0 x.f1 x.f2 x.f3 x.f4 = some (!decide (x.f4 = 0)) := by
  unfold impl_ranked_1.f
  by_cases h : x.f4 = 0 <;> simp [h]
theorem im_cmp (x y : S25) : ∃ c, impl_ranked_2.f x.f0 x.f1 x.f2 x.f3 x.f4 y.f0 y.f1 y.f2 y.f3 y.f4 = some c ∧ (c < 0 ↔ wth y < wth x) := by
  simp only [impl_ranked_2.f, im_worth, Option.bind_some, cmp_Compare_int.f, cmp_isNaN_int.f, bne_self_eq_false, Bool.false_eq_true, if_false]
  by_cases h1 : wth y < wth x
  · exact ⟨-1, by rw [if_pos h1]; rfl, by omega⟩
  · by_cases h2 : wth y > wth x
    · exact ⟨1, by rw [if_neg h1, if_pos h2]; rfl, by omega⟩
    · exact ⟨0, by rw [if_neg h1, if_neg h2]; rfl, by omega⟩
/-! The first closed lead. -/
def idxC (l : List S25) : Nat → Nat → Int
  | 0, _ => -1
  | d + 1, i => if (l.getD i z25).f4 = 0 then idxC l d (i + 1) else (i : Int)
theorem im_index (l : List S25) (hl : l.length ≤ 4194304) : ∀ (d i : Nat), i + d = l.length → Evn (fun k => impl_Lead_53.l0 k l (l.length : Int) (i : Int)) (idxC l d i) := by
  intro d
  induction d with
  | zero =>
    intro i h
    refine Evn.step ?_
    have h1 : ¬ (i : Int) < (l.length : Int) := by omega
    simp only [impl_Lead_53.l0, if_neg h1, idxC]
    exact Evn.done _
  | succ d ih =>
    intro i h
    refine Evn.step ?_
    have h1 : (i : Int) < (l.length : Int) := by omega
    have h2 : 0 ≤ (i : Int) := by omega
    simp only [impl_Lead_53.l0, if_pos h1, if_pos h2, rd_T25, Int.toNat_natCast, im_closed, Option.bind_some, idxC, wrap_succ (show i < 4611686018427387904 by omega)]
    by_cases c : (l.getD i z25).f4 = 0
    · simp only [decide_eq_true c, Bool.not_true, Bool.false_eq_true, if_false, if_pos c]
      exact ih (i + 1) (by omega)
    · simp only [decide_eq_false c, Bool.not_false, if_true, if_neg c]
      exact Evn.done _
theorem idxC_spec (l : List S25) : ∀ (d i : Nat), i + d = l.length → (idxC l d i = -1 ∧ openL (l.drop i) = l.drop i) ∨ ∃ j : Nat, idxC l d i = (j : Int) ∧ i ≤ j ∧ j < l.length ∧ ¬ (l.getD j z25).f4 = 0 ∧ openL ((l.take j).drop i) = (l.take j).drop i := by
  intro d
  induction d with
  | zero =>
    intro i h
    left
    rw [List.drop_eq_nil_of_le (by omega)]
    exact ⟨rfl, rfl⟩
  | succ d ih =>
    intro i h
    unfold idxC
    by_cases c : (l.getD i z25).f4 = 0
    · rw [if_pos c]
      rcases ih (i + 1) (by omega) with ⟨h1, h2⟩ | ⟨j, h1, h2, h3, h4, h5⟩
      · left
        refine ⟨h1, ?_⟩
        rw [getD_drop l i z25 (by omega)]
        unfold openL at h2 ⊢
        rw [List.filter_cons, if_pos (by simpa using c), h2]
      · right
        refine ⟨j, h1, by omega, h3, h4, ?_⟩
        have hg : (l.take j).getD i z25 = l.getD i z25 := by rw [List.getD_eq_getElem?_getD, List.getElem?_take, if_pos (by omega), List.getD_eq_getElem?_getD]
        rw [getD_drop (l.take j) i z25 (by rw [List.length_take]; omega), hg]
        unfold openL at h5 ⊢
        rw [List.filter_cons, if_pos (by simpa using c), h5]
    · rw [if_neg c]
      right
      refine ⟨i, rfl, Nat.le_refl _, by omega, c, ?_⟩
      rw [List.drop_eq_nil_of_le (by rw [List.length_take]; omega)]
      rfl
theorem openL_snoc (l : List S25) (j : Nat) (hj : j < l.length) : openL (l.take (j + 1)) = if (l.getD j z25).f4 = 0 then openL (l.take j) ++ [l.getD j z25] else openL (l.take j) := by
  have h : l.take (j + 1) = l.take j ++ [l.getD j z25] := by
    rw [List.take_succ_eq_append_getElem hj, List.getD_eq_getElem?_getD, List.getElem?_eq_getElem hj]
    rfl
  unfold openL
  rw [h, List.filter_append]
  by_cases c : (l.getD j z25).f4 = 0
  · rw [if_pos c, List.filter_cons, if_pos (by simpa using c)]
    rfl
  · rw [if_neg c, List.filter_cons, if_neg (by simpa using c)]
    simp
theorem eta_lead (x : S25) : (⟨x.f0, x.f1, x.f2, x.f3, x.f4⟩ : S25) = x := rfl
theorem im_del_l0 (l : List S25) (hl : l.length ≤ 4194304) : ∀ (d j i : Nat) (X : List S25), j + d = l.length → i ≤ j → X.length = l.length → X.take i = openL (l.take j) → X.drop j = l.drop j → Evn (fun k => impl_Lead_66.l0 k X (i : Int) (j : Int)) (openL l) := by
  intro d
  induction d with
  | zero =>
    intro j i X h hij hX ht _
    refine Evn.step ?_
    have h1 : ¬ (j : Int) < (X.length : Int) := by omega
    have h2 : 0 ≤ (i : Int) := by omega
    have h3 : (i : Int) ≤ (X.length : Int) := by omega
    simp only [impl_Lead_66.l0, if_neg h1, if_pos h2, if_pos h3, Int.toNat_natCast, ht]
    rw [List.take_of_length_le (by omega)]
    exact Evn.done _
  | succ d ih =>
    intro j i X h hij hX ht hd
    refine Evn.step ?_
    have h1 : (j : Int) < (X.length : Int) := by omega
    have h2 : 0 ≤ (j : Int) := by omega
    have h3 : 0 ≤ (i : Int) := by omega
    have h4 : (i : Int) < (X.length : Int) := by omega
    have hx : X.getD j z25 = l.getD j z25 := by
      have e := congrArg (fun t => t[0]?) hd
      simp only [List.getElem?_drop, Nat.add_zero] at e
      rw [List.getD_eq_getElem?_getD, List.getD_eq_getElem?_getD, e]
    have hs : X.drop (j + 1) = l.drop (j + 1) := by
      have e := congrArg (List.drop 1) hd
      rw [List.drop_drop, List.drop_drop] at e
      exact e
    have hn := openL_snoc l j (by omega)
    simp only [impl_Lead_66.l0, if_pos h1, if_pos h2, if_pos h3, if_pos h4, rd_T25, Int.toNat_natCast, im_closed, Option.bind_some, eta_lead, hx, wrap_succ (show j < 4611686018427387904 by omega), wrap_succ (show i < 4611686018427387904 by omega)]
    by_cases c : (l.getD j z25).f4 = 0
    · simp only [decide_eq_true c, Bool.not_true, Bool.false_eq_true, if_false]
      rw [if_pos c] at hn
      refine ih (j + 1) (i + 1) _ (by omega) (by omega) (by rw [List.length_set]; exact hX) ?_ ?_
      · rw [set_take X i _ (by omega), ht, hn]
      · rw [← hs]
        apply List.ext_getElem?
        intro q
        rw [List.getElem?_drop, List.getElem?_drop, List.getElem?_set_ne (by omega)]
    · simp only [decide_eq_false c, Bool.not_false, if_true]
      rw [if_neg c] at hn
      exact ih (j + 1) i X (by omega) (by omega) hX (by rw [hn, ht]) hs
theorem im_delete (l : List S25) (a : Int) (hl : l.length ≤ 4194304) : Evn (fun k => impl_Lead_66.f k l a) (openL l) := by
  unfold impl_Lead_66.f impl_Lead_53.f
  refine Evn.bind (im_index l hl l.length 0 (by omega)) ?_
  rcases idxC_spec l l.length 0 (by omega) with ⟨h1, h2⟩ | ⟨j, h1, h2, h3, h4, h5⟩
  · rw [h1, List.drop_zero] at *
    simp only [if_true]
    rw [h2]
    exact Evn.done _
  · rw [h1]
    have hn : ¬ (j : Int) = -1 := by omega
    simp only [if_neg hn, wrap_succ (show j < 4611686018427387904 by omega)]
    rw [List.drop_zero] at h5
    have hn2 := openL_snoc l j h3
    rw [if_neg h4, h5] at hn2
    exact im_del_l0 l hl (l.length - (j + 1)) (j + 1) j l (by omega) (by omega) rfl hn2.symm rfl
/-! The insertion sort. -/
theorem im_sort_l1 (i n : Nat) (hn : n ≤ 1000) (hi : i < n) (S R : List S25) (x : S25) (hS : S.length = i) (hR : R.length + i + 1 = n) (r : List S25) : ∀ p, p ≤ i → Evn (fun k => impl_Lead_76.l0 k (insP x S (posR wth z25 x S p) ++ R) 0 (n : Int) ((i + 1 : Nat) : Int)) r → Evn (fun k => impl_Lead_76.l1 k (insP x S p ++ R) 0 (n : Int) (i : Int) (p : Int)) r
  | 0, _, h => by
    refine Evn.step ?_
    have h1 : ¬ ((0 : Nat) : Int) > 0 := by omega
    simp only [impl_Lead_76.l1, if_neg h1, wrap_succ (show i < 4611686018427387904 by omega)]
    exact h
  | p + 1, hp, h => by
    refine Evn.step ?_
    have ih := im_sort_l1 i n hn hi S R x hS hR r p (by omega)
    have hA : (S.take p).length = p := by rw [List.length_take]; omega
    have e1 : insP x S (p + 1) ++ R = S.take p ++ S.getD p z25 :: x :: (S.drop (p + 1) ++ R) := by
      unfold insP
      have ht : S.take (p + 1) = S.take p ++ [S.getD p z25] := by
        rw [List.take_succ_eq_append_getElem (by omega), List.getD_eq_getElem?_getD, List.getElem?_eq_getElem (by omega)]
        rfl
      rw [ht]
      simp
    have e2 : insP x S p ++ R = S.take p ++ x :: S.getD p z25 :: (S.drop (p + 1) ++ R) := by
      unfold insP
      rw [getD_drop S p z25 (by omega)]
      simp
    have hl : (insP x S (p + 1) ++ R).length = n := by rw [List.length_append, insP_len]; omega
    have g1 : (insP x S (p + 1) ++ R).getD (p + 1) z25 = x := by
      rw [e1, show S.take p ++ S.getD p z25 :: x :: (S.drop (p + 1) ++ R) = (S.take p ++ [S.getD p z25]) ++ x :: (S.drop (p + 1) ++ R) from by simp]
      have := getD_mid (S.take p ++ [S.getD p z25]) (S.drop (p + 1) ++ R) x z25
      rwa [List.length_append, hA, List.length_singleton] at this
    have g2 : (insP x S (p + 1) ++ R).getD p z25 = S.getD p z25 := by
      rw [e1]
      have := getD_mid (S.take p) (x :: (S.drop (p + 1) ++ R)) (S.getD p z25) z25
      rwa [hA] at this
    have g3 : ((insP x S (p + 1) ++ R).set (p + 1) (S.getD p z25)).set p x = insP x S p ++ R := by
      rw [e1, e2]
      have := swap_at (S.take p) (S.drop (p + 1) ++ R) (S.getD p z25) x
      rwa [hA] at this
    obtain ⟨c, hc, hcc⟩ := im_cmp x (S.getD p z25)
    simp only [posR] at h
    have h1 : ((p + 1 : Nat) : Int) > 0 := by omega
    have h2 : 0 ≤ ((p + 1 : Nat) : Int) := by omega
    have h3 : ((p + 1 : Nat) : Int) < ((insP x S (p + 1) ++ R).length : Int) := by omega
    have h4 : 0 ≤ (p : Int) := by omega
    have h5 : (p : Int) < ((insP x S (p + 1) ++ R).length : Int) := by omega
    have hw := wrap_pred (show p < 4611686018427387904 by omega)
    clear e1 e2 hl
    obtain ⟨D, hD⟩ : ∃ D, insP x S (p + 1) ++ R = D := ⟨_, rfl⟩
    rw [hD] at g1 g2 g3 h3 h5 ⊢
    simp only [impl_Lead_76.l1, if_pos h1, if_pos h2, if_pos h3, hw, if_pos h4, if_pos h5, rd_T25, Int.toNat_natCast, g1, g2, hc, Option.bind_some, eta_lead, g3, wrap_succ (show i < 4611686018427387904 by omega)]
    by_cases cc : c < 0
    · rw [if_pos (hcc.1 cc)] at h
      simp only [if_pos cc]
      exact ih h
    · rw [if_neg (fun hh => cc (hcc.2 hh)), hD] at h
      simp only [if_neg cc]
      exact h
theorem im_sort_l0 (F : List S25) (hF : F.length ≤ 1000) : ∀ (d i : Nat), i + d = F.length → Evn (fun k => impl_Lead_76.l0 k (sortR wth z25 (F.take i) ++ F.drop i) 0 (F.length : Int) (i : Int)) (sortR wth z25 F) := by
  intro d
  induction d with
  | zero =>
    intro i h
    refine Evn.step ?_
    have h1 : ¬ (i : Int) < (F.length : Int) := by omega
    simp only [impl_Lead_76.l0, if_neg h1]
    rw [List.take_of_length_le (by omega), List.drop_eq_nil_of_le (by omega), List.append_nil]
    exact Evn.done _
  | succ d ih =>
    intro i h
    refine Evn.step ?_
    have h1 : (i : Int) < (F.length : Int) := by omega
    simp only [impl_Lead_76.l0, if_pos h1]
    have hS : (sortR wth z25 (F.take i)).length = i := by rw [sortR_len, List.length_take]; omega
    have e : sortR wth z25 (F.take i) ++ F.drop i = insP (F.getD i z25) (sortR wth z25 (F.take i)) i ++ F.drop (i + 1) := by
      rw [getD_drop F i z25 (by omega)]
      generalize sortR wth z25 (F.take i) = S at hS
      unfold insP
      rw [List.take_of_length_le (show S.length ≤ i by omega), List.drop_eq_nil_of_le (show S.length ≤ i by omega)]
      simp
    rw [e]
    refine im_sort_l1 i F.length hF (by omega) _ (F.drop (i + 1)) _ hS (by rw [List.length_drop]; omega) _ i (Nat.le_refl _) ?_
    have h2 := ih (i + 1) (by omega)
    have ht : F.take (i + 1) = F.take i ++ [F.getD i z25] := by
      rw [List.take_succ_eq_append_getElem (by omega), List.getD_eq_getElem?_getD, List.getElem?_eq_getElem (by omega)]
      rfl
    rw [ht, sortR_snoc] at h2
    unfold insR at h2
    rw [hS] at h2
    exact h2
theorem im_sort (F : List S25) (a : Int) (hF : F.length < 20) : Evn (fun k => impl_Lead_68.f k F a) (sortR wth z25 F) := by
  have h0 : (F.length : Int) < 20 := by omega
  unfold impl_Lead_68.f impl_Lead_74.f impl_Lead_76.f
  simp only [if_pos h0]
  refine Evn.bind (Evn.bind ?_ (Evn.done _)) (Evn.done _)
  have hw : wrap64 ((0 : Int) + 1) = ((1 : Nat) : Int) := by rw [wrap_id (by omega) (by omega)]; rfl
  rw [hw]
  rcases F with _ | ⟨x, F⟩
  · refine Evn.step ?_
    have h1 : ¬ ((1 : Nat) : Int) < ((([] : List S25).length : Nat) : Int) := by simp
    simp only [impl_Lead_76.l0, if_neg h1]
    exact Evn.done _
  · have h := im_sort_l0 (x :: F) (by omega) F.length 1 (by rw [List.length_cons]; omega)
    exact h
theorem im_ranked (l : List S25) (hl : l.length < 20) : Evn (fun k => impl_ranked.f k l) (rankL l) := by
  unfold impl_ranked.f
  have hc : impl_Lead_56.f l = some l := by unfold impl_Lead_56.f; rw [if_pos (by omega)]
  simp only [hc, Option.bind_some]
  refine Evn.bind (im_delete l 0 (by omega)) ?_
  refine Evn.bind (im_sort _ 0 ?_) (Evn.done _)
  have : (openL l).length ≤ l.length := List.length_filter_le _ _
  omega

theorem im_BestLead (l : List S25) (hl : l.length ≤ 1048576) : Evn (fun k => impl_BestLead.f k l) (bestM l) := by
  unfold impl_BestLead.f
  refine Evn.bind (im_AreLeads l hl) ?_
  unfold bestM
  refine Evn.ite (fun c => ?_) (fun c => ?_)
  · have hg := goodLeads_len c
    rw [if_pos c]
    refine Evn.bind (im_ranked l (by omega)) ?_
    generalize rankL l = R
    cases R with
    | nil => exact Evn.done _
    | cons x R =>
      have h1 : ¬ (((x :: R).length : Nat) : Int) = 0 := by rw [List.length_cons]; omega
      have h2 : (0 : Int) < (((x :: R).length : Nat) : Int) := by rw [List.length_cons]; omega
      simp only [if_neg h1, if_pos h2]
      exact Evn.done _
  · rw [if_neg c]
    exact Evn.done _

theorem im_RankLeads_l0 (R : List S25) (hR : R.length ≤ 1000000) : ∀ (d i : Nat) (zs : List Int), i + d = R.length → zs.length = i → Evn (fun k => impl_RankLeads.l0 k zs R (R.length : Int) (i : Int)) (zs ++ (R.drop i).map (fun x => x.f0), true) := by
  intro d
  induction d with
  | zero =>
    intro i zs h hz
    refine Evn.step ?_
    have h1 : ¬ (i : Int) < (R.length : Int) := by omega
    simp only [impl_RankLeads.l0, if_neg h1]
    rw [List.drop_eq_nil_of_le (by omega)]
    simpa using Evn.done _
  | succ d ih =>
    intro i zs h hz
    refine Evn.step ?_
    have h1 : (i : Int) < (R.length : Int) := by omega
    have h2 : 0 ≤ (i : Int) := by omega
    rw [getD_drop R i z25 (by omega)]
    simp only [impl_RankLeads.l0, if_pos h1, if_pos h2, rd_T25, Int.toNat_natCast, wrap_succ (show i < 4611686018427387904 by omega)]
    refine Evn.ite (fun _ => (ih (i + 1) _ (by omega) (by simp [hz])).eq_ ?_) (fun c' => absurd (by omega) c')
    simp
theorem im_RankLeads (l : List S25) (hl : l.length ≤ 1048576) : Evn (fun k => impl_RankLeads.f k l) (rkM l) := by
  unfold impl_RankLeads.f
  refine Evn.bind (im_AreLeads l hl) ?_
  unfold rkM
  refine Evn.ite (fun c => ?_) (fun c => ?_)
  · have hg := goodLeads_len c
    rw [if_pos c]
    refine Evn.bind (im_ranked l (by omega)) ?_
    have hk := rankL_len l
    have h := im_RankLeads_l0 (rankL l) (by omega) (rankL l).length 0 [] (by omega) rfl
    rw [List.drop_zero, List.nil_append] at h
    exact h
  · rw [if_neg c]
    exact Evn.done _

theorem im_TripFor_l0 (e m : Int) (R : List S25) (hR : R.length ≤ 1000000) : ∀ (d i : Nat) (zs : List Int), i + d = R.length → zs.length ≤ i → Evn (fun k => impl_TripFor.l0 k e m zs R (R.length : Int) (i : Int)) (trF e m (R.drop i) zs, true) := by
  intro d
  induction d with
  | zero =>
    intro i zs h hz
    refine Evn.step ?_
    have h1 : ¬ (i : Int) < (R.length : Int) := by omega
    simp only [impl_TripFor.l0, if_neg h1]
    rw [List.drop_eq_nil_of_le (by omega)]
    exact Evn.done _
  | succ d ih =>
    intro i zs h hz
    refine Evn.step ?_
    have h1 : (i : Int) < (R.length : Int) := by omega
    have h2 : 0 ≤ (i : Int) := by omega
    rw [getD_drop R i z25 (by omega), trF_cons]
    simp only [impl_TripFor.l0, if_pos h1, if_pos h2, rd_T25, Int.toNat_natCast, wrap_succ (show i < 4611686018427387904 by omega)]
    refine Evn.ite (fun c => ?_) (fun c => ?_)
    · refine Evn.ite (fun c2 => Evn.ite (fun _ => ?_) (fun c3 => absurd (by omega) c3)) (fun c2 => ?_)
      · rw [if_pos ⟨c, c2⟩]
        exact ih (i + 1) _ (by omega) (by rw [List.length_append, List.length_singleton]; omega)
      · rw [if_neg (fun hh => c2 hh.2)]
        exact ih (i + 1) _ (by omega) (by omega)
    · rw [if_neg (fun hh => c hh.1)]
      exact ih (i + 1) _ (by omega) (by omega)
theorem im_TripFor (l : List S25) (e m : Int) (hl : l.length ≤ 1048576) : Evn (fun k => impl_TripFor.f k l e m) (tripM l e m) := by
  unfold impl_TripFor.f
  have no : ¬ (goodLeads l = true ∧ (1 ≤ e ∧ e ≤ 9) ∧ (0 ≤ m ∧ m ≤ 12)) → Evn (fun k => impl_TripFor.j0 k l e m true) (tripM l e m) := by
    intro hn
    refine Evn.step ?_
    simp only [impl_TripFor.j0, if_true]
    unfold tripM
    rw [if_neg hn]
    exact Evn.done _
  refine Evn.bind (im_AreLeads l hl) ?_
  refine Evn.ite (fun c => ?_) (fun c => no (fun h => c h.1))
  simp only [impl_isGrade.f, im_within, Option.bind_some]
  refine Evn.ite (fun c1 => ?_) (fun c1 => no (fun h => c1 (decide_eq_true h.2.1)))
  by_cases c2 : 0 ≤ m ∧ m ≤ 12
  · rw [decide_eq_true c2]
    refine Evn.step ?_
    simp only [impl_TripFor.j0, Bool.not_true, Bool.false_eq_true, if_false]
    have hg := goodLeads_len c
    refine Evn.bind (im_ranked l (by omega)) ?_
    unfold tripM
    rw [if_pos ⟨c, of_decide_eq_true c1, c2⟩]
    have hk := rankL_len l
    have h := im_TripFor_l0 e m (rankL l) (by omega) (rankL l).length 0 [] (by omega) (by simp)
    rw [List.drop_zero] at h
    exact h
  · rw [decide_eq_false c2]
    exact no (fun h => c2 h.2.2)

theorem ev_rInts_l0 (xs ys : List Int) (e : xs = ys) : ∀ (D i : Nat), i + D = xs.length → xs.length ≤ 4611686018427387904 → Evn (fun k => laws_rInts.l0 k xs ys (i : Int)) true := by
  subst e
  intro D
  induction D with
  | zero =>
    intro i h hx
    refine Evn.step ?_
    have h1 : ¬ (i : Int) < (xs.length : Int) := by omega
    simp only [laws_rInts.l0, if_neg h1]
    exact Evn.done _
  | succ D ih =>
    intro i h hx
    refine Evn.step ?_
    have h1 : (i : Int) < (xs.length : Int) := by omega
    have h2 : 0 ≤ (i : Int) := by omega
    simp only [laws_rInts.l0, if_pos h1, if_pos h2, if_true, wrap_succ (show i < 4611686018427387904 by omega)]
    exact ih (i + 1) (by omega) hx
theorem ev_rInts (xs : List Int) (hx : xs.length ≤ 4611686018427387904) : Evn (fun k => laws_rInts.f k xs xs) true := by
  unfold laws_rInts.f
  simp only [if_true]
  exact ev_rInts_l0 xs xs rfl xs.length 0 (by omega) hx

theorem ev_rHas_l0 (xs : List Int) (x : Int) : ∀ (D i : Nat), i + D = xs.length → xs.length ≤ 4611686018427387904 → Evn (fun k => laws_rHas.l0 k xs x (i : Int)) ((xs.drop i).contains x) := by
  intro D
  induction D with
  | zero =>
    intro i h hx
    refine Evn.step ?_
    have h1 : ¬ (i : Int) < (xs.length : Int) := by omega
    simp only [laws_rHas.l0, if_neg h1]
    rw [List.drop_eq_nil_of_le (by omega)]
    exact Evn.done _
  | succ D ih =>
    intro i h hx
    refine Evn.step ?_
    have h1 : (i : Int) < (xs.length : Int) := by omega
    have h2 : 0 ≤ (i : Int) := by omega
    simp only [laws_rHas.l0, if_pos h1, if_pos h2, wrap_succ (show i < 4611686018427387904 by omega)]
    have e : rd xs (i : Int) = xs.getD i 0 := rfl
    rw [getD_drop xs i 0 (by omega), e, List.contains_cons]
    refine Evn.ite (fun c => ?_) (fun c => ?_)
    · rw [c, beq_self_eq_true, Bool.true_or]; exact Evn.done _
    · rw [beq_eq_false_iff_ne.mpr (Ne.symm c), Bool.false_or]; exact ih (i + 1) (by omega) hx
theorem ev_rHas (xs : List Int) (x : Int) (hx : xs.length ≤ 4611686018427387904) : Evn (fun k => laws_rHas.f k xs x) (xs.contains x) := by
  have h := ev_rHas_l0 xs x xs.length 0 (by omega) hx
  rw [List.drop_zero] at h
  exact h

theorem ev_rLeads_l0 (xs : List S25) : ∀ (D i : Nat), i + D = xs.length → xs.length ≤ 4194304 → Evn (fun k => laws_rLeads.l0 k xs xs (i : Int)) true := by
  intro D
  induction D with
  | zero =>
    intro i h hx
    refine Evn.step ?_
    have h1 : ¬ (i : Int) < (xs.length : Int) := by omega
    simp only [laws_rLeads.l0, if_neg h1]
    exact Evn.done _
  | succ D ih =>
    intro i h hx
    refine Evn.step ?_
    have h1 : (i : Int) < (xs.length : Int) := by omega
    have h2 : 0 ≤ (i : Int) := by omega
    simp only [laws_rLeads.l0, if_pos h1, if_pos h2, beq_self_eq_true, Bool.not_true, Bool.or_self, Bool.false_eq_true, if_false, wrap_succ (show i < 4611686018427387904 by omega)]
    exact ih (i + 1) (by omega) hx
theorem ev_rLeads (xs : List S25) (hx : xs.length ≤ 4194304) : Evn (fun k => laws_rLeads.f k xs xs) true := by
  unfold laws_rLeads.f
  simp only [if_true]
  exact ev_rLeads_l0 xs xs.length 0 (by omega) hx

/-! The trip's leads stand in the order; it takes no more than there is room for; a lead that is taken leaves the order. -/
theorem trF_most (e m : Int) : ∀ (R : List S25) (zs : List Int), (zs.length : Int) ≤ m → ((trF e m R zs).length : Int) ≤ m
  | [], _, h => h
  | x :: R, zs, h => by
    rw [trF_cons]
    refine trF_most e m R _ ?_
    split
    · rename_i c
      rw [List.length_append, List.length_singleton]
      omega
    · exact h
theorem trF_sub (e m : Int) : ∀ (R : List S25) (zs : List Int), ∃ S : List Int, trF e m R zs = zs ++ S ∧ S.Sublist (R.map (fun x => x.f0))
  | [], zs => ⟨[], (List.append_nil zs).symm, List.Sublist.refl _⟩
  | x :: R, zs => by
    rw [trF_cons, List.map_cons]
    split
    · obtain ⟨S, h1, h2⟩ := trF_sub e m R (zs ++ [x.f0])
      exact ⟨x.f0 :: S, by rw [h1, List.append_assoc]; rfl, h2.cons_cons _⟩
    · obtain ⟨S, h1, h2⟩ := trF_sub e m R zs
      exact ⟨S, h1, h2.cons _⟩
theorem rank_mem {l : List S25} {y : S25} (h : y ∈ rankL l) : y ∈ openL l := by
  have key : ∀ (l ys : List S25), y ∈ l.foldl (fun ys x => insR wth z25 x ys) ys → y ∈ ys ∨ y ∈ l := by
    intro l
    induction l with
    | nil => intro ys h; exact Or.inl h
    | cons x l ih =>
      intro ys h
      rcases ih _ h with h | h
      · rcases insP_mem _ _ _ _ h with rfl | h
        · exact Or.inr List.mem_cons_self
        · exact Or.inl h
      · exact Or.inr (List.mem_cons_of_mem _ h)
  unfold rankL sortR at h
  rcases key _ _ h with h | h
  · cases h
  · exact h
theorem open_len (A B : List S25) (x x' : S25) (h : x.f4 = 0) (h' : x'.f4 ≠ 0) : (openL (A ++ x :: B)).length = (openL (A ++ x' :: B)).length + 1 := by
  unfold openL
  rw [List.filter_append, List.filter_append, List.filter_cons, List.filter_cons, if_pos (decide_eq_true h), if_neg (by rw [decide_eq_false h']; decide)]
  simp only [List.length_append, List.length_cons]
  omega

theorem byts_of {l : List Int} (h : ∀ x ∈ l, (Lit.int .u8 x).wf = true) : Byts l := by
  intro x hx
  have h1 := h x hx
  simp [Lit.wf, IntKind.min, IntKind.max, IntKind.signed, IntKind.bits] at h1
  omega

theorem chgs_len (xs : List S25) (id st : Int) : (chgs xs id st).1.length ≤ xs.length := by
  unfold chgs
  split
  · unfold chg
    split
    · split
      · dsimp only; rw [List.length_set]; exact Nat.le_refl _
      · exact Nat.zero_le _
    · exact Nat.zero_le _
  · exact Nat.zero_le _
theorem drop_at' {α : Type} (l : List α) (i : Nat) (z : α) (h : i < l.length) : l.drop i = l.getD i z :: l.drop (i + 1) := by
  have e : l.getD i z = l[i] := by rw [List.getD_eq_getElem?_getD, List.getElem?_eq_getElem h]; rfl
  rw [e]
  exact List.drop_eq_getElem_cons h
theorem idx_at {L : List S25} (g : goodLeads L = true) (q : Nat) (hq : q < L.length) : ∀ (d i : Nat), i + d = q → idx (L.getD q z25).f0 (L.drop i) (i : Int) = (q : Int) := by
  intro d
  induction d with
  | zero =>
    intro i h
    obtain rfl : i = q := by omega
    rw [drop_at' L i z25 hq]
    unfold idx
    show (if ((L.getD i z25).f0 == (L.getD i z25).f0) = true then (i : Int) else _) = _
    rw [beq_self_eq_true, if_pos rfl]
  | succ d ih =>
    intro i h
    have hlt := goodLeads_lt g i q (by omega) hq
    rw [drop_at' L i z25 (by omega)]
    unfold idx
    show (if ((L.getD i z25).f0 == (L.getD q z25).f0) = true then (i : Int) else idx (L.getD q z25).f0 (L.drop (i + 1)) ((i : Int) + 1)) = _
    rw [if_neg (by rw [beq_eq_false_iff_ne.2 (by omega)]; decide)]
    exact ih (i + 1) (by omega)
theorem set_get (L : List S25) (q : Nat) (y : S25) (hq : q < L.length) (j : Nat) : (L.set q y).getD j z25 = if j = q then y else L.getD j z25 := by
  rw [List.getD_eq_getElem?_getD, List.getElem?_set, List.getD_eq_getElem?_getD]
  by_cases h : j = q
  · subst h
    rw [if_pos rfl, if_pos rfl, if_pos hq]
    rfl
  · rw [if_neg (fun e => h e.symm), if_neg h]
theorem good_set {L : List S25} (q : Nat) (hq : q < L.length) (y : S25) (h0 : y.f0 = (L.getD q z25).f0) (ho : okLead y = true) : ∀ d i, goodLead L d i = true → goodLead (L.set q y) d i = true := by
  have hf : ∀ j, ((L.set q y).getD j z25).f0 = (L.getD j z25).f0 := by
    intro j
    rw [set_get L q y hq j]
    split
    · rename_i e; rw [e]; exact h0
    · rfl
  intro d
  induction d with
  | zero => intro i h; simpa [goodLead] using h
  | succ d ih =>
    intro i h
    unfold goodLead at h ⊢
    rw [Bool.and_eq_true, Bool.and_eq_true] at h ⊢
    refine ⟨⟨?_, ?_⟩, ih (i + 1) h.2⟩
    · rw [set_get L q y hq i]
      split
      · exact ho
      · exact h.1.1
    · rw [hf, hf]
      exact h.1.2
theorem taken {L : List S25} (g : goodLeads L = true) {x : S25} {R : List S25} (hr : rankL L = x :: R) : ∃ t, chgs L x.f0 1 = (t, true) ∧ goodLeads t = true ∧ t.length = L.length ∧ (rankL t).length = R.length ∧ ((rankL t).map (fun x => x.f0)).contains x.f0 = false := by
  have hx : x ∈ openL L := rank_mem (by rw [hr]; exact List.mem_cons_self)
  unfold openL at hx
  obtain ⟨hxL, hx4⟩ := List.mem_filter.1 hx
  have hx4 := of_decide_eq_true hx4
  obtain ⟨q, hq, hqe⟩ := List.getElem_of_mem hxL
  have hqd : L.getD q z25 = x := by rw [List.getD_eq_getElem?_getD, List.getElem?_eq_getElem hq, hqe]; rfl
  have hi := idx_at g q hq q 0 (by omega)
  rw [hqd, List.drop_zero] at hi
  have hok := goodLeads_ok g q hq
  rw [hqd] at hok
  have hoy : okLead (⟨x.f0, x.f1, x.f2, x.f3, 1⟩ : S25) = true := by
    unfold okLead at hok ⊢
    simp only [Bool.and_eq_true, decide_eq_true_eq] at hok ⊢
    exact ⟨hok.1, hok.2.1, hok.2.2.1, hok.2.2.2.1, by omega⟩
  have hg2 : goodLeads (L.set q (⟨x.f0, x.f1, x.f2, x.f3, 1⟩ : S25)) = true := by
    unfold goodLeads at g ⊢
    rw [List.length_set]
    exact good_set q hq _ (by rw [hqd]) hoy _ _ g
  have hL : L = L.take q ++ x :: L.drop (q + 1) := by
    have h1 := drop_at' L q z25 hq
    rw [hqd] at h1
    rw [← h1, List.take_append_drop]
  have hT : L.set q (⟨x.f0, x.f1, x.f2, x.f3, 1⟩ : S25) = L.take q ++ (⟨x.f0, x.f1, x.f2, x.f3, 1⟩ : S25) :: L.drop (q + 1) := by
    rw [List.set_eq_take_append_cons_drop, if_pos hq]
  refine ⟨L.set q (⟨x.f0, x.f1, x.f2, x.f3, 1⟩ : S25), ?_, hg2, List.length_set, ?_, ?_⟩
  · unfold chgs
    rw [if_pos ⟨g, by decide, by decide⟩]
    have hi' : idx x.f0 L 0 = (q : Int) := hi
    rw [hi']
    unfold chg
    rw [if_pos (by omega), Int.toNat_natCast, hqd, hx4, if_pos (by decide)]
  · have h1 : (rankL L).length = (openL L).length := sortR_len _ _ _
    have h2 : (rankL (L.set q (⟨x.f0, x.f1, x.f2, x.f3, 1⟩ : S25))).length = (openL (L.set q (⟨x.f0, x.f1, x.f2, x.f3, 1⟩ : S25))).length := sortR_len _ _ _
    have h3 := open_len (L.take q) (L.drop (q + 1)) x ⟨x.f0, x.f1, x.f2, x.f3, 1⟩ hx4 (show (1 : Int) ≠ 0 by decide)
    rw [← hL, ← hT] at h3
    rw [hr, List.length_cons] at h1
    omega
  · refine Bool.eq_false_iff.mpr fun hc => ?_
    rw [List.contains_iff_mem] at hc
    obtain ⟨y, hy, hye⟩ := List.mem_map.1 hc
    have hyo := rank_mem hy
    unfold openL at hyo
    obtain ⟨hyt, hy4⟩ := List.mem_filter.1 hyo
    have hy4 := of_decide_eq_true hy4
    obtain ⟨j, hj, hje⟩ := List.getElem_of_mem hyt
    have hjL : j < L.length := by rw [List.length_set] at hj; exact hj
    have hjd : (L.set q (⟨x.f0, x.f1, x.f2, x.f3, 1⟩ : S25)).getD j z25 = y := by rw [List.getD_eq_getElem?_getD, List.getElem?_eq_getElem hj, hje]; rfl
    rw [set_get L q _ hq j] at hjd
    by_cases e : j = q
    · rw [if_pos e] at hjd
      rw [← hjd] at hy4
      exact absurd hy4 (show ¬ (1 : Int) = 0 by decide)
    · rw [if_neg e] at hjd
      have hf : (L.getD j z25).f0 = (L.getD q z25).f0 := by rw [hjd, hqd]; exact hye
      rcases Nat.lt_or_ge j q with hlt | hge
      · have := goodLeads_lt g j q hlt hq; omega
      · have := goodLeads_lt g q j (by omega) hjL; omega
theorem FnLeadTrips : laws_FnLeadTrips.Pure := by
  intro l hl _ hb
  apply Evn.get
  have hB : Byts l := byts_of hb
  have j5 : Evn (fun k => laws_FnLeadTrips.j5 k l) true := by
    refine Evn.step ?_
    simp only [laws_FnLeadTrips.j5]
    obtain ⟨t, ht, h1⟩ := dw_DrawChangeLead hB
    refine Evn.bind ht (Evn.bind (im_ChangeLead t.1 t.2.1 t.2.2 (by omega)) (Evn.bind (sp_ChangeLead t.1 t.2.1 t.2.2 (by omega)) ?_))
    simp only [beq_self_eq_true, if_true]
    exact Evn.bind (ev_rLeads _ (by have := chgs_len t.1 t.2.1 t.2.2; omega)) (Evn.done _)
  have j4 : ∀ (L : List S25), L.length ≤ 13 → Evn (fun k => laws_FnLeadTrips.j4 k l L (rkM L).1 (bestM L).1 (bestM L).2 false) true := by
    intro L hL
    refine Evn.step ?_
    simp only [laws_FnLeadTrips.j4, Bool.false_eq_true, if_false]
    refine Evn.ite (fun ok => ?_) (fun _ => j5)
    by_cases g : goodLeads L = true
    · cases hr : rankL L with
      | nil =>
        have e2 : bestM L = (0, false) := by unfold bestM; rw [if_pos g, hr]
        rw [e2] at ok
        cases ok
      | cons x R =>
        have e1 : (rkM L).1 = x.f0 :: R.map (fun x => x.f0) := by unfold rkM; rw [if_pos g, hr]; rfl
        have e2 : bestM L = (x.f0, true) := by unfold bestM; rw [if_pos g, hr]
        obtain ⟨t, t1, t2, t3, t4, t5⟩ := taken g hr
        have hc := im_ChangeLead L x.f0 1 (by omega)
        rw [t1] at hc
        have hk := im_RankLeads t (by omega)
        have e3 : rkM t = ((rankL t).map (fun x => x.f0), true) := by unfold rkM; rw [if_pos t2]
        rw [e3] at hk
        have hRl : R.length ≤ 13 := by have := rankL_len L; rw [hr, List.length_cons] at this; omega
        have hh := ev_rHas ((rankL t).map (fun x => x.f0)) x.f0 (by rw [List.length_map, t4]; omega)
        rw [t5] at hh
        rw [e1, e2]
        refine Evn.bind hc (Evn.bind hk ?_)
        simp only [if_true]
        refine Evn.bind hh ?_
        have c5 : (((rankL t).map (fun x => x.f0)).length : Int) = wrap64 (((x.f0 :: R.map (fun x => x.f0)).length : Int) - 1) := by
          rw [List.length_map, List.length_cons, List.length_map, t4, wrap_id (by omega) (by omega)]
          omega
        simp only [Bool.false_eq_true, if_false, if_pos c5]
        exact j5
    · have e2 : bestM L = (0, false) := by unfold bestM; rw [if_neg g]
      rw [e2] at ok
      cases ok
  have fin : ∀ (L : List S25) (T : List Int) (at_ : Int), L.length ≤ 13 → T.length ≤ 100 → Evn (fun k => laws_FnLeadTrips.l0 k l L T (rkM L).1 at_ (T.length : Int)) true := by
    intro L T a hL hT
    refine Evn.step ?_
    have c1 : ¬ (T.length : Int) < (T.length : Int) := by omega
    simp only [laws_FnLeadTrips.l0, if_neg c1]
    refine Evn.bind (im_BestLead L (by omega)) (Evn.bind (sp_BestLead L (by omega)) ?_)
    simp only [if_true, bne_self_eq_false, Bool.false_eq_true, if_false]
    have h4 := j4 L hL
    by_cases g : goodLeads L = true
    · cases hr : rankL L with
      | nil =>
        have e1 : (rkM L).1 = [] := by unfold rkM; rw [if_pos g, hr]; rfl
        have e2 : bestM L = (0, false) := by unfold bestM; rw [if_pos g, hr]
        rw [e1, e2] at h4 ⊢
        exact h4
      | cons x R =>
        have e1 : (rkM L).1 = x.f0 :: R.map (fun x => x.f0) := by unfold rkM; rw [if_pos g, hr]; rfl
        have e2 : bestM L = (x.f0, true) := by unfold bestM; rw [if_pos g, hr]
        rw [e1, e2] at h4 ⊢
        have c2 : ((x.f0 :: R.map (fun x => x.f0)).length : Int) > 0 := by rw [List.length_cons]; omega
        have c3 : 0 < ((x.f0 :: R.map (fun x => x.f0)).length : Int) := c2
        have c4 : rd (x.f0 :: R.map (fun x => x.f0)) 0 = x.f0 := rfl
        simp only [decide_eq_true c2, bne_self_eq_false, Bool.false_eq_true, if_false, if_true, if_pos c3, c4]
        exact h4
    · have e1 : (rkM L).1 = [] := by unfold rkM; rw [if_neg g]
      have e2 : bestM L = (0, false) := by unfold bestM; rw [if_neg g]
      rw [e1, e2] at h4 ⊢
      exact h4
  have loops : ∀ (L : List S25) (T : List Int), L.length ≤ 13 → T.length ≤ 100 → (rkM L).1.length ≤ 100 → ∀ (D i : Nat), i + D = T.length → ∀ (a : Nat), a ≤ (rkM L).1.length → (T.drop i).Sublist ((rkM L).1.drop a) → Evn (fun k => laws_FnLeadTrips.l0 k l L T (rkM L).1 (a : Int) (i : Int)) true := by
    intro L T hL hT hO D
    induction D with
    | zero =>
      intro i hi a _ _
      have e : i = T.length := by omega
      subst e
      exact fin L T (a : Int) hL hT
    | succ D ih =>
      intro i hi a ha hs
      have hiT : i < T.length := by omega
      have c1 : (i : Int) < (T.length : Int) := by omega
      have c2 : 0 ≤ (i : Int) := by omega
      have inner : ∀ (E a : Nat), a + E = (rkM L).1.length → (T.drop i).Sublist ((rkM L).1.drop a) → Evn (fun k => laws_FnLeadTrips.l1 k l L T (rkM L).1 (a : Int) (i : Int)) true := by
        intro E
        induction E with
        | zero =>
          intro a ha hs
          rw [List.drop_eq_nil_of_le (show (rkM L).1.length ≤ a by omega), drop_at' T i 0 hiT] at hs
          cases hs
        | succ E ihE =>
          intro a ha hs
          have haO : a < (rkM L).1.length := by omega
          have d1 : (a : Int) < ((rkM L).1.length : Int) := by omega
          have d2 : 0 ≤ (a : Int) := by omega
          have d3 : ¬ (a : Int) = ((rkM L).1.length : Int) := by omega
          rw [drop_at' (rkM L).1 a 0 haO, drop_at' T i 0 hiT] at hs
          refine Evn.step ?_
          simp only [laws_FnLeadTrips.l1, if_pos d1, if_pos d2, if_pos c1, if_pos c2, if_neg d3, rd, Int.toNat_natCast, wrap_succ (show i < 4611686018427387904 by omega), wrap_succ (show a < 4611686018427387904 by omega)]
          refine Evn.ite (fun e => ?_) (fun e => ?_)
          · refine ih (i + 1) (by omega) a (by omega) ?_
            rw [drop_at' (rkM L).1 a 0 haO]
            exact (List.sublist_cons_self _ _).trans hs
          · refine ihE (a + 1) (by omega) ?_
            rw [drop_at' T i 0 hiT]
            generalize (rkM L).1.getD a 0 = o at hs e
            generalize T.getD i 0 = t at hs e ⊢
            cases hs with
            | cons _ h => exact h
            | cons_cons _ h => exact absurd rfl e
      refine Evn.step ?_
      simp only [laws_FnLeadTrips.l0, if_pos c1]
      exact inner ((rkM L).1.length - a) a (by omega) hs
  unfold laws_FnLeadTrips.f laws_rBig.f
  simp only [Option.bind_some]
  refine Evn.ite (fun _ => Evn.done _) (fun _ => ?_)
  obtain ⟨t, ht, h1⟩ := dw_DrawTripFor hB
  refine Evn.bind ht ?_
  obtain ⟨L, e, m⟩ := t
  dsimp only at h1 ⊢
  have hT := tripM_len L e m
  have hO := rkM_len L
  refine Evn.bind (im_TripFor L e m (by omega)) (Evn.bind (sp_TripFor L e m (by omega)) ?_)
  simp only [bne_self_eq_false, Bool.false_eq_true, if_false]
  refine Evn.bind (ev_rInts _ (by omega)) ?_
  simp only [if_true]
  have hsub : ((tripM L e m).1).Sublist (rkM L).1 := by
    unfold tripM
    split
    · rename_i c
      obtain ⟨S, h2, h3⟩ := trF_sub e m (rankL L) []
      dsimp only
      rw [h2, List.nil_append]
      unfold rkM
      rw [if_pos c.1]
      exact h3
    · exact List.nil_sublist _
  have j0 : Evn (fun k => laws_FnLeadTrips.j0 k l L (tripM L e m).1 false) true := by
    refine Evn.step ?_
    simp only [laws_FnLeadTrips.j0, Bool.false_eq_true, if_false]
    refine Evn.bind (im_RankLeads L (by omega)) (Evn.bind (sp_RankLeads L (by omega)) ?_)
    simp only [bne_self_eq_false, Bool.false_eq_true, if_false]
    refine Evn.bind (ev_rInts _ (by omega)) ?_
    rw [Bool.not_true]
    refine Evn.step ?_
    simp only [laws_FnLeadTrips.j1, Bool.false_eq_true, if_false]
    exact loops L (tripM L e m).1 h1 (by omega) (by omega) (tripM L e m).1.length 0 (by omega) 0 (by omega) hsub
  refine Evn.ite (fun ok => ?_) (fun _ => j0)
  have hf : decide (((tripM L e m).1.length : Int) > m) = false := by
    refine decide_eq_false ?_
    unfold tripM at ok ⊢
    split at ok
    · rename_i c
      rw [if_pos c]
      have := trF_most e m (rankL L) [] (by simp only [List.length_nil]; omega)
      dsimp only
      omega
    · cases ok
  rw [hf]
  exact j0

end Go.Proofs.Ytldgjibimolcdaa.Pure
