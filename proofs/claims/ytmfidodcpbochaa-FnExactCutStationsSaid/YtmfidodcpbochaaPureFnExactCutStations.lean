/- The plain statement of FnExactCutStations: its plain function returns true at every input. No condition beyond the arguments' own bounds. -/
import Derived.Test.YtmfidodcpbochaaQFnExactCutStationsx9
import Derived.Test.YtmfidodcpbochaaAid
namespace Go.Proofs.Ytmfidodcpbochaa.Pure
open Go.RowKit Go.Proofs.YtmfidodcpbochaaW.PrintWords Go.Proofs.YtmfidodcpbochaaW.PrintLast Go.Proofs.Ytmfidodcpbochaa.Aid Go.Proofs.Ytmfidodcpbochaa.QFnExactCutStations
set_option linter.unusedVariables false
set_option linter.unusedSimpArgs false

theorem ev_szLegS (l : List S81) (q : Int) : laws_szLegS.f l q = some (if wrap64 (q - (l.length : Int)) < 0 then -1 else wrap64 (q - (l.length : Int))) := by
  unfold laws_szLegS.f
  split <;> rfl

theorem sp_l1In (x y z : Int) : spec_l1In.f x y z = some (decide (y ≤ x ∧ x ≤ z)) := by
  unfold spec_l1In.f
  by_cases h : x ≥ y <;> simp [h] <;> omega

theorem sp_l4Station (x : Int) : spec_l4Station.f x = some (decide (0 ≤ x ∧ x ≤ 7)) := by
  simp only [spec_l4Station.f, sp_l1In, Option.bind_some]

/-! A leg's rules. -/
def okLeg (x : S79) : Bool := decide (0 ≤ x.f0 ∧ x.f0 ≤ 7) && (decide (0 ≤ x.f1 ∧ x.f1 ≤ 7) && (!decide (x.f0 = x.f1) && (decide (1 ≤ x.f2 ∧ x.f2 ≤ 500) && (decide (0 ≤ x.f3 ∧ x.f3 ≤ 359) && decide (-90 ≤ x.f4 ∧ x.f4 ≤ 90)))))
def goodLegs (xs : List S79) : Bool := xs.all okLeg && decide (xs.length ≤ 12)
theorem goodLegs_len {xs : List S79} (h : goodLegs xs = true) : xs.length ≤ 12 := by
  simp only [goodLegs, Bool.and_eq_true, decide_eq_true_eq] at h
  exact h.2
theorem goodLegs_ok {xs : List S79} (h : goodLegs xs = true) (j : Nat) (hj : j < xs.length) : okLeg (xs.getD j z79) = true := by
  simp only [goodLegs, Bool.and_eq_true, List.all_eq_true] at h
  refine h.1 _ ?_
  rw [List.getD_eq_getElem?_getD, List.getElem?_eq_getElem hj]
  exact List.getElem_mem hj
theorem okLeg_in {x : S79} (h : okLeg x = true) : (0 ≤ x.f0 ∧ x.f0 ≤ 7) ∧ (0 ≤ x.f1 ∧ x.f1 ≤ 7) ∧ ¬ x.f0 = x.f1 ∧ (1 ≤ x.f2 ∧ x.f2 ≤ 500) ∧ (0 ≤ x.f3 ∧ x.f3 ≤ 359) ∧ (-90 ≤ x.f4 ∧ x.f4 ≤ 90) := by
  simp only [okLeg, Bool.and_eq_true, decide_eq_true_eq, Bool.not_eq_true', decide_eq_false_iff_not] at h
  exact h
theorem ite_not (c : Prop) [Decidable c] (x : Bool) : (if c then some false else some x) = some (!decide c && x) := by
  by_cases h : c <;> simp [h]

theorem sp_l4Leg (x : S79) : spec_l4Leg.f x.f0 x.f1 x.f2 x.f3 x.f4 = some (okLeg x) := by
  simp only [spec_l4Leg.f, sp_l4Station, spec_l2Bearing.f, sp_l1In, Option.bind_some, ite_and, ite_not, okLeg]

theorem sp_l4Legs_l0 (xs : List S79) (hx : xs.length ≤ 4194304) : ∀ (d i : Nat), i + d = xs.length → Evn (fun k => spec_l4Legs.l0 k xs (i : Int)) ((xs.drop i).all okLeg && decide (xs.length ≤ 12)) := by
  intro d
  induction d with
  | zero =>
    intro i h
    refine Evn.step ?_
    have h1 : ¬ (i : Int) < (xs.length : Int) := by omega
    simp only [spec_l4Legs.l0, if_neg h1]
    rw [List.drop_eq_nil_of_le (by omega)]
    refine (Evn.done _).eq_ ?_
    simp only [List.all_nil, Bool.true_and, decide_eq_decide]
    omega
  | succ d ih =>
    intro i h
    refine Evn.step ?_
    have h1 : (i : Int) < (xs.length : Int) := by omega
    have h2 : 0 ≤ (i : Int) := by omega
    simp only [spec_l4Legs.l0, if_pos h1, if_pos h2, sp_l4Leg, Option.bind_some, wrap_succ (show i < 4611686018427387904 by omega), rd_T79, Int.toNat_natCast]
    rw [getD_drop xs i z79 (by omega), List.all_cons]
    exact Evn.ite (fun c => (ih (i + 1) (by omega)).eq_ (by simp only [c, Bool.true_and])) (fun c => (Evn.done _).eq_ (by simp only [Bool.eq_false_iff.mpr c, Bool.false_and]))
theorem sp_l4Legs (xs : List S79) (hx : xs.length ≤ 4194304) : Evn (fun k => spec_l4Legs.f k xs) (goodLegs xs) := by
  have h := sp_l4Legs_l0 xs hx xs.length 0 (by omega)
  simpa [spec_l4Legs.f, goodLegs] using h

theorem sp_l1Has_l0 (xs : List Int) (v : Int) (hx : xs.length ≤ 4194304) : ∀ (d i : Nat), i + d = xs.length → Evn (fun k => spec_l1Has.l0 k xs v (i : Int)) ((xs.drop i).contains v) := by
  intro d
  induction d with
  | zero =>
    intro i h
    refine Evn.step ?_
    have h1 : ¬ (i : Int) < (xs.length : Int) := by omega
    simp only [spec_l1Has.l0, if_neg h1]
    rw [List.drop_eq_nil_of_le (by omega)]
    exact Evn.done _
  | succ d ih =>
    intro i h
    refine Evn.step ?_
    have h1 : (i : Int) < (xs.length : Int) := by omega
    have h2 : 0 ≤ (i : Int) := by omega
    simp only [spec_l1Has.l0, if_pos h1, if_pos h2, rd, Int.toNat_natCast, wrap_succ (show i < 4611686018427387904 by omega)]
    rw [getD_drop xs i 0 (by omega)]
    refine Evn.ite (fun c => (Evn.done _).eq_ ?_) (fun c => (ih (i + 1) (by omega)).eq_ ?_)
    · rw [List.contains_cons, c]; simp
    · rw [List.contains_cons, show (v == xs.getD i 0) = false from by simpa using fun h => c h.symm]; simp
theorem sp_l1Has (xs : List Int) (v : Int) (hx : xs.length ≤ 4194304) : Evn (fun k => spec_l1Has.f k xs v) (xs.contains v) := by
  have h := sp_l1Has_l0 xs v hx xs.length 0 (by omega)
  simpa [spec_l1Has.f] using h

/-! Stations that hang together. -/
inductive Conn (L : List S79) (a : Int) : Int → Prop
  | refl : Conn L a a
  | fwd {x : S79} : x ∈ L → Conn L a x.f0 → Conn L a x.f1
  | bwd {x : S79} : x ∈ L → Conn L a x.f1 → Conn L a x.f0
def sAt (S : List Bool) (i : Int) : Bool := S.getD i.toNat false
def stepR (S : List Bool) (x : S79) : List Bool := if sAt S x.f0 = sAt S x.f1 then S else (S.set x.f0.toNat true).set x.f1.toNat true
def roundR (L : List S79) (S : List Bool) : List Bool := L.foldl stepR S
def roundsR (L : List S79) : Nat → List Bool → List Bool
  | 0, S => S
  | n + 1, S => roundsR L n (roundR L S)
def startR (a : Int) : List Bool := (List.replicate 8 false).set a.toNat true
def reachM (L : List S79) (a : Int) : List Bool := roundsR L L.length (startR a)
def inSt (x : S79) : Prop := (0 ≤ x.f0 ∧ x.f0 ≤ 7) ∧ (0 ≤ x.f1 ∧ x.f1 ≤ 7)
theorem sAt_set {S : List Bool} {a : Int} {v : Bool} (i : Int) (ha : 0 ≤ a) (hi : 0 ≤ i) (hl : a.toNat < S.length) : sAt (S.set a.toNat v) i = if i = a then v else sAt S i := by
  unfold sAt
  rw [List.getD_eq_getElem?_getD, List.getD_eq_getElem?_getD, List.getElem?_set]
  by_cases h : i = a
  · subst h; simp [hl]
  · rw [if_neg h, if_neg (by omega)]
theorem stepR_len (S : List Bool) (x : S79) : (stepR S x).length = S.length := by unfold stepR; split <;> simp
theorem roundR_len (L : List S79) : ∀ S : List Bool, (roundR L S).length = S.length := by
  unfold roundR
  induction L with
  | nil => intro S; rfl
  | cons x L ih => intro S; rw [List.foldl_cons, ih, stepR_len]
theorem sAt_step {S : List Bool} {x : S79} (i : Int) (hi : 0 ≤ i) (hx : inSt x) (hl : S.length = 8) : sAt (stepR S x) i = (sAt S i || (!(sAt S x.f0 == sAt S x.f1) && (decide (i = x.f0) || decide (i = x.f1)))) := by
  obtain ⟨h0, h1⟩ := hx
  unfold stepR
  by_cases h : sAt S x.f0 = sAt S x.f1
  · simp [h]
  · rw [if_neg h, sAt_set i h1.1 hi (by rw [List.length_set]; omega), sAt_set i h0.1 hi (by omega)]
    have e : (sAt S x.f0 == sAt S x.f1) = false := by simpa using h
    rw [e]
    by_cases c1 : i = x.f1
    · subst c1; simp
    · by_cases c0 : i = x.f0
      · subst c0; simp [c1]
      · simp [c1, c0]
theorem step_mono {S : List Bool} {x : S79} (i : Int) (hi : 0 ≤ i) (hx : inSt x) (hl : S.length = 8) (h : sAt S i = true) : sAt (stepR S x) i = true := by
  rw [sAt_step i hi hx hl, h]; rfl
theorem round_mono (L : List S79) (hL : ∀ x ∈ L, inSt x) : ∀ (S : List Bool) (i : Int), 0 ≤ i → S.length = 8 → sAt S i = true → sAt (roundR L S) i = true := by
  unfold roundR
  induction L with
  | nil => intro S i _ _ h; exact h
  | cons x L ih =>
    intro S i hi hl h
    rw [List.foldl_cons]
    exact ih (fun y hy => hL y (List.mem_cons_of_mem _ hy)) _ i hi (by rw [stepR_len, hl]) (step_mono i hi (hL x List.mem_cons_self) hl h)
def closedR (L : List S79) (S : List Bool) : Prop := ∀ x ∈ L, sAt S x.f0 = sAt S x.f1
theorem round_closed (L : List S79) (S : List Bool) (h : closedR L S) : roundR L S = S := by
  unfold roundR
  induction L with
  | nil => rfl
  | cons x L ih =>
    rw [List.foldl_cons]
    have e : stepR S x = S := by unfold stepR; rw [if_pos (h x List.mem_cons_self)]
    rw [e]
    exact ih (fun y hy => h y (List.mem_cons_of_mem _ hy))
theorem rounds_closed (L : List S79) (S : List Bool) (h : closedR L S) : ∀ n, roundsR L n S = S
  | 0 => rfl
  | n + 1 => by rw [roundsR, round_closed L S h]; exact rounds_closed L S h n
theorem step_both {S : List Bool} {x : S79} (hx : inSt x) (hl : S.length = 8) (h : sAt S x.f0 = true ∨ sAt S x.f1 = true) : sAt (stepR S x) x.f0 = true ∧ sAt (stepR S x) x.f1 = true := by
  rw [sAt_step _ hx.1.1 hx hl, sAt_step _ hx.2.1 hx hl]
  cases h0 : sAt S x.f0 <;> cases h1 : sAt S x.f1 <;> simp_all
theorem round_both (L : List S79) (hL : ∀ x ∈ L, inSt x) : ∀ (S : List Bool) (x : S79), x ∈ L → S.length = 8 → (sAt S x.f0 = true ∨ sAt S x.f1 = true) → sAt (roundR L S) x.f0 = true ∧ sAt (roundR L S) x.f1 = true := by
  induction L with
  | nil => intro S x hx; cases hx
  | cons y L ih =>
    intro S x hx hl h
    have hy := hL y List.mem_cons_self
    have hL' : ∀ z ∈ L, inSt z := fun z hz => hL z (List.mem_cons_of_mem _ hz)
    have hx' := hL x hx
    show sAt (roundR L (stepR S y)) x.f0 = true ∧ sAt (roundR L (stepR S y)) x.f1 = true
    rcases List.mem_cons.1 hx with rfl | hm
    · have hb := step_both hy hl h
      exact ⟨round_mono L hL' _ _ hx'.1.1 (by rw [stepR_len, hl]) hb.1, round_mono L hL' _ _ hx'.2.1 (by rw [stepR_len, hl]) hb.2⟩
    · exact ih hL' _ x hm (by rw [stepR_len, hl]) (h.imp (step_mono _ hx'.1.1 hy hl) (step_mono _ hx'.2.1 hy hl))
def cntR (L : List S79) (S : List Bool) : Nat := L.countP (fun x => sAt S x.f0 && sAt S x.f1)
theorem countP_lt {α : Type} {p q : α → Bool} (L : List α) (hm : ∀ x ∈ L, p x = true → q x = true) : (∃ x ∈ L, p x = false ∧ q x = true) → L.countP p < L.countP q := by
  induction L with
  | nil => rintro ⟨x, hx, _⟩; cases hx
  | cons y L ih =>
    rintro ⟨x, hx, h1, h2⟩
    have hm' : ∀ x ∈ L, p x = true → q x = true := fun z hz => hm z (List.mem_cons_of_mem _ hz)
    rw [List.countP_cons, List.countP_cons]
    rcases List.mem_cons.1 hx with rfl | hx
    · have h3 : L.countP p ≤ L.countP q := List.countP_mono_left hm'
      rw [h1, h2]; simp; omega
    · have h3 := ih hm' ⟨x, hx, h1, h2⟩
      have h4 := hm y List.mem_cons_self
      cases hp : p y
      · simp; omega
      · rw [h4 hp]; simp; omega
theorem rounds_done (L : List S79) (hL : ∀ x ∈ L, inSt x) : ∀ (n : Nat) (S : List Bool), S.length = 8 → L.length ≤ cntR L S + n → closedR L (roundsR L n S) := by
  intro n
  induction n with
  | zero =>
    intro S _ h x hx
    have e : L.countP (fun x => sAt S x.f0 && sAt S x.f1) = L.length := Nat.le_antisymm List.countP_le_length (by unfold cntR at h; omega)
    have h2 := (List.countP_eq_length.1 e) x hx
    simp only [Bool.and_eq_true] at h2
    show sAt S x.f0 = sAt S x.f1
    rw [h2.1, h2.2]
  | succ n ih =>
    intro S hl h
    by_cases hc : closedR L S
    · rw [rounds_closed L S hc]; exact hc
    · refine ih _ (by rw [roundR_len, hl]) ?_
      have hex : ∃ x ∈ L, sAt S x.f0 ≠ sAt S x.f1 := Classical.byContradiction fun hn => hc fun x hx => Classical.byContradiction fun he => hn ⟨x, hx, he⟩
      obtain ⟨x, hx, hne⟩ := hex
      have h2 : cntR L S < cntR L (roundR L S) := by
        unfold cntR
        refine countP_lt L ?_ ⟨x, hx, ?_, ?_⟩
        · intro y hy h3
          simp only [Bool.and_eq_true] at h3
          have hy' := hL y hy
          rw [round_mono L hL S _ hy'.1.1 hl h3.1, round_mono L hL S _ hy'.2.1 hl h3.2]; rfl
        · cases h0 : sAt S x.f0 <;> cases h1 : sAt S x.f1 <;> simp_all
        · have h4 := round_both L hL S x hx hl (by cases h0 : sAt S x.f0 <;> cases h1 : sAt S x.f1 <;> simp_all)
          rw [h4.1, h4.2]; rfl
      omega
def soundR (L : List S79) (a : Int) (S : List Bool) : Prop := ∀ i : Int, 0 ≤ i → sAt S i = true → Conn L a i
theorem step_sound {L : List S79} {a : Int} {S : List Bool} {x : S79} (hx : x ∈ L) (hs : inSt x) (hl : S.length = 8) (h : soundR L a S) : soundR L a (stepR S x) := by
  intro i hi h1
  rw [sAt_step i hi hs hl] at h1
  cases h2 : sAt S i
  · rw [h2] at h1
    have hne : ¬ sAt S x.f0 = sAt S x.f1 := by intro e; rw [e] at h1; simp at h1
    have hi' : i = x.f0 ∨ i = x.f1 := by
      simp only [Bool.false_or, Bool.and_eq_true, Bool.or_eq_true, decide_eq_true_eq] at h1; exact h1.2
    rcases hi' with rfl | rfl
    · cases h4 : sAt S x.f1
      · rw [h2, h4] at hne; exact absurd rfl hne
      · exact Conn.bwd hx (h _ hs.2.1 h4)
    · cases h4 : sAt S x.f0
      · rw [h2, h4] at hne; exact absurd rfl hne
      · exact Conn.fwd hx (h _ hs.1.1 h4)
  · exact h i hi h2
theorem round_sound {L : List S79} {a : Int} (hL : ∀ x ∈ L, inSt x) : ∀ (M : List S79), (∀ x ∈ M, x ∈ L) → ∀ S : List Bool, S.length = 8 → soundR L a S → soundR L a (roundR M S) := by
  intro M
  induction M with
  | nil => intro _ S _ h; exact h
  | cons x M ih =>
    intro hM S hl h
    exact ih (fun y hy => hM y (List.mem_cons_of_mem _ hy)) (stepR S x) (by rw [stepR_len, hl]) (step_sound (hM x List.mem_cons_self) (hL x (hM x List.mem_cons_self)) hl h)
theorem rounds_sound {L : List S79} {a : Int} (hL : ∀ x ∈ L, inSt x) : ∀ (n : Nat) (S : List Bool), S.length = 8 → soundR L a S → soundR L a (roundsR L n S)
  | 0, _, _, h => h
  | n + 1, S, hl, h => rounds_sound hL n (roundR L S) (by rw [roundR_len, hl]) (round_sound hL L (fun _ h => h) S hl h)
theorem rounds_mono (L : List S79) (hL : ∀ x ∈ L, inSt x) : ∀ (n : Nat) (S : List Bool) (i : Int), 0 ≤ i → S.length = 8 → sAt S i = true → sAt (roundsR L n S) i = true
  | 0, _, _, _, _, h => h
  | n + 1, S, i, hi, hl, h => rounds_mono L hL n _ i hi (by rw [roundR_len, hl]) (round_mono L hL S i hi hl h)
theorem rounds_len (L : List S79) : ∀ (n : Nat) (S : List Bool), (roundsR L n S).length = S.length
  | 0, _ => rfl
  | n + 1, S => by rw [roundsR, rounds_len L n, roundR_len]
theorem startR_len (a : Int) : (startR a).length = 8 := by simp [startR]
theorem reachM_len (L : List S79) (a : Int) : (reachM L a).length = 8 := by unfold reachM; rw [rounds_len, startR_len]
theorem sAt_start {a : Int} (ha : 0 ≤ a ∧ a ≤ 7) (i : Int) (hi : 0 ≤ i) : sAt (startR a) i = decide (i = a) := by
  unfold startR
  rw [sAt_set i ha.1 hi (by simp; omega)]
  by_cases h : i = a
  · simp [h]
  · rw [if_neg h]
    simp only [sAt, List.getD_eq_getElem?_getD, List.getElem?_replicate, h, decide_false]
    split <;> rfl
/-- What the program's search reaches is what hangs together. -/
theorem conn_in {L : List S79} {a b : Int} (hL : ∀ x ∈ L, inSt x) (ha : 0 ≤ a ∧ a ≤ 7) (h : Conn L a b) : 0 ≤ b ∧ b ≤ 7 := by
  induction h with
  | refl => exact ha
  | fwd hx _ _ => exact (hL _ hx).2
  | bwd hx _ _ => exact (hL _ hx).1
theorem closed_all {L : List S79} {a : Int} {S : List Bool} (hc : closedR L S) (h0 : sAt S a = true) {b : Int} (h : Conn L a b) : sAt S b = true := by
  induction h with
  | refl => exact h0
  | fwd hx _ ih => rw [← hc _ hx]; exact ih
  | bwd hx _ ih => rw [hc _ hx]; exact ih
theorem reach_conn {L : List S79} {a : Int} (hL : ∀ x ∈ L, inSt x) (ha : 0 ≤ a ∧ a ≤ 7) (b : Int) (hb : 0 ≤ b) : sAt (reachM L a) b = true ↔ Conn L a b := by
  constructor
  · intro h
    refine rounds_sound hL L.length (startR a) (startR_len a) ?_ b hb h
    intro i hi h1
    rw [sAt_start ha i hi] at h1
    rw [of_decide_eq_true h1]
    exact Conn.refl
  · intro h
    have hc : closedR L (reachM L a) := rounds_done L hL L.length (startR a) (startR_len a) (by omega)
    refine closed_all hc ?_ h
    exact rounds_mono L hL L.length (startR a) a ha.1 (startR_len a) (by rw [sAt_start ha a ha.1]; simp)
theorem Conn.trans {L : List S79} {a b c : Int} (h : Conn L a b) (h2 : Conn L b c) : Conn L a c := by
  induction h2 with
  | refl => exact h
  | fwd hx _ ih => exact Conn.fwd hx ih
  | bwd hx _ ih => exact Conn.bwd hx ih
theorem Conn.symm {L : List S79} {a b : Int} (h : Conn L a b) : Conn L b a := by
  induction h with
  | refl => exact Conn.refl
  | fwd hx _ ih => exact (Conn.bwd hx Conn.refl).trans ih
  | bwd hx _ ih => exact (Conn.fwd hx Conn.refl).trans ih

/-! Caves and their cut stations. -/
def st8 : List Int := [0, 1, 2, 3, 4, 5, 6, 7]
theorem mem_st8 (b : Int) : b ∈ st8 ↔ 0 ≤ b ∧ b ≤ 7 := by
  simp only [st8, List.mem_cons, List.not_mem_nil, or_false]
  omega
def rising (l : List Int) : Prop := l.Pairwise (· < ·)
theorem rising_st8 : rising st8 := by unfold rising st8; decide
def caveM (L : List S79) (a : Int) : List Int := st8.filter (fun b => sAt (reachM L a) b)
theorem mem_caveM {L : List S79} {a : Int} (hL : ∀ x ∈ L, inSt x) (ha : 0 ≤ a ∧ a ≤ 7) (b : Int) : b ∈ caveM L a ↔ Conn L a b := by
  unfold caveM
  rw [List.mem_filter, mem_st8]
  constructor
  · rintro ⟨h1, h2⟩; exact (reach_conn hL ha b h1.1).1 h2
  · intro h; have h1 := conn_in hL ha h; exact ⟨h1, (reach_conn hL ha b h1.1).2 h⟩
theorem rising_caveM (L : List S79) (a : Int) : rising (caveM L a) := List.Pairwise.filter _ rising_st8
theorem rising_nodup {l : List Int} (h : rising l) : l.Nodup := List.Pairwise.imp (fun h => by omega) h
theorem rising_ext : ∀ {l m : List Int}, rising l → rising m → (∀ x, x ∈ l ↔ x ∈ m) → l = m
  | [], [], _, _, _ => rfl
  | [], y :: m, _, _, h => absurd ((h y).2 List.mem_cons_self) (by simp)
  | x :: l, [], _, _, h => absurd ((h x).1 List.mem_cons_self) (by simp)
  | x :: l, y :: m, hl, hm, h => by
    have hl' := List.pairwise_cons.1 hl
    have hm' := List.pairwise_cons.1 hm
    have e : x = y := by
      rcases List.mem_cons.1 ((h x).1 List.mem_cons_self) with e | h1
      · exact e
      · rcases List.mem_cons.1 ((h y).2 List.mem_cons_self) with e | h2
        · exact e.symm
        · have := hl'.1 y h2; have := hm'.1 x h1; omega
    subst e
    have h2 : l = m := by
      refine rising_ext hl'.2 hm'.2 fun z => ?_
      have hz := h z
      simp only [List.mem_cons] at hz
      constructor
      · intro h1
        rcases hz.1 (Or.inr h1) with e | h2
        · have := hl'.1 z h1; omega
        · exact h2
      · intro h1
        rcases hz.2 (Or.inr h1) with e | h2
        · have := hm'.1 z h1; omega
        · exact h2
    rw [h2]
def notAt (s : Int) (x : S79) : Bool := !(decide (x.f0 = s) || decide (x.f1 = s))
def restM (L : List S79) (s : Int) : List S79 := L.filter (notAt s)
theorem restM_in {L : List S79} (hL : ∀ x ∈ L, inSt x) (s : Int) : ∀ x ∈ restM L s, inSt x := fun x hx => hL x (List.mem_filter.1 hx).1
theorem rest_conn {L : List S79} {s a b : Int} (ha : a ≠ s) (h : Conn (restM L s) a b) : Conn L a b ∧ b ≠ s := by
  have hn : ∀ {x : S79}, x ∈ restM L s → x ∈ L ∧ x.f0 ≠ s ∧ x.f1 ≠ s := by
    intro x hx
    have h := List.mem_filter.1 hx
    simp only [notAt, Bool.not_eq_true', Bool.or_eq_false_iff, decide_eq_false_iff_not] at h
    exact h
  induction h with
  | refl => exact ⟨Conn.refl, ha⟩
  | fwd hx _ ih => exact ⟨Conn.fwd (hn hx).1 ih.1, (hn hx).2.2⟩
  | bwd hx _ ih => exact ⟨Conn.bwd (hn hx).1 ih.1, (hn hx).2.1⟩
/-- The program's test, and the reference's. -/
def cutM (L : List S79) (C : List Int) (s : Int) : Bool := match C.filter (fun o => decide (o ≠ s)) with
  | [] => false
  | f :: os => os.any (fun o => !sAt (reachM (restM L s) f) o)
def firstM (C : List Int) (s : Int) : Int := if C.getD 0 0 = s then C.getD 1 0 else C.getD 0 0
def cutS (L : List S79) (s : Int) : Bool := if (caveM L s).length < 3 then false else decide ((caveM (restM L s) (firstM (caveM L s) s)).length < (caveM L s).length - 1)
theorem filter_ne_len : ∀ {C : List Int} {s : Int}, C.Nodup → s ∈ C → (C.filter (fun o => decide (o ≠ s))).length = C.length - 1
  | [], s, _, h => by cases h
  | x :: C, s, hn, h => by
    have hn' := List.nodup_cons.1 hn
    rw [List.filter_cons]
    by_cases e : x = s
    · subst e
      have h2 : C.filter (fun o => decide (o ≠ x)) = C := List.filter_eq_self.2 fun y hy => by have h9 : y ≠ x := fun e => hn'.1 (e ▸ hy); simpa using h9
      simp only [ne_eq, not_true_eq_false, decide_false, Bool.false_eq_true, if_false]
      simp only [ne_eq] at h2
      rw [h2]; simp
    · have hm : s ∈ C := by rcases List.mem_cons.1 h with h | h; exact absurd h.symm e; exact h
      have ih := filter_ne_len hn'.2 hm
      have h3 : 0 < C.length := List.length_pos_of_mem hm
      rw [if_pos (by simpa using e), List.length_cons, ih, List.length_cons]
      omega
theorem firstM_eq {C : List Int} {s f : Int} {os : List Int} (hn : C.Nodup) (h : C.filter (fun o => decide (o ≠ s)) = f :: os) : firstM C s = f := by
  unfold firstM
  match C, hn, h with
  | [], _, h => simp at h
  | [x], _, h =>
    rw [List.filter_cons] at h
    by_cases e : x = s
    · simp [e] at h
    · simp only [List.getD_cons_zero]
      rw [if_neg e]
      rw [if_pos (by simpa using e)] at h
      simp at h; exact h.1
  | x :: y :: C, hn, h =>
    simp only [List.getD_cons_zero, List.getD_cons_succ]
    rw [List.filter_cons] at h
    by_cases e : x = s
    · rw [if_pos e]
      rw [if_neg (by simpa using e), List.filter_cons] at h
      have hn' := List.nodup_cons.1 hn
      have e2 : ¬ y = s := fun e2 => hn'.1 (by rw [e, ← e2]; exact List.mem_cons_self)
      rw [if_pos (by simpa using e2)] at h
      exact (List.cons.inj h).1
    · rw [if_neg e]
      rw [if_pos (by simpa using e)] at h
      exact (List.cons.inj h).1
theorem any_filter {α : Type} (p : α → Bool) : ∀ l : List α, l.any (fun o => !p o) = decide ((l.filter p).length < l.length)
  | [] => by simp
  | x :: l => by
    rw [List.any_cons, List.filter_cons, any_filter p l]
    have h : (l.filter p).length ≤ l.length := List.length_filter_le _ _
    cases hp : p x
    · simp; omega
    · simp
theorem cut_same {L : List S79} (hL : ∀ x ∈ L, inSt x) {s : Int} (hs : 0 ≤ s ∧ s ≤ 7) : cutM L (caveM L s) s = cutS L s := by
  have hmem : s ∈ caveM L s := (mem_caveM hL hs s).2 Conn.refl
  have hnd := rising_nodup (rising_caveM L s)
  have hlen := filter_ne_len hnd hmem
  unfold cutM cutS
  generalize hF : (caveM L s).filter (fun o => decide (o ≠ s)) = F at hlen
  match F, hF with
  | [], hF => rw [if_pos (by simp at hlen; omega)]
  | [f], hF => rw [if_pos (by simp at hlen; omega)]; rfl
  | f :: o :: os, hF =>
    rw [if_neg (by simp at hlen; omega), firstM_eq hnd hF]
    have hfm : f ∈ (caveM L s).filter (fun o => decide (o ≠ s)) := by rw [hF]; exact List.mem_cons_self
    have hf := List.mem_filter.1 hfm
    have hfs : f ≠ s := by simpa using hf.2
    have hfc := (mem_caveM hL hs f).1 hf.1
    have hfi := conn_in hL hs hfc
    have hR := restM_in hL s
    have e : caveM (restM L s) f = (f :: o :: os).filter (fun b => sAt (reachM (restM L s) f) b) := by
      rw [← hF]
      refine rising_ext (rising_caveM _ _) (List.Pairwise.filter _ (List.Pairwise.filter _ (rising_caveM L s))) fun b => ?_
      rw [mem_caveM hR hfi, List.mem_filter, List.mem_filter, mem_caveM hL hs]
      constructor
      · intro h
        have h2 := rest_conn hfs h
        have h3 := conn_in hR hfi h
        exact ⟨⟨hfc.trans h2.1, by simpa using h2.2⟩, (reach_conn hR hfi b h3.1).2 h⟩
      · rintro ⟨⟨h1, _⟩, h2⟩
        exact (reach_conn hR hfi b (conn_in hL hs h1).1).1 h2
    rw [e]
    have hff : sAt (reachM (restM L s) f) f = true := (reach_conn hR hfi f hfi.1).2 Conn.refl
    have hl : (caveM L s).length - 1 = (f :: o :: os).length := hlen.symm
    rw [hl]
    rw [← any_filter (fun b => sAt (reachM (restM L s) f) b) (f :: o :: os), List.any_cons]
    simp only [hff, Bool.not_true, Bool.false_or]
/-! All caves. -/
def noLeg (L : List S79) (s : Int) : Bool := L.all (notAt s)
def addCave (L : List S79) (all : List (List Int)) (s : Int) : List (List Int) := if noLeg L s || all.any (fun c => c.contains s) then all else all ++ [caveM L s]
def cavesM (L : List S79) : List (List Int) := st8.foldl (addCave L) []
structure CavesOk (L : List S79) (done : List Int) (all : List (List Int)) : Prop where
  are : ∀ c ∈ all, ∃ t, (0 ≤ t ∧ t ≤ 7) ∧ noLeg L t = false ∧ c = caveM L t
  apart : all.Pairwise (fun c d => ∀ x, x ∈ c → x ∈ d → False)
  has : ∀ s ∈ done, noLeg L s = false → ∃ c ∈ all, s ∈ c
theorem addCave_ok {L : List S79} (hL : ∀ x ∈ L, inSt x) {done : List Int} {all : List (List Int)} (h : CavesOk L done all) {s : Int} (hs : 0 ≤ s ∧ s ≤ 7) : CavesOk L (done ++ [s]) (addCave L all s) := by
  unfold addCave
  by_cases hc : (noLeg L s || all.any (fun c => c.contains s)) = true
  · rw [if_pos hc]
    refine ⟨h.are, h.apart, fun t ht hn => ?_⟩
    rcases List.mem_append.1 ht with ht | ht
    · exact h.has t ht hn
    · rw [List.mem_singleton] at ht
      subst ht
      rw [hn, Bool.false_or, List.any_eq_true] at hc
      obtain ⟨c, h1, h2⟩ := hc
      exact ⟨c, h1, by simpa using h2⟩
  · rw [if_neg hc]
    simp only [Bool.or_eq_true, not_or, Bool.not_eq_true, List.any_eq_false] at hc
    obtain ⟨hn, hno⟩ := hc
    refine ⟨fun c hcm => ?_, ?_, fun t ht hnt => ?_⟩
    · rcases List.mem_append.1 hcm with hm | hm
      · exact h.are c hm
      · rw [List.mem_singleton] at hm; exact ⟨s, hs, hn, hm⟩
    · refine List.pairwise_append.2 ⟨h.apart, List.pairwise_singleton _ _, ?_⟩
      intro c hcm d hd x h1 h2
      rw [List.mem_singleton] at hd
      subst hd
      obtain ⟨t, ht, _, rfl⟩ := h.are c hcm
      have k1 := (mem_caveM hL ht x).1 h1
      have k2 := (mem_caveM hL hs x).1 h2
      have k3 := (mem_caveM hL ht s).2 (k1.trans k2.symm)
      have k4 := hno _ hcm
      simp [k3] at k4
    · rcases List.mem_append.1 ht with ht | ht
      · obtain ⟨c, h1, h2⟩ := h.has t ht hnt; exact ⟨c, List.mem_append_left _ h1, h2⟩
      · rw [List.mem_singleton] at ht
        subst ht
        exact ⟨caveM L t, List.mem_append_right _ (List.mem_singleton.2 rfl), (mem_caveM hL hs t).2 Conn.refl⟩
theorem foldCaves_ok {L : List S79} (hL : ∀ x ∈ L, inSt x) : ∀ (ss done : List Int) (all : List (List Int)), (∀ s ∈ ss, 0 ≤ s ∧ s ≤ 7) → CavesOk L done all → CavesOk L (done ++ ss) (ss.foldl (addCave L) all)
  | [], done, all, _, h => by rw [List.append_nil]; exact h
  | s :: ss, done, all, hs, h => by
    have h2 := foldCaves_ok hL ss (done ++ [s]) _ (fun t ht => hs t (List.mem_cons_of_mem _ ht)) (addCave_ok hL h (hs s List.mem_cons_self))
    rw [List.append_assoc] at h2
    exact h2
theorem cavesM_ok {L : List S79} (hL : ∀ x ∈ L, inSt x) : CavesOk L st8 (cavesM L) :=
  foldCaves_ok hL st8 [] [] (fun s hs => (mem_st8 s).1 hs) ⟨fun c h => by simp at h, List.Pairwise.nil, fun s h => by simp at h⟩
theorem foldCaves_len (L : List S79) : ∀ (ss : List Int) (all : List (List Int)), (ss.foldl (addCave L) all).length ≤ all.length + ss.length
  | [], all => by simp
  | s :: ss, all => by
    rw [List.foldl_cons]
    have h := foldCaves_len L ss (addCave L all s)
    have h2 : (addCave L all s).length ≤ all.length + 1 := by unfold addCave; split <;> simp
    rw [List.length_cons]
    omega
theorem cavesM_len (L : List S79) : (cavesM L).length ≤ 8 := by
  have h := foldCaves_len L st8 []
  exact h
theorem caveM_conn {L : List S79} (hL : ∀ x ∈ L, inSt x) {s t : Int} (ht : 0 ≤ t ∧ t ≤ 7) (h : s ∈ caveM L t) : caveM L t = caveM L s := by
  have h1 := (mem_caveM hL ht s).1 h
  have hs := conn_in hL ht h1
  refine rising_ext (rising_caveM _ _) (rising_caveM _ _) fun x => ?_
  rw [mem_caveM hL ht, mem_caveM hL hs]
  exact ⟨fun h2 => h1.symm.trans h2, fun h2 => h1.trans h2⟩
/-- What the program collects, cave by cave, and the reference's list. -/
def cutsOf (L : List S79) (c : List Int) : List Int := c.filter (fun s => cutM L c s)
def cutsM (L : List S79) : List Int := (cavesM L).foldl (fun out c => out ++ cutsOf L c) []
def cutsS (L : List S79) : List Int := st8.filter (cutS L)
theorem foldl_app {α β : Type} (f : α → List β) : ∀ (l : List α) (z : List β), l.foldl (fun out c => out ++ f c) z = z ++ l.flatMap f
  | [], z => by simp
  | x :: l, z => by rw [List.foldl_cons, foldl_app f l, List.flatMap_cons, List.append_assoc]
theorem conn_alone {L : List S79} {s b : Int} (hn : noLeg L s = true) (h : Conn L s b) : b = s := by
  have hx : ∀ x ∈ L, x.f0 ≠ s ∧ x.f1 ≠ s := by
    intro x hx
    have h := List.all_eq_true.1 hn x hx
    simpa [notAt] using h
  induction h with
  | refl => rfl
  | fwd h1 _ ih => exact absurd ih (hx _ h1).1
  | bwd h1 _ ih => exact absurd ih (hx _ h1).2
theorem mem_cutsM {L : List S79} (hL : ∀ x ∈ L, inSt x) (s : Int) : s ∈ cutsM L ↔ s ∈ cutsS L := by
  unfold cutsM cutsS cutsOf
  rw [foldl_app, List.nil_append, List.mem_flatMap, List.mem_filter, mem_st8]
  have ok := cavesM_ok hL
  constructor
  · rintro ⟨c, hc, hm⟩
    obtain ⟨t, ht, _, rfl⟩ := ok.are c hc
    obtain ⟨h1, h2⟩ := List.mem_filter.1 hm
    have hs := conn_in hL ht ((mem_caveM hL ht s).1 h1)
    rw [caveM_conn hL ht h1, cut_same hL hs] at h2
    exact ⟨hs, h2⟩
  · rintro ⟨hs, h2⟩
    have hn : noLeg L s = false := by
      cases h : noLeg L s
      · rfl
      · exfalso
        have e : caveM L s = [s] := by
          refine rising_ext (rising_caveM _ _) (by simp [rising]) fun x => ?_
          rw [mem_caveM hL hs, List.mem_singleton]
          exact ⟨fun h3 => conn_alone h h3, fun e => e ▸ Conn.refl⟩
        unfold cutS at h2
        rw [e, if_pos (by simp)] at h2
        cases h2
    obtain ⟨c, hc, h1⟩ := ok.has s ((mem_st8 s).2 hs) hn
    obtain ⟨t, ht, _, rfl⟩ := ok.are c hc
    refine ⟨_, hc, List.mem_filter.2 ⟨h1, ?_⟩⟩
    rw [caveM_conn hL ht h1, cut_same hL hs]
    exact h2
theorem nodup_flat {α : Type} (f : List α → List α) (hf : ∀ c x, x ∈ f c → x ∈ c) : ∀ (l : List (List α)), (∀ c ∈ l, (f c).Nodup) → l.Pairwise (fun c d => ∀ x, x ∈ c → x ∈ d → False) → (l.flatMap f).Nodup
  | [], _, _ => by simp
  | c :: l, h1, h2 => by
    have h3 := List.pairwise_cons.1 h2
    rw [List.flatMap_cons]
    refine List.nodup_append.2 ⟨h1 c List.mem_cons_self, nodup_flat f hf l (fun d hd => h1 d (List.mem_cons_of_mem _ hd)) h3.2, ?_⟩
    intro x hx y hy e
    subst e
    obtain ⟨d, hd, hy⟩ := List.mem_flatMap.1 hy
    exact h3.1 d hd x (hf _ _ hx) (hf _ _ hy)
theorem nodup_cutsM {L : List S79} (hL : ∀ x ∈ L, inSt x) : (cutsM L).Nodup := by
  unfold cutsM
  rw [foldl_app, List.nil_append]
  have ok := cavesM_ok hL
  refine nodup_flat _ (fun c x h => (List.mem_filter.1 h).1) _ ?_ ok.apart
  intro c hc
  obtain ⟨t, _, _, rfl⟩ := ok.are c hc
  exact rising_nodup (List.Pairwise.filter _ (rising_caveM L t))
theorem sort_cuts {L : List S79} (hL : ∀ x ∈ L, inSt x) : (cutsM L).mergeSort (fun x y => decide (x ≤ y)) = cutsS L := by
  have hp := List.mergeSort_perm (cutsM L) (fun x y : Int => decide (x ≤ y))
  have hs := List.pairwise_mergeSort (le := fun x y : Int => decide (x ≤ y)) (fun a b c h1 h2 => by simp at *; omega) (fun a b => by simp; omega) (cutsM L)
  have hn : ((cutsM L).mergeSort (fun x y => decide (x ≤ y))).Nodup := (List.Perm.nodup_iff hp).2 (nodup_cutsM hL)
  refine rising_ext ?_ (List.Pairwise.filter _ rising_st8) fun x => ?_
  · refine List.Pairwise.imp₂ (R := fun x y : Int => decide (x ≤ y) = true) (S := fun x y : Int => x ≠ y) ?_ hs hn
    intro a b h1 h2
    have := of_decide_eq_true h1
    omega
  · rw [hp.mem_iff]
    exact mem_cutsM hL x

/-! The reference's search: a list in order, a round at a time. -/
def putM : List Int → Int → List Int
  | [], n => [n]
  | x :: l, n => if x < n then x :: putM l n else if x = n then x :: l else n :: x :: l
theorem putM_len : ∀ (l : List Int) (n : Int), (putM l n).length ≤ l.length + 1
  | [], n => by simp [putM]
  | x :: l, n => by
    unfold putM
    split
    · have := putM_len l n; simp only [List.length_cons]; omega
    · split <;> simp only [List.length_cons] <;> omega
theorem mem_putM : ∀ (l : List Int) (n y : Int), y ∈ putM l n ↔ y = n ∨ y ∈ l
  | [], n, y => by simp [putM]
  | x :: l, n, y => by
    unfold putM
    by_cases h : x < n
    · rw [if_pos h, List.mem_cons, mem_putM l n y, List.mem_cons]
      constructor <;> rintro (h | h | h) <;> simp [h]
    · rw [if_neg h]
      by_cases e : x = n
      · rw [if_pos e, List.mem_cons, e]
        constructor
        · rintro (h | h) <;> simp [h]
        · rintro (h | h | h) <;> simp [h]
      · rw [if_neg e, List.mem_cons]
theorem rising_putM : ∀ (l : List Int) (n : Int), rising l → rising (putM l n)
  | [], n, _ => by simp [putM, rising]
  | x :: l, n, h => by
    have h' := List.pairwise_cons.1 h
    unfold putM
    by_cases c : x < n
    · rw [if_pos c]
      refine List.pairwise_cons.2 ⟨fun y hy => ?_, rising_putM l n h'.2⟩
      rcases (mem_putM l n y).1 hy with rfl | hy
      · exact c
      · exact h'.1 y hy
    · rw [if_neg c]
      by_cases e : x = n
      · rw [if_pos e]; exact h
      · rw [if_neg e]
        refine List.pairwise_cons.2 ⟨fun y hy => ?_, h⟩
        rcases List.mem_cons.1 hy with rfl | hy
        · omega
        · have := h'.1 y hy; omega
def stepP (w : Int) (st : List Int × Bool) (x : S79) : List Int × Bool := if x.f0 = w then st else if x.f1 = w then st else if st.1.contains x.f0 = st.1.contains x.f1 then st else (putM (putM st.1 x.f0) x.f1, true)
def cntP (R : List S79) (o : List Int) : Nat := R.countP (fun x => o.contains x.f0 && o.contains x.f1)
/-- What a list of stations keeps to. -/
structure PutOk (R : List S79) (a : Int) (o : List Int) : Prop where
  up : rising o
  sound : ∀ b ∈ o, Conn R a b
  has : a ∈ o
theorem stepP_ok {L : List S79} {w a : Int} {st : List Int × Bool} {x : S79} (hx : x ∈ L) (h : PutOk (restM L w) a st.1) :
    PutOk (restM L w) a (stepP w st x).1 ∧ (∀ b ∈ st.1, b ∈ (stepP w st x).1) ∧ ((stepP w st x).2 = true → st.2 = true ∨ cntP (restM L w) st.1 < cntP (restM L w) (stepP w st x).1) ∧ ((stepP w st x).2 = false → (stepP w st x) = st ∧ (notAt w x = true → st.1.contains x.f0 = st.1.contains x.f1)) := by
  unfold stepP
  by_cases h0 : x.f0 = w
  · rw [if_pos h0]
    exact ⟨h, fun b hb => hb, Or.inl, fun _ => ⟨rfl, fun h2 => by simp [notAt, h0] at h2⟩⟩
  rw [if_neg h0]
  by_cases h1 : x.f1 = w
  · rw [if_pos h1]
    exact ⟨h, fun b hb => hb, Or.inl, fun _ => ⟨rfl, fun h2 => by simp [notAt, h1] at h2⟩⟩
  rw [if_neg h1]
  by_cases hc : st.1.contains x.f0 = st.1.contains x.f1
  · rw [if_pos hc]
    exact ⟨h, fun b hb => hb, Or.inl, fun _ => ⟨rfl, fun _ => hc⟩⟩
  rw [if_neg hc]
  have hR : x ∈ restM L w := List.mem_filter.2 ⟨hx, by simp [notAt, h0, h1]⟩
  have hm : ∀ b, b ∈ putM (putM st.1 x.f0) x.f1 ↔ b = x.f1 ∨ b = x.f0 ∨ b ∈ st.1 := fun b => by rw [mem_putM, mem_putM]
  have hor : Conn (restM L w) a x.f0 ∧ Conn (restM L w) a x.f1 := by
    cases e0 : st.1.contains x.f0
    · cases e1 : st.1.contains x.f1
      · rw [e0, e1] at hc; exact absurd rfl hc
      · have k := h.sound _ (List.contains_iff_mem.1 e1)
        exact ⟨Conn.bwd hR k, k⟩
    · have k := h.sound _ (List.contains_iff_mem.1 e0)
      exact ⟨k, Conn.fwd hR k⟩
  refine ⟨⟨rising_putM _ _ (rising_putM _ _ h.up), fun b hb => ?_, (hm _).2 (Or.inr (Or.inr h.has))⟩, fun b hb => (hm b).2 (Or.inr (Or.inr hb)), fun _ => Or.inr ?_, fun h2 => by cases h2⟩
  · rcases (hm b).1 hb with rfl | rfl | hb
    · exact hor.2
    · exact hor.1
    · exact h.sound b hb
  · unfold cntP
    refine countP_lt _ ?_ ⟨x, hR, ?_, ?_⟩
    · intro y _ h3
      simp only [Bool.and_eq_true, List.contains_iff_mem] at h3 ⊢
      exact ⟨(hm _).2 (Or.inr (Or.inr h3.1)), (hm _).2 (Or.inr (Or.inr h3.2))⟩
    · cases e0 : st.1.contains x.f0 <;> cases e1 : st.1.contains x.f1 <;> simp_all
    · simp only [Bool.and_eq_true, List.contains_iff_mem]
      exact ⟨(hm _).2 (Or.inr (Or.inl rfl)), (hm _).2 (Or.inl rfl)⟩
theorem cntP_mono {R : List S79} {o o' : List Int} (h : ∀ b ∈ o, b ∈ o') : cntP R o ≤ cntP R o' := by
  unfold cntP
  refine List.countP_mono_left fun y _ h3 => ?_
  simp only [Bool.and_eq_true, List.contains_iff_mem] at h3 ⊢
  exact ⟨h _ h3.1, h _ h3.2⟩
theorem roundP_ok {L : List S79} {w a : Int} : ∀ (M : List S79) (st : List Int × Bool), (∀ x ∈ M, x ∈ L) → PutOk (restM L w) a st.1 →
    PutOk (restM L w) a (M.foldl (stepP w) st).1 ∧ (∀ b ∈ st.1, b ∈ (M.foldl (stepP w) st).1) ∧ ((M.foldl (stepP w) st).2 = true → st.2 = true ∨ cntP (restM L w) st.1 < cntP (restM L w) (M.foldl (stepP w) st).1) ∧ ((M.foldl (stepP w) st).2 = false → (M.foldl (stepP w) st) = st ∧ ∀ x ∈ M, notAt w x = true → st.1.contains x.f0 = st.1.contains x.f1)
  | [], st, _, h => ⟨h, fun b hb => hb, Or.inl, fun _ => ⟨rfl, fun x hx => by cases hx⟩⟩
  | x :: M, st, hM, h => by
    obtain ⟨a1, a2, a3, a4⟩ := stepP_ok (hM x List.mem_cons_self) h
    obtain ⟨b1, b2, b3, b4⟩ := roundP_ok M (stepP w st x) (fun y hy => hM y (List.mem_cons_of_mem _ hy)) a1
    rw [List.foldl_cons]
    refine ⟨b1, fun b hb => b2 b (a2 b hb), fun h1 => ?_, fun h1 => ?_⟩
    · have c1 := cntP_mono (R := restM L w) a2
      have c2 := cntP_mono (R := restM L w) b2
      rcases b3 h1 with h2 | h2
      · rcases a3 h2 with h3 | h3
        · exact Or.inl h3
        · exact Or.inr (by omega)
      · exact Or.inr (by omega)
    · obtain ⟨e1, e2⟩ := b4 h1
      have h5 : (stepP w st x).2 = false := by rw [← e1]; exact h1
      obtain ⟨e3, e4⟩ := a4 h5
      rw [e3] at e1 e2 ⊢
      refine ⟨e1, fun y hy => ?_⟩
      rcases List.mem_cons.1 hy with rfl | hy
      · exact e4
      · exact e2 y hy
theorem roundP_done {L : List S79} {w a : Int} (hL : ∀ x ∈ L, inSt x) (ha : 0 ≤ a ∧ a ≤ 7) {o : List Int} (h : PutOk (restM L w) a o) (hc : ∀ x ∈ L, notAt w x = true → o.contains x.f0 = o.contains x.f1) : o = caveM (restM L w) a := by
  refine rising_ext h.up (rising_caveM _ _) fun b => ?_
  rw [mem_caveM (restM_in hL w) ha]
  refine ⟨h.sound b, fun hb => ?_⟩
  have hcl : ∀ x ∈ restM L w, (x.f0 ∈ o ↔ x.f1 ∈ o) := by
    intro x hx
    have k := List.mem_filter.1 hx
    have k2 := hc x k.1 k.2
    rw [← List.contains_iff_mem, ← List.contains_iff_mem, k2]
  induction hb with
  | refl => exact h.has
  | fwd hx _ ih => exact (hcl _ hx).1 ih
  | bwd hx _ ih => exact (hcl _ hx).2 ih
theorem startP_ok (R : List S79) (a : Int) : PutOk R a [a] := ⟨by simp [rising], fun b hb => by rw [List.mem_singleton] at hb; exact hb ▸ Conn.refl, List.mem_singleton.2 rfl⟩
theorem restM_none {L : List S79} (hL : ∀ x ∈ L, inSt x) : restM L (-1) = L := by
  unfold restM
  rw [List.filter_eq_self]
  intro x hx
  have h := hL x hx
  have h0 := h.1.1
  have h1 := h.2.1
  simp only [notAt, Bool.not_eq_true', Bool.or_eq_false_iff, decide_eq_false_iff_not]
  omega
theorem cntP_le (R : List S79) (o : List Int) : cntP R o ≤ R.length := List.countP_le_length
theorem caveM_len (L : List S79) (a : Int) : (caveM L a).length ≤ 8 := List.length_filter_le _ _
/-- A list in order out of the stations has eight at most. -/
theorem rising_len : ∀ {o : List Int} {lo : Int}, rising o → (∀ b ∈ o, lo ≤ b ∧ b ≤ 7) → (o.length : Int) ≤ max 0 (8 - lo)
  | [], lo, _, _ => by simp; omega
  | x :: o, lo, h, hb => by
    have h' := List.pairwise_cons.1 h
    have h1 := hb x List.mem_cons_self
    have h2 := rising_len (lo := x + 1) h'.2 (fun b hm => ⟨by have := h'.1 b hm; omega, (hb b (List.mem_cons_of_mem _ hm)).2⟩)
    rw [List.length_cons]
    omega
theorem putOk_len {R : List S79} {a : Int} {o : List Int} (hR : ∀ x ∈ R, inSt x) (ha : 0 ≤ a ∧ a ≤ 7) (h : PutOk R a o) : o.length ≤ 8 := by
  have h1 := rising_len (lo := 0) h.up (fun b hb => conn_in hR ha (h.sound b hb))
  omega

theorem take_getD17 (l : List Int) (i : Nat) (h : i < l.length) : l.take (i + 1) = l.take i ++ [l.getD i 0] := by
  rw [List.take_add_one, List.getD_eq_getElem?_getD, List.getElem?_eq_getElem h]; rfl
theorem sp_l1Put_l0 (l : List Int) (n : Int) (hl : l.length ≤ 4096) : ∀ (d i : Nat), i + d = l.length → Evn (fun k => spec_l1Put.l0 k l n (i : Int)) (l.take i ++ putM (l.drop i) n) := by
  intro d
  induction d with
  | zero =>
    intro i h
    refine Evn.step ?_
    have h1 : ¬ (i : Int) < (l.length : Int) := by omega
    have h2 : 0 ≤ (i : Int) := by omega
    have h3 : (i : Int) ≤ (l.length : Int) := by omega
    have h4 : (l.take i).length ≤ 4096 := by rw [List.length_take]; omega
    have h5 : (l.drop i).length ≤ 4096 := by rw [List.length_drop]; omega
    have g1 : (l.take i).length < 17592186044416 := by omega
    have g2 : (l.take i).length + ([n] : List Int).length < 17592186044416 := by simp only [List.length_cons, List.length_nil]; omega
    have g3 : (l.take i ++ [n]).length + (l.drop i).length < 17592186044416 := by simp only [List.length_append, List.length_cons, List.length_nil]; omega
    simp only [spec_l1Put.l0, if_neg h1, if_pos h2, if_pos h3, Int.toNat_natCast, Option.bind_some, List.nil_append, List.length_nil, Nat.zero_add, if_pos g1, if_pos g2, if_pos g3]
    refine (Evn.done _).eq_ ?_
    rw [List.drop_eq_nil_of_le (by omega), List.append_nil]; rfl
  | succ d ih =>
    intro i h
    refine Evn.step ?_
    have h1 : (i : Int) < (l.length : Int) := by omega
    have h2 : 0 ≤ (i : Int) := by omega
    have h3 : (i : Int) ≤ (l.length : Int) := by omega
    have h4 : (l.take i).length ≤ 4096 := by rw [List.length_take]; omega
    have h5 : (l.drop i).length ≤ 4096 := by rw [List.length_drop]; omega
    have g1 : (l.take i).length < 17592186044416 := by omega
    have g2 : (l.take i).length + ([n] : List Int).length < 17592186044416 := by simp only [List.length_cons, List.length_nil]; omega
    have g3 : (l.take i ++ [n]).length + (l.drop i).length < 17592186044416 := by simp only [List.length_append, List.length_cons, List.length_nil]; omega
    simp only [spec_l1Put.l0, spec_xSame.f, if_pos h1, if_pos h2, if_pos h3, rd, Int.toNat_natCast, Option.bind_some, List.nil_append, List.length_nil, Nat.zero_add, if_pos g1, if_pos g2, if_pos g3, wrap_succ (show i < 4611686018427387904 by omega)]
    have hd := getD_drop l i 0 (by omega)
    refine Evn.ite (fun c => (ih (i + 1) (by omega)).eq_ ?_) (fun c => Evn.ite (fun c2 => (Evn.done _).eq_ ?_) (fun c2 => (Evn.done _).eq_ ?_))
    · rw [hd, putM, if_pos c, take_getD17 l i (by omega), List.append_assoc]; rfl
    · rw [hd, putM, if_neg c, if_pos c2, ← hd, List.take_append_drop]
    · rw [hd, putM, if_neg c, if_neg c2, List.append_assoc]; rfl
theorem sp_l1Put (l : List Int) (n : Int) (hl : l.length ≤ 4096) : Evn (fun k => spec_l1Put.f k l n) (putM l n) := by
  have h := sp_l1Put_l0 l n hl l.length 0 (by omega)
  simpa [spec_l1Put.f] using h

theorem sp_l17_step {L T : List S79} {w a : Int} {x : S79} {i : Nat} {o : List Int} {ag : Bool} {R : List Int} (hL : ∀ x ∈ L, inSt x) (ha : 0 ≤ a ∧ a ≤ 7) (hi : i < 4096) (hx : x ∈ L) (hok : PutOk (restM L w) a o)
    (ih : ∀ (o' : List Int) (ag' : Bool), PutOk (restM L w) a o' → Evn (fun k => spec_l17Cave.l0 k L w (T.foldl (stepP w) (o', ag')).1 (T.foldl (stepP w) (o', ag')).2) R → Evn (fun k => spec_l17Cave.l1 k L w o' ag' ((i + 1 : Nat) : Int)) R)
    (h0 : Evn (fun k => spec_l17Cave.l0 k L w (T.foldl (stepP w) (stepP w (o, ag) x)).1 (T.foldl (stepP w) (stepP w (o, ag) x)).2) R) :
    Evn (fun k => if x.f0 = w then spec_l17Cave.j2 k L w o ag (i : Int) x.f0 x.f1 true else if x.f1 = w then spec_l17Cave.j2 k L w o ag (i : Int) x.f0 x.f1 true else (spec_l1Has.f k o x.f0).bind fun t => (spec_l1Has.f k o x.f1).bind fun t' => spec_l17Cave.j2 k L w o ag (i : Int) x.f0 x.f1 (t == t')) R := by
  have hlo := putOk_len (restM_in hL w) ha hok
  have hk := (stepP_ok (a := a) (w := w) (st := (o, ag)) hx hok).1
  refine Evn.ite (fun c => ?_) (fun c => Evn.ite (fun c2 => ?_) (fun c2 => ?_))
  · refine Evn.step ?_
    simp only [spec_l17Cave.j2, if_true, wrap_succ (show i < 4611686018427387904 by omega)]
    have e : stepP w (o, ag) x = (o, ag) := by unfold stepP; rw [if_pos c]
    rw [e] at h0
    exact ih o ag hok h0
  · refine Evn.step ?_
    simp only [spec_l17Cave.j2, if_true, wrap_succ (show i < 4611686018427387904 by omega)]
    have e : stepP w (o, ag) x = (o, ag) := by unfold stepP; rw [if_neg c, if_pos c2]
    rw [e] at h0
    exact ih o ag hok h0
  · refine Evn.bind (sp_l1Has o x.f0 (by omega)) (Evn.bind (sp_l1Has o x.f1 (by omega)) ?_)
    refine Evn.step ?_
    simp only [spec_l17Cave.j2, wrap_succ (show i < 4611686018427387904 by omega), beq_iff_eq]
    refine Evn.ite (fun c3 => ?_) (fun c3 => ?_)
    · have e : stepP w (o, ag) x = (o, ag) := by unfold stepP; rw [if_neg c, if_neg c2, if_pos c3]
      rw [e] at h0
      exact ih o ag hok h0
    · have e : stepP w (o, ag) x = (putM (putM o x.f0) x.f1, true) := by unfold stepP; rw [if_neg c, if_neg c2, if_neg c3]
      rw [e] at h0 hk
      have hl1 : (putM o x.f0).length ≤ 4096 := Nat.le_trans (putM_len o x.f0) (by omega)
      exact Evn.bind (sp_l1Put o x.f0 (by omega)) (Evn.bind (sp_l1Put (putM o x.f0) x.f1 hl1) (ih _ true hk h0))
theorem sp_l17_l1 {L : List S79} {w a : Int} (hL : ∀ x ∈ L, inSt x) (ha : 0 ≤ a ∧ a ≤ 7) (hn : L.length ≤ 4096) (R : List Int) : ∀ (d i : Nat) (o : List Int) (ag : Bool), i + d = L.length → PutOk (restM L w) a o →
    Evn (fun k => spec_l17Cave.l0 k L w ((L.drop i).foldl (stepP w) (o, ag)).1 ((L.drop i).foldl (stepP w) (o, ag)).2) R → Evn (fun k => spec_l17Cave.l1 k L w o ag (i : Int)) R := by
  intro d
  induction d with
  | zero =>
    intro i o ag h _ h0
    refine Evn.step ?_
    have h1 : ¬ (i : Int) < (L.length : Int) := by omega
    simp only [spec_l17Cave.l1, if_neg h1]
    rw [List.drop_eq_nil_of_le (by omega)] at h0
    exact h0
  | succ d ih =>
    intro i o ag h hok h0
    refine Evn.step ?_
    have h1 : (i : Int) < (L.length : Int) := by omega
    have h2 : 0 ≤ (i : Int) := by omega
    have hx : L.getD i z79 ∈ L := by rw [List.getD_eq_getElem?_getD, List.getElem?_eq_getElem (show i < L.length by omega)]; exact List.getElem_mem _
    rw [getD_drop L i z79 (by omega)] at h0
    simp only [spec_l17Cave.l1, if_pos h1, if_pos h2, rd_T79, Int.toNat_natCast]
    simp only [List.foldl_cons] at h0
    exact sp_l17_step hL ha (by omega) hx hok (fun o' ag' hok' h' => ih (i + 1) o' ag' (by omega) hok' h') h0
theorem sp_l17_l0 {L : List S79} {w a : Int} (hL : ∀ x ∈ L, inSt x) (ha : 0 ≤ a ∧ a ≤ 7) (hn : L.length ≤ 4096) : ∀ (m : Nat) (o : List Int), (restM L w).length ≤ cntP (restM L w) o + m → PutOk (restM L w) a o →
    Evn (fun k => spec_l17Cave.l0 k L w o true) (caveM (restM L w) a) := by
  intro m
  induction m with
  | zero =>
    intro o h hok
    refine Evn.step ?_
    simp only [spec_l17Cave.l0, if_true]
    refine sp_l17_l1 hL ha hn _ L.length 0 o false (by omega) hok ?_
    rw [List.drop_zero]
    have hr := roundP_ok (w := w) (a := a) L (o, false) (fun _ h => h) hok
    cases e : (L.foldl (stepP w) (o, false)).2
    · obtain ⟨e1, e2⟩ := hr.2.2.2 e
      rw [e1]
      refine Evn.step ?_
      simp only [spec_l17Cave.l0, Bool.false_eq_true, if_false]
      exact (Evn.done _).eq_ (roundP_done hL ha hok e2)
    · rcases hr.2.2.1 e with h2 | h2
      · cases h2
      · have h3 := cntP_le (restM L w) (L.foldl (stepP w) (o, false)).1
        have h4 : cntP (restM L w) (o, false).1 = cntP (restM L w) o := rfl
        omega
  | succ m ih =>
    intro o h hok
    refine Evn.step ?_
    simp only [spec_l17Cave.l0, if_true]
    refine sp_l17_l1 hL ha hn _ L.length 0 o false (by omega) hok ?_
    rw [List.drop_zero]
    have hr := roundP_ok (w := w) (a := a) L (o, false) (fun _ h => h) hok
    cases e : (L.foldl (stepP w) (o, false)).2
    · obtain ⟨e1, e2⟩ := hr.2.2.2 e
      rw [e1]
      refine Evn.step ?_
      simp only [spec_l17Cave.l0, Bool.false_eq_true, if_false]
      exact (Evn.done _).eq_ (roundP_done hL ha hok e2)
    · rcases hr.2.2.1 e with h2 | h2
      · cases h2
      · have h4 : cntP (restM L w) (o, false).1 = cntP (restM L w) o := rfl
        exact ih _ (by omega) hr.1
theorem sp_l17Cave {L : List S79} (w a : Int) (hL : ∀ x ∈ L, inSt x) (ha : 0 ≤ a ∧ a ≤ 7) (hn : L.length ≤ 4096) : Evn (fun k => spec_l17Cave.f k L a w) (caveM (restM L w) a) := by
  unfold spec_l17Cave.f
  exact sp_l17_l0 hL ha hn _ [a] (Nat.le_add_left _ _) (startP_ok _ a)

def cutTs (L : List S79) : List Int × Bool := if goodLegs L = true then (cutsS L, true) else ([], false)
theorem st8_drop : ∀ s : Nat, s < 8 → st8.drop s = (s : Int) :: st8.drop (s + 1) := by
  intro s h
  match s, h with
  | 0, _ => rfl
  | 1, _ => rfl
  | 2, _ => rfl
  | 3, _ => rfl
  | 4, _ => rfl
  | 5, _ => rfl
  | 6, _ => rfl
  | 7, _ => rfl
theorem goodLegs_in {L : List S79} (h : goodLegs L = true) : ∀ x ∈ L, inSt x := by
  intro x hx
  simp only [goodLegs, Bool.and_eq_true, List.all_eq_true] at h
  have h2 := okLeg_in (h.1 x hx)
  exact ⟨h2.1, h2.2.1⟩
theorem getD_mem17 (l : List Int) (i : Nat) (h : i < l.length) : l.getD i 0 ∈ l := by
  rw [List.getD_eq_getElem?_getD, List.getElem?_eq_getElem h]; exact List.getElem_mem _
theorem sp_Cut_l0 {L : List S79} (hL : ∀ x ∈ L, inSt x) (hn : L.length ≤ 4096) : ∀ (d s : Nat) (out : List Int), s + d = 8 → out.length ≤ s →
    Evn (fun k => spec_CutStations.l0 k L out (s : Int)) (out ++ (st8.drop s).filter (cutS L), true) := by
  intro d
  induction d with
  | zero =>
    intro s out h _
    refine Evn.step ?_
    have h1 : ¬ (s : Int) < 8 := by omega
    simp only [spec_CutStations.l0, if_neg h1]
    refine (Evn.done _).eq_ ?_
    rw [show s = 8 by omega]
    simp [st8]
  | succ d ih =>
    intro s out h ho
    refine Evn.step ?_
    have h1 : (s : Int) < 8 := by omega
    have hs : 0 ≤ (s : Int) ∧ (s : Int) ≤ 7 := by omega
    have hC := sp_l17Cave (-1) (s : Int) hL hs hn
    rw [restM_none hL] at hC
    simp only [spec_CutStations.l0, if_pos h1, wrap_succ (show s < 4611686018427387904 by omega)]
    refine Evn.bind hC ?_
    have hin : ∀ b ∈ caveM L s, 0 ≤ b ∧ b ≤ 7 := fun b hb => conn_in hL hs ((mem_caveM hL hs b).1 hb)
    have hlen := caveM_len L (s : Int)
    have hg : out.length < 17592186044416 := by omega
    have hst := st8_drop s (by omega)
    have hno : cutS L s = false → Evn (fun k => spec_CutStations.l0 k L out ((s + 1 : Nat) : Int)) (out ++ (st8.drop s).filter (cutS L), true) := fun hc =>
      (ih (s + 1) out (by omega) (by omega)).eq_ (by rw [hst, List.filter_cons, hc]; simp)
    have hyes : cutS L s = true → Evn (fun k => spec_CutStations.l0 k L (out ++ [(s : Int)]) ((s + 1 : Nat) : Int)) (out ++ (st8.drop s).filter (cutS L), true) := fun hc =>
      (ih (s + 1) (out ++ [(s : Int)]) (by omega) (by simp; omega)).eq_ (by rw [hst, List.filter_cons, hc]; simp)
    have hcut : cutS L s = if (caveM L s).length < 3 then false else decide ((caveM (restM L s) (firstM (caveM L s) s)).length < (caveM L s).length - 1) := rfl
    refine Evn.ite (fun c => hno (by rw [hcut, if_pos (by omega)])) (fun c => ?_)
    rw [if_neg (by omega)] at hcut
    have hw : wrap64 (((caveM L (s : Int)).length : Int) - 1) = ((caveM L (s : Int)).length : Int) - 1 := wrap_id (by omega) (by omega)
    have hl2 : ∀ t : List Int, ((t.length : Int) < ((caveM L (s : Int)).length : Int) - 1) ↔ t.length < (caveM L (s : Int)).length - 1 := fun t => by omega
    simp only [if_pos (show (0 : Int) < ((caveM L (s : Int)).length : Int) by omega), if_pos (show (1 : Int) < ((caveM L (s : Int)).length : Int) by omega), hw, if_pos hg, rd]
    refine Evn.ite (fun c2 => ?_) (fun c2 => ?_)
    · have hf : firstM (caveM L s) s = (caveM L s).getD (1 : Int).toNat 0 := by have c2' : (caveM L (s : Int)).getD 0 0 = (s : Int) := c2; unfold firstM; rw [if_pos c2']; rfl
      rw [hf] at hcut
      refine Evn.bind (sp_l17Cave (s : Int) _ hL (hin _ (getD_mem17 _ _ (by show 1 < _; omega))) hn) ?_
      exact Evn.ite (fun c3 => hyes (by rw [hcut]; exact decide_eq_true ((hl2 _).1 c3))) (fun c3 => hno (by rw [hcut]; exact decide_eq_false (fun h => c3 ((hl2 _).2 h))))
    · have hf : firstM (caveM L s) s = (caveM L s).getD (0 : Int).toNat 0 := by have c2' : ¬ (caveM L (s : Int)).getD 0 0 = (s : Int) := c2; unfold firstM; rw [if_neg c2']; rfl
      rw [hf] at hcut
      refine Evn.bind (sp_l17Cave (s : Int) _ hL (hin _ (getD_mem17 _ _ (by show 0 < _; omega))) hn) ?_
      exact Evn.ite (fun c3 => hyes (by rw [hcut]; exact decide_eq_true ((hl2 _).1 c3))) (fun c3 => hno (by rw [hcut]; exact decide_eq_false (fun h => c3 ((hl2 _).2 h))))
theorem sp_CutStations (L : List S79) (hx : L.length ≤ 4194304) : Evn (fun k => spec_CutStations.f k L) (cutTs L) := by
  simp only [spec_CutStations.f, Option.bind_some]
  refine Evn.bind (sp_l4Legs L hx) ?_
  unfold cutTs
  refine Evn.ite (fun c => ?_) (fun c => ?_)
  · rw [if_pos c]
    have h := sp_Cut_l0 (goodLegs_in c) (by have := goodLegs_len c; omega) 8 0 [] (by omega) (by simp)
    simpa [cutsS] using h
  · rw [if_neg c]
    exact Evn.done _

-- laws_toLeg: as it stands

def convLeg (x : S81) : S79 := ⟨x.f0, x.f1, x.f2, x.f3, x.f4⟩
theorem ev_toLegS_l0 (xs : List S81) (hx : xs.length ≤ 1048576) : ∀ (d i : Nat) (ys : List S79), i + d = xs.length → ys.length = xs.length → Evn (fun k => laws_toLegS.l0 k xs ys (i : Int)) (ys.take i ++ (xs.drop i).map convLeg) := by
  intro d
  induction d with
  | zero =>
    intro i ys h hy
    refine Evn.step ?_
    have h1 : ¬ (i : Int) < (xs.length : Int) := by omega
    simp only [laws_toLegS.l0, if_neg h1]
    have e : ys.take i ++ (xs.drop i).map convLeg = ys := by rw [List.take_of_length_le (by omega), List.drop_eq_nil_of_le (by omega)]; simp
    rw [e]
    exact Evn.done _
  | succ d ih =>
    intro i ys h hy
    refine Evn.step ?_
    have h1 : (i : Int) < (xs.length : Int) := by omega
    have h2 : 0 ≤ (i : Int) := by omega
    have h3 : (i : Int) < (ys.length : Int) := by omega
    simp only [laws_toLegS.l0, laws_toLeg.f, if_pos h1, if_pos h2, if_pos h3, Option.bind_some, Int.toNat_natCast, wrap_succ (show i < 4611686018427387904 by omega)]
    refine (ih (i + 1) _ (by omega) (by simpa using hy)).eq_ ?_
    rw [set_take _ _ _ (by omega), getD_drop xs i z81 (by omega)]
    simp [convLeg, rd_T81]
theorem ev_toLegS (xs : List S81) (hx : xs.length ≤ 1048576) : Evn (fun k => laws_toLegS.f k xs) (xs.map convLeg) := by
  unfold laws_toLegS.f
  refine Evn.ite (fun _ => Evn.ite (fun _ => ?_) (fun h => (h (by omega)).elim)) (fun h => (h (by omega)).elim)
  have h := ev_toLegS_l0 xs hx xs.length 0 (List.replicate (xs.length : Int).toNat z79) (by omega) (by simp)
  simpa using h

theorem im_within (x y z : Int) : impl_within.f x y z = some (decide (y ≤ x ∧ x ≤ z)) := by
  unfold impl_within.f
  by_cases h : x ≥ y <;> simp [h] <;> omega

theorem im_isStation (x : Int) : impl_isStation.f x = some (decide (0 ≤ x ∧ x ≤ 7)) := by
  simp only [impl_isStation.f, im_within, Option.bind_some]

theorem im_IsLeg (x : S79) : impl_IsLeg.f x.f0 x.f1 x.f2 x.f3 x.f4 = some (okLeg x) := by
  simp only [impl_IsLeg.f, im_isStation, impl_isBearing.f, im_within, Option.bind_some, ite_and, ite_not, okLeg]

theorem im_areLegs_l0 (xs : List S79) (hx : xs.length ≤ 4194304) : ∀ (d i : Nat), i + d = xs.length → Evn (fun k => impl_areLegs.l0 k xs xs (xs.length : Int) (i : Int)) ((xs.drop i).all okLeg && decide (xs.length ≤ 12)) := by
  intro d
  induction d with
  | zero =>
    intro i h
    refine Evn.step ?_
    have h1 : ¬ (i : Int) < (xs.length : Int) := by omega
    simp only [impl_areLegs.l0, if_neg h1]
    rw [List.drop_eq_nil_of_le (by omega)]
    refine (Evn.done _).eq_ ?_
    simp only [List.all_nil, Bool.true_and, decide_eq_decide]
    omega
  | succ d ih =>
    intro i h
    refine Evn.step ?_
    have h1 : (i : Int) < (xs.length : Int) := by omega
    have h2 : 0 ≤ (i : Int) := by omega
    simp only [impl_areLegs.l0, if_pos h1, if_pos h2, im_IsLeg, Option.bind_some, wrap_succ (show i < 4611686018427387904 by omega), rd_T79, Int.toNat_natCast]
    rw [getD_drop xs i z79 (by omega), List.all_cons]
    exact Evn.ite (fun c => (ih (i + 1) (by omega)).eq_ (by simp only [c, Bool.true_and])) (fun c => (Evn.done _).eq_ (by simp only [Bool.eq_false_iff.mpr c, Bool.false_and]))
theorem im_areLegs (xs : List S79) (hx : xs.length ≤ 4194304) : Evn (fun k => impl_areLegs.f k xs) (goodLegs xs) := by
  have h := im_areLegs_l0 xs hx xs.length 0 (by omega)
  simpa [impl_areLegs.f, goodLegs] using h

def atIdx (s : Int) : List S79 → Int → List Int
  | [], _ => []
  | x :: l, i => if x.f0 = s then i :: atIdx s l (i + 1) else if x.f1 = s then i :: atIdx s l (i + 1) else atIdx s l (i + 1)
theorem atIdx_none (s : Int) : ∀ (l : List S79) (i : Int), (((atIdx s l i).length : Int) = 0) ↔ noLeg l s = true
  | [], i => by simp [atIdx, noLeg]
  | x :: l, i => by
    have ih := atIdx_none s l (i + 1)
    have e : noLeg (x :: l) s = (notAt s x && noLeg l s) := List.all_cons
    rw [e, atIdx]
    by_cases c0 : x.f0 = s
    · rw [if_pos c0]; simp [c0, notAt]; omega
    · rw [if_neg c0]
      by_cases c1 : x.f1 = s
      · rw [if_pos c1]; simp [c1, notAt]; omega
      · rw [if_neg c1, ih]; simp [notAt, c0, c1]
theorem im_legsAt_l0 (s : Int) (xs : List S79) (hx : xs.length ≤ 4194304) : ∀ (d i : Nat) (zs : List Int), i + d = xs.length → zs.length ≤ i → Evn (fun k => impl_legsAt.l0 k s zs xs (xs.length : Int) (i : Int)) (zs ++ atIdx s (xs.drop i) (i : Int)) := by
  intro d
  induction d with
  | zero =>
    intro i zs h hz
    refine Evn.step ?_
    have h1 : ¬ (i : Int) < (xs.length : Int) := by omega
    simp only [impl_legsAt.l0, if_neg h1]
    rw [List.drop_eq_nil_of_le (by omega)]
    exact (Evn.done _).eq_ (by simp [atIdx])
  | succ d ih =>
    intro i zs h hz
    refine Evn.step ?_
    have h1 : (i : Int) < (xs.length : Int) := by omega
    have h2 : 0 ≤ (i : Int) := by omega
    have h3 : zs.length < 17592186044416 := by omega
    rw [getD_drop xs i z79 (by omega)]
    simp only [impl_legsAt.l0, if_pos h1, if_pos h2, if_pos h3, rd_T79, Int.toNat_natCast, wrap_succ (show i < 4611686018427387904 by omega), atIdx]
    have e : ((i + 1 : Nat) : Int) = (i : Int) + 1 := by omega
    refine Evn.ite (fun c => (ih (i + 1) _ (by omega) (by simp; omega)).eq_ ?_) (fun c => Evn.ite (fun c2 => (ih (i + 1) _ (by omega) (by simp; omega)).eq_ ?_) (fun c2 => (ih (i + 1) _ (by omega) (by omega)).eq_ ?_))
    · rw [if_pos c, e, List.append_assoc]; rfl
    · rw [if_neg c, if_pos c2, e, List.append_assoc]; rfl
    · rw [if_neg c, if_neg c2, e]
theorem im_legsAt (s : Int) (xs : List S79) (hx : xs.length ≤ 4194304) : Evn (fun k => impl_legsAt.f k xs s) (atIdx s xs 0) := by
  have h := im_legsAt_l0 s xs hx xs.length 0 [] (by omega) (by simp)
  simpa [impl_legsAt.f] using h

def idxI (xs : List Int) (v : Int) : Nat → Int → Int
  | 0, _ => -1
  | d + 1, i => if v = xs.getD i.toNat 0 then i else idxI xs v d (i + 1)
theorem idxI_has (xs : List Int) (v : Int) : ∀ (d i : Nat), i + d = xs.length → decide (idxI xs v d (i : Int) ≥ 0) = (xs.drop i).contains v := by
  intro d
  induction d with
  | zero => intro i h; rw [List.drop_eq_nil_of_le (by omega)]; simp [idxI]
  | succ d ih =>
    intro i h
    rw [getD_drop xs i 0 (by omega), List.contains_cons]
    unfold idxI
    rw [Int.toNat_natCast]
    by_cases c : v = xs.getD i 0
    · rw [if_pos c, ← c]; simp
    · rw [if_neg c, show (v == xs.getD i 0) = false from by simpa using c, Bool.false_or]
      exact ih (i + 1) (by omega)
theorem li_Index_l0 (xs : List Int) (v : Int) (hx : xs.length ≤ 4194304) : ∀ (d i : Nat), i + d = xs.length → Evn (fun k => slices_Index_int_int.l0 k xs v (xs.length : Int) (i : Int)) (idxI xs v d (i : Int)) := by
  intro d
  induction d with
  | zero =>
    intro i h
    refine Evn.step ?_
    have h1 : ¬ (i : Int) < (xs.length : Int) := by omega
    simp only [slices_Index_int_int.l0, if_neg h1]
    exact Evn.done _
  | succ d ih =>
    intro i h
    refine Evn.step ?_
    have h1 : (i : Int) < (xs.length : Int) := by omega
    have h2 : 0 ≤ (i : Int) := by omega
    simp only [slices_Index_int_int.l0, if_pos h1, if_pos h2, rd, wrap_succ (show i < 4611686018427387904 by omega), idxI]
    refine Evn.ite (fun c => (Evn.done _).eq_ ?_) (fun c => (ih (i + 1) (by omega)).eq_ ?_)
    · rw [if_pos c]
    · rw [if_neg c]; rfl

theorem im_has (xs : List Int) (v : Int) (hx : xs.length ≤ 4194304) : Evn (fun k => impl_has.f k xs v) (xs.contains v) := by
  unfold impl_has.f slices_Contains_int_int.f slices_Index_int_int.f
  refine Evn.bind (Evn.bind (li_Index_l0 xs v hx xs.length 0 (by omega)) (Evn.done _)) ?_
  refine (Evn.done _).eq_ ?_
  have h := idxI_has xs v xs.length 0 (by omega)
  simpa using h

theorem rd_zero (n i : Nat) : rd (List.replicate n 0) (i : Int) ≥ 0 := by
  unfold rd
  rw [List.getD_eq_getElem?_getD, Int.toNat_natCast, List.getElem?_replicate]
  split <;> simp
theorem im_reach_l1 {L : List S79} (hL : ∀ x ∈ L, inSt x) (hn : L.length ≤ 4096) (i : Int) (R : List Bool) : ∀ (d j : Nat) (S : List Bool), j + d = L.length → S.length = 8 →
    Evn (fun k => impl_reach.l0 k L (List.replicate L.length 0) 0 ((L.drop j).foldl stepR S) (L.length : Int) (wrap64 (i + 1))) R → Evn (fun k => impl_reach.l1 k L (List.replicate L.length 0) 0 S (L.length : Int) i L (L.length : Int) (j : Int)) R := by
  intro d
  induction d with
  | zero =>
    intro j S h _ h0
    refine Evn.step ?_
    have h1 : ¬ (j : Int) < (L.length : Int) := by omega
    simp only [impl_reach.l1, if_neg h1]
    rw [List.drop_eq_nil_of_le (by omega)] at h0
    exact h0
  | succ d ih =>
    intro j S h hS h0
    refine Evn.step ?_
    have h1 : (j : Int) < (L.length : Int) := by omega
    have h2 : 0 ≤ (j : Int) := by omega
    have h3 : (j : Int) < ((List.replicate L.length (0 : Int)).length : Int) := by rw [List.length_replicate]; exact h1
    have h4 := rd_zero L.length j
    have hx : L.getD j z79 ∈ L := by rw [List.getD_eq_getElem?_getD, List.getElem?_eq_getElem (show j < L.length by omega)]; exact List.getElem_mem _
    obtain ⟨⟨a0, a1⟩, b0, b1⟩ := hL _ hx
    have a2 : (L.getD j z79).f0 < (S.length : Int) := by omega
    have b2 : (L.getD j z79).f1 < (S.length : Int) := by omega
    rw [getD_drop L j z79 (by omega), List.foldl_cons] at h0
    simp only [impl_reach.l1, if_pos h1, if_pos h2, if_pos h3, if_pos h4, rd_T79, Int.toNat_natCast, if_pos a0, if_pos a2, if_pos b0, if_pos b2, wrap_succ (show j < 4611686018427387904 by omega)]
    refine Evn.ite (fun c => ?_) (fun c => ?_)
    · have e : stepR S (L.getD j z79) = (S.set (L.getD j z79).f0.toNat true).set (L.getD j z79).f1.toNat true := by
        unfold stepR sAt
        rw [if_neg]
        intro h'
        simp only [rdOf] at c
        rw [h'] at c
        simp at c
      rw [e] at h0
      exact ih (j + 1) _ (by omega) (by simp [hS]) h0
    · have e : stepR S (L.getD j z79) = S := by
        unfold stepR sAt
        rw [if_pos]
        simp only [rdOf] at c
        simpa using c
      rw [e] at h0
      exact ih (j + 1) _ (by omega) hS h0
theorem im_reach_l0 {L : List S79} (hL : ∀ x ∈ L, inSt x) (hn : L.length ≤ 4096) : ∀ (d i : Nat) (S : List Bool), i + d = L.length → S.length = 8 →
    Evn (fun k => impl_reach.l0 k L (List.replicate L.length 0) 0 S (L.length : Int) (i : Int)) (roundsR L d S) := by
  intro d
  induction d with
  | zero =>
    intro i S h _
    refine Evn.step ?_
    have h1 : ¬ (i : Int) < (L.length : Int) := by omega
    simp only [impl_reach.l0, if_neg h1]
    exact Evn.done _
  | succ d ih =>
    intro i S h hS
    refine Evn.step ?_
    have h1 : (i : Int) < (L.length : Int) := by omega
    simp only [impl_reach.l0, if_pos h1]
    refine im_reach_l1 hL hn (i : Int) _ L.length 0 S (by omega) hS ?_
    rw [List.drop_zero, wrap_succ (show i < 4611686018427387904 by omega)]
    exact ih (i + 1) _ (by omega) (by rw [show L.foldl stepR S = roundR L S from rfl, roundR_len, hS])
theorem im_reach {L : List S79} (a : Int) (hL : ∀ x ∈ L, inSt x) (hn : L.length ≤ 4096) (ha : 0 ≤ a ∧ a ≤ 7) : Evn (fun k => impl_reach.f k L (List.replicate L.length 0) a 0) (reachM L a) := by
  have h8 : a < ((List.replicate 8 false).length : Int) := by simp; omega
  simp only [impl_reach.f, Option.bind_some, if_pos ha.1, if_pos h8]
  exact im_reach_l0 hL hn L.length 0 (startR a) (by omega) (startR_len a)

theorem im_xReach {L : List S79} (a : Int) (hL : ∀ x ∈ L, inSt x) (hn : L.length ≤ 4096) (ha : 0 ≤ a ∧ a ≤ 7) : Evn (fun k => impl_xReach.f k L (List.replicate L.length 0) a 0) (bitsM (reachM L a)) := by
  unfold impl_xReach.f
  refine Evn.bind (im_reach a hL hn ha) ?_
  rw [if_pos (reachM_len L a)]
  exact Evn.done _
theorem pick_all : ∀ b0 b1 b2 b3 b4 b5 b6 b7 : Bool, ∀ i : Fin 8, decide (bitsM [b0, b1, b2, b3, b4, b5, b6, b7] / 2 ^ i.val % 2 = 1) = [b0, b1, b2, b3, b4, b5, b6, b7].getD i.val false := by decide +kernel
theorem list8p {α : Type} (l : List α) (h : l.length = 8) : ∃ a b c d e f g i, l = [a, b, c, d, e, f, g, i] := by
  match l, h with
  | [a, b, c, d, e, f, g, i], _ => exact ⟨a, b, c, d, e, f, g, i, rfl⟩
theorem im_xPick (S : List Bool) (hS : S.length = 8) (i : Int) (hi : 0 ≤ i ∧ i ≤ 7) : impl_xPick.f (bitsM S) i = some (sAt S i) := by
  obtain ⟨b0, b1, b2, b3, b4, b5, b6, b7, rfl⟩ := list8p S hS
  unfold impl_xPick.f sAt
  rw [if_pos (by omega)]
  have h := pick_all b0 b1 b2 b3 b4 b5 b6 b7 ⟨i.toNat, by omega⟩
  rw [h]

def idxC (s : Int) : List (List Int) → Int → Int
  | [], _ => -1
  | c :: l, i => if c.contains s = true then i else idxC s l (i + 1)
theorem idxC_any (s : Int) : ∀ (l : List (List Int)) (i : Int), 0 ≤ i → decide (0 ≤ idxC s l i) = l.any (fun c => c.contains s)
  | [], _, _ => by simp [idxC]
  | c :: l, i, hi => by
    unfold idxC
    rw [List.any_cons]
    by_cases h : c.contains s = true
    · rw [if_pos h, h]; simp [hi]
    · rw [if_neg h, Bool.eq_false_iff.2 h, Bool.false_or]; exact idxC_any s l (i + 1) (by omega)
theorem im_inCave (s : Int) : ∀ (l : List (List Int)) (i : Int), (∀ c ∈ l, c.length ≤ 8) → Evn (fun k => inCave k s l i) (idxC s l i)
  | [], i, _ => Evn.done _
  | c :: l, i, h => by
    unfold inCave idxC
    refine Evn.bind (im_has c s (by have := h c List.mem_cons_self; omega)) ?_
    exact Evn.ite (fun e => (Evn.done _).eq_ (by rw [if_pos e])) (fun e => (im_inCave s l (i + 1) (fun d hd => h d (List.mem_cons_of_mem _ hd))).eq_ (by rw [if_neg e]))
theorem im_xInCave (s : Int) (l : List (List Int)) (h : ∀ c ∈ l, c.length ≤ 8) : Evn (fun k => impl_xInCave.f k l s) (l.any (fun c => c.contains s)) := by
  unfold impl_xInCave.f
  refine Evn.bind (im_inCave s l 0 h) ?_
  rw [idxC_any s l 0 (Int.le_refl 0)]
  exact Evn.done _

theorem im_caves_l1 {L : List S79} (S : List Bool) (hS : S.length = 8) (s : Int) (all : List (List Int)) (hal : all.length ≤ 8) (R : List (List Int)) : ∀ (d o : Nat) (zs : List Int), o + d = 8 → zs.length ≤ o →
    Evn (fun k => impl_caves.l0 k L (all ++ [zs ++ (st8.drop o).filter (fun b => sAt S b)]) (wrap64 (s + 1))) R → Evn (fun k => impl_caves.l1 k L all zs s (bitsM S) (o : Int)) R := by
  intro d
  induction d with
  | zero =>
    intro o zs h hz h0
    refine Evn.step ?_
    have h1 : ¬ (o : Int) < 8 := by omega
    have h2 : all.length < 5864062014805 := by omega
    simp only [impl_caves.l1, if_neg h1, if_pos h2]
    rw [show o = 8 by omega] at h0
    simpa [st8] using h0
  | succ d ih =>
    intro o zs h hz h0
    refine Evn.step ?_
    have h1 : (o : Int) < 8 := by omega
    have h2 : zs.length < 17592186044416 := by omega
    simp only [impl_caves.l1, if_pos h1, im_xPick S hS (o : Int) (by omega), Option.bind_some, if_pos h2, wrap_succ (show o < 4611686018427387904 by omega)]
    rw [st8_drop o (by omega), List.filter_cons] at h0
    refine Evn.ite (fun c => ?_) (fun c => ?_)
    · rw [if_pos c] at h0
      refine ih (o + 1) (zs ++ [(o : Int)]) (by omega) (by simp; omega) ?_
      rw [List.append_assoc]
      exact h0
    · rw [if_neg c] at h0
      exact ih (o + 1) zs (by omega) (by omega) h0
theorem im_caves_l0 {L : List S79} (hL : ∀ x ∈ L, inSt x) (hn : L.length ≤ 4096) : ∀ (d s : Nat) (all : List (List Int)), s + d = 8 → all.length ≤ s → (∀ c ∈ all, c.length ≤ 8) →
    Evn (fun k => impl_caves.l0 k L all (s : Int)) ((st8.drop s).foldl (addCave L) all) := by
  intro d
  induction d with
  | zero =>
    intro s all h _ _
    refine Evn.step ?_
    have h1 : ¬ (s : Int) < 8 := by omega
    simp only [impl_caves.l0, if_neg h1]
    rw [show s = 8 by omega]
    exact Evn.done _
  | succ d ih =>
    intro s all h ha hc
    refine Evn.step ?_
    have h1 : (s : Int) < 8 := by omega
    have hs : 0 ≤ (s : Int) ∧ (s : Int) ≤ 7 := by omega
    simp only [impl_caves.l0, if_pos h1]
    refine Evn.bind (im_legsAt (s : Int) L (by omega)) ?_
    rw [st8_drop s (by omega), List.foldl_cons]
    have hskip : (noLeg L s || all.any (fun c => c.contains (s : Int))) = true → Evn (fun k => impl_caves.j1 k L all (s : Int) (s : Int) true) ((st8.drop (s + 1)).foldl (addCave L) (addCave L all s)) := by
      intro e
      refine Evn.step ?_
      simp only [impl_caves.j1, if_true, wrap_succ (show s < 4611686018427387904 by omega)]
      unfold addCave
      rw [if_pos e]
      exact ih (s + 1) all (by omega) (by omega) hc
    have hnew : (noLeg L s || all.any (fun c => c.contains (s : Int))) = false → Evn (fun k => impl_caves.j1 k L all (s : Int) (s : Int) false) ((st8.drop (s + 1)).foldl (addCave L) (addCave L all s)) := by
      intro e
      refine Evn.step ?_
      have h2 : 0 ≤ (L.length : Int) := by omega
      have h3 : (L.length : Int).toNat ≤ 35184372088832 := by omega
      have h4 : L.length ≤ 35184372088832 := by omega
      simp only [impl_caves.j1, Bool.false_eq_true, if_false, if_pos h2, if_pos h3, if_pos h4, Int.toNat_natCast]
      refine Evn.bind (im_xReach (s : Int) hL hn hs) ?_
      refine im_caves_l1 _ (reachM_len L s) (s : Int) all (by omega) _ 8 0 [] (by omega) (by simp) ?_
      rw [List.drop_zero, List.nil_append, wrap_succ (show s < 4611686018427387904 by omega)]
      have e2 : addCave L all s = all ++ [caveM L s] := by unfold addCave; rw [e, if_neg (by decide)]
      rw [e2]
      refine ih (s + 1) (all ++ [caveM L s]) (by omega) (by simp; omega) ?_
      intro c hcm
      rcases List.mem_append.1 hcm with h | h
      · exact hc c h
      · rw [List.mem_singleton] at h; rw [h]; exact caveM_len L s
    refine Evn.ite (fun c => ?_) (fun c => ?_)
    · exact hskip (by rw [(atIdx_none (s : Int) L 0).1 c]; rfl)
    · have hno : noLeg L s = false := Bool.eq_false_iff.2 fun h => c ((atIdx_none (s : Int) L 0).2 h)
      refine Evn.bind (im_xInCave (s : Int) all hc) ?_
      rw [hno, Bool.false_or] at hskip hnew
      cases e : all.any (fun c => c.contains (s : Int))
      · exact hnew e
      · exact hskip e
theorem im_caves {L : List S79} (hL : ∀ x ∈ L, inSt x) (hn : L.length ≤ 4096) : Evn (fun k => impl_caves.f k L) (cavesM L) := by
  have h := im_caves_l0 hL hn 8 0 [] (by omega) (by simp) (by simp)
  simpa [impl_caves.f, cavesM] using h

theorem idx17 (p : S79 → Bool) : ∀ (l : List S79) (i : Nat), (idxP79 p l (i : Int) = -1 ∧ ∀ x ∈ l, p x = false) ∨ ∃ j : Nat, j < l.length ∧ idxP79 p l (i : Int) = ((i + j : Nat) : Int) ∧ (∀ x ∈ l.take j, p x = false) ∧ p (l.getD j z79) = true
  | [], i => Or.inl ⟨rfl, by simp⟩
  | x :: l, i => by
    rw [idxP79]
    by_cases c : p x = true
    · rw [if_pos c]
      exact Or.inr ⟨0, by simp, by simp, by simp, by simpa using c⟩
    · rw [if_neg c]
      have e : ((i : Int) + 1) = ((i + 1 : Nat) : Int) := by omega
      rw [e]
      have hx : p x = false := Bool.eq_false_iff.2 c
      rcases idx17 p l (i + 1) with ⟨h1, h2⟩ | ⟨j, h1, h2, h3, h4⟩
      · refine Or.inl ⟨h1, fun y hy => ?_⟩
        rcases List.mem_cons.1 hy with rfl | hy
        · exact hx
        · exact h2 y hy
      · refine Or.inr ⟨j + 1, by simp; omega, by rw [h2]; congr 1; omega, fun y hy => ?_, by simpa using h4⟩
        rw [List.take_succ_cons] at hy
        rcases List.mem_cons.1 hy with rfl | hy
        · exact hx
        · exact h3 y hy
theorem take_getL17 (l : List S79) (i : Nat) (h : i < l.length) : l.take (i + 1) = l.take i ++ [l.getD i z79] := by
  rw [List.take_add_one, List.getD_eq_getElem?_getD, List.getElem?_eq_getElem h]; rfl
theorem im_rest_l0 (s : Int) (L : List S79) (hn : L.length ≤ 4096) : ∀ (d j i : Nat) (X : List S79), j + d = L.length → i ≤ j → X.length = L.length → X.take i = (L.take j).filter (notAt s) → X.drop j = L.drop j →
    Evn (fun k => impl_Leg_75.l0 k X s (i : Int) (j : Int)) (restM L s) := by
  intro d
  induction d with
  | zero =>
    intro j i X h hij hX hi hj
    refine Evn.step ?_
    have h1 : ¬ (j : Int) < (X.length : Int) := by omega
    have h2 : 0 ≤ (i : Int) := by omega
    have h3 : (i : Int) ≤ (X.length : Int) := by omega
    simp only [impl_Leg_75.l0, if_neg h1, if_pos h2, if_pos h3, Int.toNat_natCast]
    refine (Evn.done _).eq_ ?_
    rw [hi, List.take_of_length_le (by omega)]
    rfl
  | succ d ih =>
    intro j i X h hij hX hi hj
    refine Evn.step ?_
    have h1 : (j : Int) < (X.length : Int) := by omega
    have h2 : 0 ≤ (j : Int) := by omega
    have h3 : 0 ≤ (i : Int) := by omega
    have h4 : (i : Int) < (X.length : Int) := by omega
    have hx : X.getD j z79 = L.getD j z79 := by
      have e := congrArg (fun l => l.getD 0 z79) hj
      simpa [List.getD_eq_getElem?_getD, List.getElem?_drop] using e
    have hj' : X.drop (j + 1) = L.drop (j + 1) := by
      have e := congrArg (fun l => l.drop 1) hj
      simpa [List.drop_drop] using e
    have ht := take_getL17 L j (by omega)
    simp only [impl_Leg_75.l0, if_pos h1, if_pos h2, if_pos h3, if_pos h4, impl_xAtSt.f, Option.bind_some, rd_T79, Int.toNat_natCast, wrap_succ (show j < 4611686018427387904 by omega), wrap_succ (show i < 4611686018427387904 by omega)]
    refine Evn.ite (fun c => ?_) (fun c => ?_)
    · refine ih (j + 1) i X (by omega) (by omega) hX ?_ hj'
      rw [ht, List.filter_append, hi]
      have e : notAt s (L.getD j z79) = false := by
        rw [← hx]
        simp only [Bool.or_eq_true] at c
        have c' : (X.getD j z79).f0 = s ∨ (X.getD j z79).f1 = s := c.imp (fun h => of_decide_eq_true h) (fun h => of_decide_eq_true h)
        clear c
        generalize X.getD j z79 = y at c' ⊢
        unfold notAt
        rcases c' with c | c <;> simp [c]
      simp only [List.filter_cons, e, Bool.false_eq_true, if_false, List.filter_nil, List.append_nil]
    · refine ih (j + 1) (i + 1) _ (by omega) (by omega) (by rw [List.length_set, hX]) ?_ ?_
      · have e : notAt s (L.getD j z79) = true := by
          rw [← hx]
          simp only [Bool.or_eq_true, not_or] at c
          have c1 : ¬ (X.getD j z79).f0 = s := fun h => c.1 (decide_eq_true h)
          have c2 : ¬ (X.getD j z79).f1 = s := fun h => c.2 (decide_eq_true h)
          clear c
          generalize X.getD j z79 = y at c1 c2 ⊢
          simp [notAt, c1, c2]
        rw [ht, List.filter_append, ← hi]
        simp only [List.filter_cons, e, if_true, List.filter_nil]
        rw [take_getL17 _ i (by rw [List.length_set]; omega), List.take_set_of_le (Nat.le_refl _)]
        congr 1
        rw [List.getD_eq_getElem?_getD, List.getElem?_set_self (by omega), ← hx]
        rfl
      · rw [List.drop_set_of_lt (by omega)]
        exact hj'
theorem im_rest (s : Int) (L : List S79) (hn : L.length ≤ 4096) : Evn (fun k => impl_Leg_75.f k L s) (restM L s) := by
  simp only [impl_Leg_75.f, impl_xIdxSt.f, Option.bind_some]
  have hp : ∀ x : S79, (decide (x.f0 = s) || decide (x.f1 = s)) = false → notAt s x = true := fun x h => by unfold notAt; rw [h]; rfl
  have hp' : ∀ x : S79, (decide (x.f0 = s) || decide (x.f1 = s)) = true → notAt s x = false := fun x h => by unfold notAt; rw [h]; rfl
  rcases idx17 (fun x => decide (x.f0 = s) || decide (x.f1 = s)) L 0 with ⟨h1, h2⟩ | ⟨j, h1, h2, h3, h4⟩
  · have h1' : idxP79 (fun x => decide (x.f0 = s) || decide (x.f1 = s)) L 0 = -1 := h1
    rw [h1']
    refine Evn.ite (fun _ => (Evn.done _).eq_ ?_) (fun c => absurd rfl c)
    unfold restM
    rw [List.filter_eq_self.2 fun x hx => hp x (h2 x hx)]
  · have h2' : idxP79 (fun x => decide (x.f0 = s) || decide (x.f1 = s)) L 0 = (j : Int) := by rw [Nat.zero_add] at h2; exact h2
    rw [h2']
    refine Evn.ite (fun c => absurd c (by omega)) (fun _ => ?_)
    rw [wrap_succ (show j < 4611686018427387904 by omega)]
    refine im_rest_l0 s L hn (L.length - (j + 1)) (j + 1) j L (by omega) (by omega) rfl ?_ rfl
    rw [take_getL17 L j h1, List.filter_append, List.filter_eq_self.2 fun x hx => hp x (h3 x hx)]
    simp only [List.filter_cons, hp' _ h4, Bool.false_eq_true, if_false, List.filter_nil, List.append_nil]

theorem im_CloneLegs (xs : List S79) (hx : xs.length ≤ 4194304) : impl_Leg_76.f xs = some xs := by
  unfold impl_Leg_76.f
  rw [if_pos (by omega)]

theorem im_together {L : List S79} (a b : Int) (hL : ∀ x ∈ L, inSt x) (hn : L.length ≤ 4096) (ha : 0 ≤ a ∧ a ≤ 7) (hb : 0 ≤ b ∧ b ≤ 7) : Evn (fun k => impl_together.f k L a b) (sAt (reachM L a) b) := by
  have h2 : 0 ≤ (L.length : Int) := by omega
  have h3 : (L.length : Int).toNat ≤ 35184372088832 := by omega
  have h4 : L.length ≤ 35184372088832 := by omega
  simp only [impl_together.f, if_pos h2, if_pos h3, if_pos h4, Int.toNat_natCast]
  refine Evn.bind (im_xReach a hL hn ha) ?_
  simp only [im_xPick _ (reachM_len L a) b hb, Option.bind_some]
  exact Evn.done _

def restCut (R : List S79) : List Int → Bool
  | [] => false
  | f :: os => os.any (fun o => !sAt (reachM R f) o)
theorem im_isCut_some {R : List S79} (hR : ∀ x ∈ R, inSt x) (hn : R.length ≤ 4096) (s f : Int) (hf : 0 ≤ f ∧ f ≤ 7) (C : List Int) (hC : ∀ b ∈ C, 0 ≤ b ∧ b ≤ 7) (hl : C.length ≤ 8) : ∀ (d i : Nat), i + d = C.length →
    Evn (fun k => impl_isCut.l0 k s R f C (C.length : Int) (i : Int)) (((C.drop i).filter (fun o => decide (o ≠ s))).any (fun o => !sAt (reachM R f) o)) := by
  intro d
  induction d with
  | zero =>
    intro i h
    refine Evn.step ?_
    have h1 : ¬ (i : Int) < (C.length : Int) := by omega
    simp only [impl_isCut.l0, if_neg h1]
    rw [List.drop_eq_nil_of_le (by omega)]
    exact Evn.done _
  | succ d ih =>
    intro i h
    refine Evn.step ?_
    have h1 : (i : Int) < (C.length : Int) := by omega
    have h2 : 0 ≤ (i : Int) := by omega
    have h3 : ¬ f < 0 := by omega
    have hx := hC _ (getD_mem17 C i (by omega))
    rw [getD_drop C i 0 (by omega), List.filter_cons]
    simp only [impl_isCut.l0, if_pos h1, if_pos h2, if_neg h3, rd, Int.toNat_natCast, wrap_succ (show i < 4611686018427387904 by omega)]
    refine Evn.ite (fun c => ?_) (fun c => ?_)
    · rw [if_neg (by simpa using c)]
      exact ih (i + 1) (by omega)
    · rw [if_pos (by simpa using c), List.any_cons]
      refine Evn.bind (im_together f _ hR hn hf hx) ?_
      refine Evn.ite (fun e => ?_) (fun e => ?_)
      · rw [e]; exact ih (i + 1) (by omega)
      · rw [Bool.eq_false_iff.2 e]; exact Evn.done _
theorem im_isCut_none {R : List S79} (hR : ∀ x ∈ R, inSt x) (hn : R.length ≤ 4096) (s : Int) (C : List Int) (hC : ∀ b ∈ C, 0 ≤ b ∧ b ≤ 7) (hl : C.length ≤ 8) : ∀ (d i : Nat), i + d = C.length →
    Evn (fun k => impl_isCut.l0 k s R (-1) C (C.length : Int) (i : Int)) (restCut R ((C.drop i).filter (fun o => decide (o ≠ s)))) := by
  intro d
  induction d with
  | zero =>
    intro i h
    refine Evn.step ?_
    have h1 : ¬ (i : Int) < (C.length : Int) := by omega
    simp only [impl_isCut.l0, if_neg h1]
    rw [List.drop_eq_nil_of_le (by omega)]
    exact Evn.done _
  | succ d ih =>
    intro i h
    refine Evn.step ?_
    have h1 : (i : Int) < (C.length : Int) := by omega
    have h2 : 0 ≤ (i : Int) := by omega
    have h3 : (-1 : Int) < 0 := by omega
    have hx := hC _ (getD_mem17 C i (by omega))
    rw [getD_drop C i 0 (by omega), List.filter_cons]
    simp only [impl_isCut.l0, if_pos h1, if_pos h2, if_pos h3, rd, Int.toNat_natCast, wrap_succ (show i < 4611686018427387904 by omega)]
    refine Evn.ite (fun c => ?_) (fun c => ?_)
    · rw [if_neg (by simpa using c)]
      exact ih (i + 1) (by omega)
    · rw [if_pos (by simpa using c), restCut]
      exact im_isCut_some hR hn s _ hx C hC hl d (i + 1) (by omega)
theorem im_isCut {L : List S79} (hL : ∀ x ∈ L, inSt x) (hn : L.length ≤ 4096) (s : Int) (C : List Int) (hC : ∀ b ∈ C, 0 ≤ b ∧ b ≤ 7) (hl : C.length ≤ 8) : Evn (fun k => impl_isCut.f k L C s) (cutM L C s) := by
  simp only [impl_isCut.f, im_CloneLegs L (by omega), Option.bind_some]
  refine Evn.bind (im_rest s L hn) ?_
  have h := im_isCut_none (restM_in hL s) (Nat.le_trans (List.length_filter_le _ _) hn) s C hC hl C.length 0 (by omega)
  rw [List.drop_zero] at h
  refine Evn.eq_ h ?_
  unfold cutM restCut
  cases C.filter (fun o => decide (o ≠ s)) <;> rfl

theorem im_Cut_l1 {L : List S79} (hL : ∀ x ∈ L, inSt x) (hn : L.length ≤ 4096) (AC : List (List Int)) (i : Nat) (c : List Int) (hc : ∀ b ∈ c, 0 ≤ b ∧ b ≤ 7) (hl : c.length ≤ 8) (R : List Int × Bool) : ∀ (d j : Nat) (out : List Int), j + d = c.length → out.length ≤ 100000 + j →
    Evn (fun k => impl_CutStations.l0 k L (out ++ (c.drop j).filter (fun s => cutM L c s)) AC (AC.length : Int) (wrap64 ((i : Int) + 1))) R → Evn (fun k => impl_CutStations.l1 k L out c AC (AC.length : Int) (i : Int) c (c.length : Int) (j : Int)) R := by
  intro d
  induction d with
  | zero =>
    intro j out h _ h0
    refine Evn.step ?_
    have h1 : ¬ (j : Int) < (c.length : Int) := by omega
    simp only [impl_CutStations.l1, if_neg h1]
    rw [List.drop_eq_nil_of_le (by omega)] at h0
    simpa using h0
  | succ d ih =>
    intro j out h ho h0
    refine Evn.step ?_
    have h1 : (j : Int) < (c.length : Int) := by omega
    have h2 : 0 ≤ (j : Int) := by omega
    have h3 : out.length < 17592186044416 := by omega
    rw [getD_drop c j 0 (by omega), List.filter_cons] at h0
    simp only [impl_CutStations.l1, if_pos h1, if_pos h2, if_pos h3, rd, Int.toNat_natCast, wrap_succ (show j < 4611686018427387904 by omega)]
    refine Evn.bind (im_isCut hL hn _ c hc hl) ?_
    refine Evn.ite (fun e => ?_) (fun e => ?_)
    · rw [if_pos e] at h0
      refine ih (j + 1) _ (by omega) (by simp; omega) ?_
      rw [List.append_assoc]
      exact h0
    · rw [if_neg e] at h0
      exact ih (j + 1) out (by omega) (by omega) h0
theorem im_Cut_l0 {L : List S79} (hL : ∀ x ∈ L, inSt x) (hn : L.length ≤ 4096) (AC : List (List Int)) (hA : AC.length ≤ 8) (hAC : ∀ c ∈ AC, (∀ b ∈ c, 0 ≤ b ∧ b ≤ 7) ∧ c.length ≤ 8) : ∀ (d i : Nat) (out : List Int), i + d = AC.length → out.length ≤ 8 * i →
    Evn (fun k => impl_CutStations.l0 k L out AC (AC.length : Int) (i : Int)) ((((AC.drop i).foldl (fun out c => out ++ cutsOf L c) out).mergeSort fun x y => decide (x ≤ y)), true) := by
  intro d
  induction d with
  | zero =>
    intro i out h ho
    refine Evn.step ?_
    have h1 : ¬ (i : Int) < (AC.length : Int) := by omega
    have h2 : out.length < 4611686018427387904 := by omega
    simp only [impl_CutStations.l0, if_neg h1, slices_Sort_int_int.f, if_pos h2, Option.bind_some]
    rw [List.drop_eq_nil_of_le (by omega)]
    exact Evn.done _
  | succ d ih =>
    intro i out h ho
    refine Evn.step ?_
    have h1 : (i : Int) < (AC.length : Int) := by omega
    have h2 : 0 ≤ (i : Int) := by omega
    have hm : AC.getD i [] ∈ AC := by rw [List.getD_eq_getElem?_getD, List.getElem?_eq_getElem (show i < AC.length by omega)]; exact List.getElem_mem _
    obtain ⟨k1, k2⟩ := hAC _ hm
    rw [getD_drop AC i [] (by omega), List.foldl_cons]
    simp only [impl_CutStations.l0, if_pos h1, if_pos h2, rd_L3, Int.toNat_natCast]
    refine im_Cut_l1 hL hn AC i _ k1 k2 _ (AC.getD i []).length 0 out (by omega) (by omega) ?_
    rw [List.drop_zero, wrap_succ (show i < 4611686018427387904 by omega)]
    refine ih (i + 1) _ (by omega) ?_
    have h3 : ((AC.getD i []).filter (fun s => cutM L (AC.getD i []) s)).length ≤ (AC.getD i []).length := List.length_filter_le _ _
    rw [List.length_append]
    omega
theorem im_CutStations (L : List S79) (hx : L.length ≤ 4194304) : Evn (fun k => impl_CutStations.f k L) (cutTs L) := by
  unfold impl_CutStations.f
  refine Evn.bind (im_areLegs L hx) ?_
  unfold cutTs
  refine Evn.ite (fun c => ?_) (fun c => ?_)
  · rw [if_pos c]
    have hL := goodLegs_in c
    have hn : L.length ≤ 4096 := by have := goodLegs_len c; omega
    refine Evn.bind (im_caves hL hn) ?_
    have ok := cavesM_ok hL
    have h8 : (cavesM L).length ≤ 8 := cavesM_len L
    have h := im_Cut_l0 hL hn (cavesM L) h8 (fun c hc => by
      obtain ⟨t, ht, _, rfl⟩ := ok.are c hc
      exact ⟨fun b hb => conn_in hL ht ((mem_caveM hL ht b).1 hb), caveM_len L t⟩) (cavesM L).length 0 [] (by omega) (by simp)
    rw [List.drop_zero] at h
    have e : (((cavesM L).foldl (fun out c => out ++ cutsOf L c) []).mergeSort fun x y => decide (x ≤ y)) = cutsS L := sort_cuts hL
    rw [e] at h
    exact h
  · rw [if_neg c]
    exact Evn.done _

theorem ev_eqIntS_l0 (xs : List Int) (hx : xs.length ≤ 4194304) : ∀ (d i : Nat), i + d = xs.length → Evn (fun k => laws_eqIntS.l0 k xs xs (i : Int)) true := by
  intro d
  induction d with
  | zero =>
    intro i h
    refine Evn.step ?_
    have h1 : ¬ (i : Int) < (xs.length : Int) := by omega
    simp only [laws_eqIntS.l0, if_neg h1]
    exact Evn.done _
  | succ d ih =>
    intro i h
    refine Evn.step ?_
    have h1 : (i : Int) < (xs.length : Int) := by omega
    have h2 : 0 ≤ (i : Int) := by omega
    simp only [laws_eqIntS.l0, if_pos h1, if_pos h2, if_true, wrap_succ (show i < 4611686018427387904 by omega)]
    exact ih (i + 1) (by omega)
theorem ev_eqIntS (xs : List Int) (hx : xs.length ≤ 4194304) : Evn (fun k => laws_eqIntS.f k xs xs) true := by
  simp only [laws_eqIntS.f, if_true]
  exact ev_eqIntS_l0 xs hx xs.length 0 (by omega)

-- laws_eqLeg: as it stands

theorem ev_eqLegS_l0 (xs : List S79) (hx : xs.length ≤ 4194304) : ∀ (d i : Nat), i + d = xs.length → Evn (fun k => laws_eqLegS.l0 k xs xs (i : Int)) true := by
  intro d
  induction d with
  | zero =>
    intro i h
    refine Evn.step ?_
    have h1 : ¬ (i : Int) < (xs.length : Int) := by omega
    simp only [laws_eqLegS.l0, if_neg h1]
    exact Evn.done _
  | succ d ih =>
    intro i h
    refine Evn.step ?_
    have h1 : (i : Int) < (xs.length : Int) := by omega
    have h2 : 0 ≤ (i : Int) := by omega
    simp only [laws_eqLegS.l0, laws_eqLeg.f, if_pos h1, if_pos h2, Option.bind_some, if_true, wrap_succ (show i < 4611686018427387904 by omega)]
    exact ih (i + 1) (by omega)
theorem ev_eqLegS (xs : List S79) (hx : xs.length ≤ 4194304) : Evn (fun k => laws_eqLegS.f k xs xs) true := by
  simp only [laws_eqLegS.f, if_true]
  exact ev_eqLegS_l0 xs hx xs.length 0 (by omega)

/-! The marks that the law lays: b, b + 1, .. -/
def marksLeg (b : Int) : Nat → List S79
  | 0 => []
  | d + 1 => (⟨b, b + 1, b + 2, b + 3, b + 4⟩ : S79) :: marksLeg (b + 5) d
theorem marksLeg_len (d : Nat) : ∀ b, (marksLeg b d).length = d := by
  induction d with
  | zero => intro b; rfl
  | succ d ih => intro b; simp [marksLeg, ih]
theorem ev_markLegS_l0 (n : Nat) (hn : n ≤ 4194304) : ∀ (d i : Nat) (b : Int) (ys : List S79), i + d = n → ys.length = n → 0 ≤ b → b + 5 * d ≤ 1152921504606846976 → Evn (fun k => laws_markLegS.l0 k ys b (i : Int)) (b + 5 * d, ys.take i ++ marksLeg b d) := by
  intro d
  induction d with
  | zero =>
    intro i b ys h hy h0 hb
    refine Evn.step ?_
    have h1 : ¬ (i : Int) < (ys.length : Int) := by omega
    simp only [laws_markLegS.l0, if_neg h1, marksLeg]
    rw [List.take_of_length_le (by omega)]
    simpa using Evn.done _
  | succ d ih =>
    intro i b ys h hy h0 hb
    refine Evn.step ?_
    have h1 : (i : Int) < (ys.length : Int) := by omega
    have h2 : 0 ≤ (i : Int) := by omega
    have hs : ∀ (zs : List S79) (v : S79), zs.length = ys.length → rd_T79 (zs.set i v) (i : Int) = v := by
      intro zs v hz
      unfold rd_T79
      rw [Int.toNat_natCast, List.getD_eq_getElem?_getD, List.getElem?_set_self (by omega)]
      rfl
    have hk := ih (i + 1) (b + 5) (ys.set i ⟨b, b + 1, b + 2, b + 3, b + 4⟩) (by omega) (by simpa using hy) (by omega) (by omega)
    have e1 : wrap64 (b + 1) = b + 1 := by rw [wrap_id (by omega) (by omega)]
    have e2 : wrap64 (b + 1 + 1) = b + 2 := by rw [wrap_id (by omega) (by omega)]; omega
    have e3 : wrap64 (b + 2 + 1) = b + 3 := by rw [wrap_id (by omega) (by omega)]; omega
    have e4 : wrap64 (b + 3 + 1) = b + 4 := by rw [wrap_id (by omega) (by omega)]; omega
    have e5 : wrap64 (b + 4 + 1) = b + 5 := by rw [wrap_id (by omega) (by omega)]; omega
    simp only [laws_markLegS.l0, if_pos h1, if_pos h2, Option.bind_some, Int.toNat_natCast, hs, List.length_set, List.set_set, e1, e2, e3, e4, e5, wrap_succ (show i < 4611686018427387904 from Nat.lt_of_lt_of_le (show i < 4194304 + 1 by omega) (by decide))]
    refine hk.eq_ ?_
    rw [set_take _ _ _ (by omega), marksLeg, List.append_assoc]
    simp only [List.cons_append, List.nil_append, Prod.mk.injEq, and_true]
    omega
theorem ev_markLegS (ys : List S79) (a : Int) (ha : 0 ≤ a) (ha2 : a ≤ 1099511627776) (hn : ys.length ≤ 4194304) : Evn (fun k => laws_markLegS.f k ys a) (a + 5 * ys.length, marksLeg a ys.length) := by
  have h := ev_markLegS_l0 ys.length hn ys.length 0 a ys (by omega) rfl ha (by omega)
  simpa [laws_markLegS.f] using h

/-! The marks: a, a + 1, .. -/
def marksI (a : Int) : Nat → List Int
  | 0 => []
  | n + 1 => marksI a n ++ [a + n]
theorem marksI_len (a : Int) (n : Nat) : (marksI a n).length = n := by
  induction n with
  | zero => rfl
  | succ n ih => simp [marksI, ih]
theorem marksI_get (a : Int) (n : Nat) : ∀ i, i < n → (marksI a n).getD i 0 = a + i := by
  induction n with
  | zero => intro i h; omega
  | succ n ih =>
    intro i h
    rw [marksI, List.getD_eq_getElem?_getD]
    rcases Nat.lt_or_ge i n with hi | hi
    · rw [List.getElem?_append_left (by rw [marksI_len]; exact hi), ← List.getD_eq_getElem?_getD]
      exact ih i hi
    · obtain rfl : i = n := by omega
      rw [List.getElem?_append_right (by rw [marksI_len]; omega), marksI_len]
      simp
theorem ev_markIntS_l0 (a : Int) (ha : 0 ≤ a) (ha2 : a ≤ 1099511627776) (n : Nat) (hn : n ≤ 4194304) : ∀ (d i : Nat) (ys : List Int), i + d = n → ys.length = n → ys.take i = marksI a i → Evn (fun k => laws_markIntS.l0 k ys (a + i) (i : Int)) (a + n, marksI a n) := by
  intro d
  induction d with
  | zero =>
    intro i ys h hy ht
    refine Evn.step ?_
    have h1 : ¬ (i : Int) < (ys.length : Int) := by omega
    simp only [laws_markIntS.l0, if_neg h1]
    obtain rfl : i = n := by omega
    rw [List.take_of_length_le (by omega)] at ht
    rw [ht]
    exact Evn.done _
  | succ d ih =>
    intro i ys h hy ht
    refine Evn.step ?_
    have h1 : (i : Int) < (ys.length : Int) := by omega
    have h2 : 0 ≤ (i : Int) := by omega
    have e : wrap64 (a + i + 1) = a + ((i + 1 : Nat) : Int) := by rw [wrap_id (by omega) (by omega)]; omega
    simp only [laws_markIntS.l0, if_pos h1, if_pos h2, Int.toNat_natCast, e, wrap_succ (show i < 4611686018427387904 by omega)]
    exact ih (i + 1) _ (by omega) (by simpa using hy) (by rw [set_take _ _ _ (by omega), ht, marksI])
theorem ev_markIntS (ys : List Int) (a : Int) (ha : 0 ≤ a) (ha2 : a ≤ 1099511627776) (hn : ys.length ≤ 4194304) : Evn (fun k => laws_markIntS.f k ys a) (a + ys.length, marksI a ys.length) := by
  have h := ev_markIntS_l0 a ha ha2 ys.length hn ys.length 0 ys (by omega) rfl rfl
  simpa [laws_markIntS.f] using h

theorem ev_heldIntS_l0 (a : Int) (ha : 0 ≤ a) (ha2 : a ≤ 1099511627776) (n : Nat) (hn : n ≤ 4194304) : ∀ (d i : Nat), i + d = n → Evn (fun k => laws_heldIntS.l0 k (marksI a n) (a + i) (i : Int)) (a + n) := by
  intro d
  induction d with
  | zero =>
    intro i h
    refine Evn.step ?_
    have h1 : ¬ (i : Int) < ((marksI a n).length : Int) := by rw [marksI_len]; omega
    simp only [laws_heldIntS.l0, if_neg h1]
    obtain rfl : i = n := by omega
    exact Evn.done _
  | succ d ih =>
    intro i h
    refine Evn.step ?_
    have h1 : (i : Int) < ((marksI a n).length : Int) := by rw [marksI_len]; omega
    have h2 : 0 ≤ (i : Int) := by omega
    have h3 : rd (marksI a n) (i : Int) = a + i := by unfold rd; rw [Int.toNat_natCast]; exact marksI_get a n i (by omega)
    have e : wrap64 (a + i + 1) = a + ((i + 1 : Nat) : Int) := by rw [wrap_id (by omega) (by omega)]; omega
    simp only [laws_heldIntS.l0, if_pos h1, if_pos h2, if_pos h3, e, wrap_succ (show i < 4611686018427387904 by omega)]
    exact ih (i + 1) (by omega)
theorem ev_heldIntS (n : Nat) (a : Int) (ha : 0 ≤ a) (ha2 : a ≤ 1099511627776) (hn : n ≤ 4194304) : Evn (fun k => laws_heldIntS.f k (marksI a n) a) (a + n) := by
  have h := ev_heldIntS_l0 a ha ha2 n hn n 0 (by omega)
  simpa [laws_heldIntS.f] using h

theorem FnExactCutStations : ∀ (l0 : List (S81)), l0.length ≤ maxLen → (∀ x ∈ l0, (Lit.int .i64 x.f0).wf = true ∧ (Lit.int .i64 x.f1).wf = true ∧ (Lit.int .i64 x.f2).wf = true ∧ (Lit.int .i64 x.f3).wf = true ∧ (Lit.int .i64 x.f4).wf = true) → ∃ k, laws_FnExactCutStations.f k l0 = some true := by
  intro l hl _
  apply Evn.get
  unfold laws_FnExactCutStations.f
  simp only [ev_szLegS, Option.bind_some]
  refine Evn.ite (fun _ => Evn.done _) (fun h => ?_)
  have hx : l.length ≤ 1048576 := by unfold maxLen at hl; unfold wrap64 at h; split at h <;> omega
  have hx' : (l.map convLeg).length ≤ 4194304 := by rw [List.length_map]; omega
  clear h hl
  have hs := sp_CutStations (l.map convLeg) hx'
  have hi := im_CutStations (l.map convLeg) hx'
  have hr : (cutTs (l.map convLeg)).1.length ≤ 4194304 := by
    unfold cutTs
    split
    · exact Nat.le_trans (List.length_filter_le _ _) (by decide)
    · simp
  generalize cutTs (l.map convLeg) = r at hs hi hr
  generalize hL : l.map convLeg = L at hs hi hx'
  have hto : Evn (fun k => laws_toLegS.f k l) L := hL ▸ ev_toLegS l hx
  repeat (first
    | exact Evn.done _
    | simp only [if_true, bne_self_eq_false, Bool.false_eq_true, if_false]
    | refine Evn.bind hto ?_
    | refine Evn.bind hs ?_
    | refine Evn.bind hi ?_
    | refine Evn.bind (ev_toLegS _ (by assumption)) ?_
    | refine Evn.bind (ev_toIntS _ (by assumption)) ?_
    | refine Evn.bind (ev_eqLegS _ (by assumption)) ?_
    | refine Evn.bind (ev_eqIntS _ (by assumption)) ?_
    | refine Evn.bind (ev_markLegS _ _ (by omega) (by omega) (by first | assumption | omega)) ?_
    | refine Evn.bind (ev_heldLegS _ _ (by omega) (by omega) (by first | assumption | omega)) ?_
    | refine Evn.bind (ev_markIntS _ _ (by omega) (by omega) (by first | assumption | omega)) ?_
    | refine Evn.bind (ev_heldIntS _ _ (by omega) (by omega) (by first | assumption | omega)) ?_
    | refine Evn.ite (fun h_ => absurd h_ (by first | omega | decide)) (fun _ => ?_)
    | refine Evn.ite (fun _ => ?_) (fun h_ => absurd (by first | rfl | omega) h_)
    | dsimp only
    | (refine Evn.step ?_; simp only [laws_FnExactCutStations.j0])
    | (refine Evn.step ?_; simp only [laws_FnExactCutStations.j1])
    | (refine Evn.step ?_; simp only [laws_FnExactCutStations.j2]))

end Go.Proofs.Ytmfidodcpbochaa.Pure
