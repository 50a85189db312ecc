/- The plain statement of FnSteps: its plain function returns true at every input. No condition beyond the arguments' own bounds. -/
import Derived.Test.YtmfidodcpbochaaGreatQFnStepsx18
import Derived.Test.YtmfidodcpbochaaGreatVSAid
namespace Go.Proofs.YtmfidodcpbochaaGreat.Pure
open Go.RowKit Go.Proofs.YtmfidodcpbochaaGreatW.PrintWords Go.Proofs.YtmfidodcpbochaaGreatW.PrintLast Go.Proofs.YtmfidodcpbochaaGreat.Aid Go.Proofs.YtmfidodcpbochaaGreat.QFnSteps
set_option linter.unusedVariables false
set_option linter.unusedSimpArgs false

theorem sp_l1In (x y z : Int) : spec_l1In.f x y z = some (decide (y ≤ x ∧ x ≤ z)) := by
  unfold spec_l1In.f
  by_cases h : x ≥ y <;> simp [h] <;> omega

theorem tm360 (a : Int) : 0 ≤ Int.tmod (wrap64 (Int.tmod a 360 + 360)) 360 ∧ Int.tmod (wrap64 (Int.tmod a 360 + 360)) 360 < 360 := by
  have h1 : -360 < Int.tmod a 360 := Int.lt_tmod_of_pos a (by decide)
  have h2 : Int.tmod a 360 < 360 := Int.tmod_lt_of_pos a (by decide)
  rw [wrap_id (by omega) (by omega)]
  exact ⟨Int.tmod_nonneg 360 (by omega), Int.tmod_lt_of_pos _ (by decide)⟩
theorem ok_sine (a : Int) : ∃ r, spec_l2Sine.f a = some r := by
  obtain ⟨d0, d1⟩ := tm360 a
  unfold spec_l2Sine.f
  generalize Int.tmod (wrap64 (Int.tmod a 360 + 360)) 360 = d at d0 d1
  obtain ⟨T, hT, hl⟩ : ∃ T, spec_l2Table.f = some T ∧ T.length = 91 := ⟨_, rfl, rfl⟩
  simp only [hT, Option.bind_some, hl]
  by_cases c1 : d ≤ 90
  · rw [if_pos c1, if_pos d0, if_pos (show d < ((91 : Nat) : Int) by omega)]; exact ⟨_, rfl⟩
  rw [if_neg c1]
  by_cases c2 : d ≤ 180
  · rw [if_pos c2, wrap_id (x := 180 - d) (by omega) (by omega), if_pos (show 0 ≤ 180 - d by omega), if_pos (show 180 - d < ((91 : Nat) : Int) by omega)]; exact ⟨_, rfl⟩
  rw [if_neg c2]
  by_cases c3 : d ≤ 270
  · rw [if_pos c3, wrap_id (x := d - 180) (by omega) (by omega), if_pos (show 0 ≤ d - 180 by omega), if_pos (show d - 180 < ((91 : Nat) : Int) by omega)]; exact ⟨_, rfl⟩
  · rw [if_neg c3, wrap_id (x := 360 - d) (by omega) (by omega), if_pos (show 0 ≤ 360 - d by omega), if_pos (show 360 - d < ((91 : Nat) : Int) by omega)]; exact ⟨_, rfl⟩

theorem ok_cosine (a : Int) : ∃ r, spec_l2Cosine.f a = some r := by
  unfold spec_l2Cosine.f
  obtain ⟨r, hr⟩ := ok_sine (wrap64 (a + 90))
  rw [hr]
  exact ⟨r, rfl⟩

theorem ok_div (a : Int) : ∃ r, spec_l2Div.f a 1000 = some r := by
  unfold spec_l2Div.f
  have h : ¬ wrap64 (2 * 1000) = 0 := by rw [wrap_id (by omega) (by omega)]; omega
  by_cases c : a < 0
  · rw [if_pos c, if_neg h]; exact ⟨_, rfl⟩
  · rw [if_neg c, if_neg h]; exact ⟨_, rfl⟩
theorem ok_shift (a b c d e : Int) : ∃ r, spec_l4Shift.f a b c d e = some r := by
  unfold spec_l4Shift.f
  obtain ⟨r1, h1⟩ := ok_cosine e
  obtain ⟨r2, h2⟩ := ok_div (wrap64 (c * r1))
  obtain ⟨r3, h3⟩ := ok_sine d
  obtain ⟨r4, h4⟩ := ok_div (wrap64 (r2 * r3))
  obtain ⟨r5, h5⟩ := ok_cosine d
  obtain ⟨r6, h6⟩ := ok_div (wrap64 (r2 * r5))
  obtain ⟨r7, h7⟩ := ok_sine e
  obtain ⟨r8, h8⟩ := ok_div (wrap64 (c * r7))
  simp only [h1, h2, h3, h4, h5, h6, h7, h8, Option.bind_some]
  exact ⟨_, rfl⟩
theorem ok_plus (a b c d e f g : Int) : ∃ r, spec_l4Plus.f a b c d e f g = some r := ⟨_, rfl⟩

/-! That something comes out, whatever it is. -/
theorem Ex.ite {α : Type} {c : Prop} [Decidable c] {g g' : Nat → Option α} (h : c → ∃ r, Evn g r) (h' : ¬ c → ∃ r, Evn g' r) : ∃ r, Evn (fun k => if c then g k else g' k) r := by
  by_cases hc : c
  · simp only [if_pos hc]; exact h hc
  · simp only [if_neg hc]; exact h' hc
theorem Ex.bind {α β : Type} {g : Nat → Option α} {f : Nat → α → Option β} (h : ∃ a, Evn g a) (h' : ∀ a, ∃ r, Evn (fun k => f k a) r) : ∃ r, Evn (fun k => (g k).bind (f k)) r := by
  obtain ⟨a, ha⟩ := h
  obtain ⟨r, hr⟩ := h' a
  exact ⟨r, Evn.bind ha hr⟩
theorem Ex.step {α : Type} {g : Nat → Option α} (h : ∃ r, Evn (fun k => g (k + 1)) r) : ∃ r, Evn g r := by
  obtain ⟨r, hr⟩ := h
  exact ⟨r, Evn.step hr⟩

theorem ok_long (a : Int) : ∃ b, spec_l2Long.f a = some b := by
  unfold spec_l2Long.f
  rw [sp_l1In, Option.bind_some]
  exact ⟨_, rfl⟩
theorem ok_LengthOf_l0 (S : Int) : ∀ (D : Nat) (lo hi : Int), hi - lo ≤ (D : Int) → 0 ≤ lo → lo ≤ 200000 → -1 ≤ hi → hi ≤ 200000 → ∃ r, Evn (fun k => spec_LengthOf.l0 k S lo hi) r := by
  intro D
  induction D with
  | zero =>
    intro lo hi h _ _ _ _
    refine ⟨(lo, true), Evn.step ?_⟩
    simp only [spec_LengthOf.l0, if_neg (show ¬ lo < hi by omega)]
    exact Evn.done _
  | succ D ih =>
    intro lo hi h h0 h1 h2 h3
    by_cases c : lo < hi
    · have e : wrap64 (Int.tdiv (wrap64 (wrap64 (lo + hi) + 1)) 2) = (lo + hi + 1) / 2 := by
        rw [wrap_id (x := lo + hi) (by omega) (by omega), wrap_id (x := lo + hi + 1) (by omega) (by omega), Int.tdiv_eq_ediv_of_nonneg (by omega), wrap_id (by omega) (by omega)]
      have e2 : wrap64 ((lo + hi + 1) / 2 - 1) = (lo + hi + 1) / 2 - 1 := wrap_id (by omega) (by omega)
      obtain ⟨r1, hr1⟩ := ih ((lo + hi + 1) / 2) hi (by omega) (by omega) (by omega) (by omega) (by omega)
      obtain ⟨r2, hr2⟩ := ih lo ((lo + hi + 1) / 2 - 1) (by omega) (by omega) (by omega) (by omega) (by omega)
      refine Ex.step ?_
      simp only [spec_LengthOf.l0, if_pos c, e, e2]
      exact Ex.ite (fun _ => ⟨r1, hr1⟩) (fun _ => ⟨r2, hr2⟩)
    · refine ⟨(lo, true), Evn.step ?_⟩
      simp only [spec_LengthOf.l0, if_neg c]
      exact Evn.done _
theorem ok_LengthOf (a b c : Int) : ∃ r, Evn (fun k => spec_LengthOf.f k a b c) r := by
  have j0 : ∀ q : Bool, ∃ r, Evn (fun k => spec_LengthOf.j0 k a b c q) r := by
    intro q
    refine Ex.step ?_
    simp only [spec_LengthOf.j0]
    exact Ex.ite (fun _ => ⟨_, Evn.done _⟩) (fun _ => ok_LengthOf_l0 _ 200000 0 200000 (by decide) (by decide) (by decide) (by decide) (by decide))
  unfold spec_LengthOf.f
  obtain ⟨x, hx⟩ := ok_long a
  obtain ⟨y, hy⟩ := ok_long b
  obtain ⟨z, hz⟩ := ok_long c
  simp only [hx, hy, hz, Option.bind_some]
  exact Ex.ite (fun _ => Ex.ite (fun _ => j0 _) (fun _ => j0 _)) (fun _ => j0 _)

theorem ok_BearingTo_l0 (a b : Int) : ∀ (D : Nat) (best x : Int), x + (D : Int) = 360 → 1 ≤ x → ∃ r, Evn (fun k => spec_BearingTo.l0 k a b best x) r := by
  intro D
  induction D with
  | zero =>
    intro best x h _
    refine ⟨(best, true), Evn.step ?_⟩
    simp only [spec_BearingTo.l0, if_neg (show ¬ x < 360 by omega)]
    exact Evn.done _
  | succ D ih =>
    intro best x h h0
    have hw : wrap64 (x + 1) = x + 1 := wrap_id (by omega) (by omega)
    obtain ⟨r1, h1⟩ := ok_sine x
    obtain ⟨r2, h2⟩ := ok_cosine x
    obtain ⟨r3, h3⟩ := ok_sine best
    obtain ⟨r4, h4⟩ := ok_cosine best
    refine Ex.step ?_
    simp only [spec_BearingTo.l0, if_pos (show x < 360 by omega), h1, h2, h3, h4, Option.bind_some, hw]
    clear hw
    exact Ex.ite (fun _ => ih x (x + 1) (by omega) (by omega)) (fun _ => ih best (x + 1) (by omega) (by omega))
theorem ok_BearingTo (a b : Int) : ∃ r, Evn (fun k => spec_BearingTo.f k a b) r := by
  have j0 : ∀ q : Bool, ∃ r, Evn (fun k => spec_BearingTo.j0 k a b q) r := by
    intro q
    refine Ex.step ?_
    simp only [spec_BearingTo.j0]
    exact Ex.ite (fun _ => ⟨_, Evn.done _⟩) (fun _ => ok_BearingTo_l0 a b 359 0 1 (by decide) (by decide))
  unfold spec_BearingTo.f
  obtain ⟨x, hx⟩ := ok_long a
  obtain ⟨y, hy⟩ := ok_long b
  simp only [hx, hy, Option.bind_some]
  exact Ex.ite (fun _ => Ex.ite (fun _ => Ex.ite (fun _ => j0 _) (fun _ => j0 _)) (fun _ => j0 _)) (fun _ => j0 _)

theorem ok_SlopeTo_l1 (a b x : Int) (hr : ∀ best, ∃ r, Evn (fun k => spec_SlopeTo.l0 k a b best (wrap64 (x + 1))) r) : ∀ (D : Nat) (best y : Int), y = 2 * (D : Int) - 3 → D ≤ 2 → ∃ r, Evn (fun k => spec_SlopeTo.l1 k a b best x y) r := by
  intro D
  induction D with
  | zero =>
    intro best y h _
    refine Ex.step ?_
    simp only [spec_SlopeTo.l1, if_neg (show ¬ y ≥ (-1) by omega)]
    exact hr best
  | succ D ih =>
    intro best y h h0
    have hw : wrap64 (y - 2) = y - 2 := wrap_id (by omega) (by omega)
    obtain ⟨r1, h1⟩ := ok_cosine x
    obtain ⟨r2, h2⟩ := ok_sine (wrap64 (y * x))
    obtain ⟨r3, h3⟩ := ok_cosine best
    obtain ⟨r4, h4⟩ := ok_sine best
    refine Ex.step ?_
    simp only [spec_SlopeTo.l1, if_pos (show y ≥ (-1) by omega), h1, h2, h3, h4, Option.bind_some, hw]
    clear hw
    exact Ex.ite (fun _ => ih _ (y - 2) (by omega) (by omega)) (fun _ => ih best (y - 2) (by omega) (by omega))
theorem ok_SlopeTo_l0 (a b : Int) : ∀ (D : Nat) (best x : Int), x + (D : Int) = 91 → 1 ≤ x → ∃ r, Evn (fun k => spec_SlopeTo.l0 k a b best x) r := by
  intro D
  induction D with
  | zero =>
    intro best x h _
    refine ⟨(best, true), Evn.step ?_⟩
    simp only [spec_SlopeTo.l0, if_neg (show ¬ x ≤ 90 by omega)]
    exact Evn.done _
  | succ D ih =>
    intro best x h h0
    have hn : ∀ best, ∃ r, Evn (fun k => spec_SlopeTo.l0 k a b best (wrap64 (x + 1))) r := by
      intro best
      rw [wrap_id (x := x + 1) (by omega) (by omega)]
      exact ih best (x + 1) (by omega) (by omega)
    refine Ex.step ?_
    simp only [spec_SlopeTo.l0, if_pos (show x ≤ 90 by omega)]
    exact ok_SlopeTo_l1 a b x hn 2 best 1 (by decide) (by decide)
theorem ok_SlopeTo (a b : Int) : ∃ r, Evn (fun k => spec_SlopeTo.f k a b) r := by
  have j0 : ∀ q : Bool, ∃ r, Evn (fun k => spec_SlopeTo.j0 k a b q) r := by
    intro q
    refine Ex.step ?_
    simp only [spec_SlopeTo.j0]
    exact Ex.ite (fun _ => ⟨_, Evn.done _⟩) (fun _ => ok_SlopeTo_l0 a b 90 0 1 (by decide) (by decide))
  unfold spec_SlopeTo.f
  obtain ⟨y, hy⟩ := ok_long b
  simp only [sp_l1In, hy, Option.bind_some]
  exact Ex.ite (fun _ => Ex.ite (fun _ => Ex.ite (fun _ => j0 _) (fun _ => j0 _)) (fun _ => j0 _)) (fun _ => j0 _)

theorem sp_l4Station (x : Int) : spec_l4Station.f x = some (decide (0 ≤ x ∧ x ≤ 7)) := by
  simp only [spec_l4Station.f, sp_l1In, Option.bind_some]

/-! A leg's rules. -/
def okLeg (x : S32) : Bool := decide (0 ≤ x.f0 ∧ x.f0 ≤ 7) && (decide (0 ≤ x.f1 ∧ x.f1 ≤ 7) && (!decide (x.f0 = x.f1) && (decide (1 ≤ x.f2 ∧ x.f2 ≤ 500) && (decide (0 ≤ x.f3 ∧ x.f3 ≤ 359) && decide (-90 ≤ x.f4 ∧ x.f4 ≤ 90)))))
def goodLegs (xs : List S32) : Bool := xs.all okLeg && decide (xs.length ≤ 12)
theorem goodLegs_len {xs : List S32} (h : goodLegs xs = true) : xs.length ≤ 12 := by
  simp only [goodLegs, Bool.and_eq_true, decide_eq_true_eq] at h
  exact h.2
theorem goodLegs_ok {xs : List S32} (h : goodLegs xs = true) (j : Nat) (hj : j < xs.length) : okLeg (xs.getD j z32) = true := by
  simp only [goodLegs, Bool.and_eq_true, List.all_eq_true] at h
  refine h.1 _ ?_
  rw [List.getD_eq_getElem?_getD, List.getElem?_eq_getElem hj]
  exact List.getElem_mem hj
theorem okLeg_in {x : S32} (h : okLeg x = true) : (0 ≤ x.f0 ∧ x.f0 ≤ 7) ∧ (0 ≤ x.f1 ∧ x.f1 ≤ 7) ∧ ¬ x.f0 = x.f1 ∧ (1 ≤ x.f2 ∧ x.f2 ≤ 500) ∧ (0 ≤ x.f3 ∧ x.f3 ≤ 359) ∧ (-90 ≤ x.f4 ∧ x.f4 ≤ 90) := by
  simp only [okLeg, Bool.and_eq_true, decide_eq_true_eq, Bool.not_eq_true', decide_eq_false_iff_not] at h
  exact h
theorem ite_not (c : Prop) [Decidable c] (x : Bool) : (if c then some false else some x) = some (!decide c && x) := by
  by_cases h : c <;> simp [h]

theorem sp_l4Leg (x : S32) : spec_l4Leg.f x.f0 x.f1 x.f2 x.f3 x.f4 = some (okLeg x) := by
  simp only [spec_l4Leg.f, sp_l4Station, spec_l2Bearing.f, sp_l1In, Option.bind_some, ite_and, ite_not, okLeg]

theorem sp_l4Legs_l0 (xs : List S32) (hx : xs.length ≤ 4194304) : ∀ (d i : Nat), i + d = xs.length → Evn (fun k => spec_l4Legs.l0 k xs (i : Int)) ((xs.drop i).all okLeg && decide (xs.length ≤ 12)) := by
  intro d
  induction d with
  | zero =>
    intro i h
    refine Evn.step ?_
    have h1 : ¬ (i : Int) < (xs.length : Int) := by omega
    simp only [spec_l4Legs.l0, if_neg h1]
    rw [List.drop_eq_nil_of_le (by omega)]
    refine (Evn.done _).eq_ ?_
    simp only [List.all_nil, Bool.true_and, decide_eq_decide]
    omega
  | succ d ih =>
    intro i h
    refine Evn.step ?_
    have h1 : (i : Int) < (xs.length : Int) := by omega
    have h2 : 0 ≤ (i : Int) := by omega
    simp only [spec_l4Legs.l0, if_pos h1, if_pos h2, sp_l4Leg, Option.bind_some, wrap_succ (show i < 4611686018427387904 by omega), rd_T32, Int.toNat_natCast]
    rw [getD_drop xs i z32 (by omega), List.all_cons]
    exact Evn.ite (fun c => (ih (i + 1) (by omega)).eq_ (by simp only [c, Bool.true_and])) (fun c => (Evn.done _).eq_ (by simp only [Bool.eq_false_iff.mpr c, Bool.false_and]))
theorem sp_l4Legs (xs : List S32) (hx : xs.length ≤ 4194304) : Evn (fun k => spec_l4Legs.f k xs) (goodLegs xs) := by
  have h := sp_l4Legs_l0 xs hx xs.length 0 (by omega)
  simpa [spec_l4Legs.f, goodLegs] using h

/-! Stations that hang together. -/
inductive Conn (L : List S32) (a : Int) : Int → Prop
  | refl : Conn L a a
  | fwd {x : S32} : x ∈ L → Conn L a x.f0 → Conn L a x.f1
  | bwd {x : S32} : x ∈ L → Conn L a x.f1 → Conn L a x.f0
def sAt (S : List Bool) (i : Int) : Bool := S.getD i.toNat false
def stepR (S : List Bool) (x : S32) : List Bool := if sAt S x.f0 = sAt S x.f1 then S else (S.set x.f0.toNat true).set x.f1.toNat true
def roundR (L : List S32) (S : List Bool) : List Bool := L.foldl stepR S
def roundsR (L : List S32) : Nat → List Bool → List Bool
  | 0, S => S
  | n + 1, S => roundsR L n (roundR L S)
def startR (a : Int) : List Bool := (List.replicate 8 false).set a.toNat true
def reachM (L : List S32) (a : Int) : List Bool := roundsR L L.length (startR a)
def inSt (x : S32) : Prop := (0 ≤ x.f0 ∧ x.f0 ≤ 7) ∧ (0 ≤ x.f1 ∧ x.f1 ≤ 7)
theorem sAt_set {S : List Bool} {a : Int} {v : Bool} (i : Int) (ha : 0 ≤ a) (hi : 0 ≤ i) (hl : a.toNat < S.length) : sAt (S.set a.toNat v) i = if i = a then v else sAt S i := by
  unfold sAt
  rw [List.getD_eq_getElem?_getD, List.getD_eq_getElem?_getD, List.getElem?_set]
  by_cases h : i = a
  · subst h; simp [hl]
  · rw [if_neg h, if_neg (by omega)]
theorem stepR_len (S : List Bool) (x : S32) : (stepR S x).length = S.length := by unfold stepR; split <;> simp
theorem roundR_len (L : List S32) : ∀ S : List Bool, (roundR L S).length = S.length := by
  unfold roundR
  induction L with
  | nil => intro S; rfl
  | cons x L ih => intro S; rw [List.foldl_cons, ih, stepR_len]
theorem sAt_step {S : List Bool} {x : S32} (i : Int) (hi : 0 ≤ i) (hx : inSt x) (hl : S.length = 8) : sAt (stepR S x) i = (sAt S i || (!(sAt S x.f0 == sAt S x.f1) && (decide (i = x.f0) || decide (i = x.f1)))) := by
  obtain ⟨h0, h1⟩ := hx
  unfold stepR
  by_cases h : sAt S x.f0 = sAt S x.f1
  · simp [h]
  · rw [if_neg h, sAt_set i h1.1 hi (by rw [List.length_set]; omega), sAt_set i h0.1 hi (by omega)]
    have e : (sAt S x.f0 == sAt S x.f1) = false := by simpa using h
    rw [e]
    by_cases c1 : i = x.f1
    · subst c1; simp
    · by_cases c0 : i = x.f0
      · subst c0; simp [c1]
      · simp [c1, c0]
theorem step_mono {S : List Bool} {x : S32} (i : Int) (hi : 0 ≤ i) (hx : inSt x) (hl : S.length = 8) (h : sAt S i = true) : sAt (stepR S x) i = true := by
  rw [sAt_step i hi hx hl, h]; rfl
theorem round_mono (L : List S32) (hL : ∀ x ∈ L, inSt x) : ∀ (S : List Bool) (i : Int), 0 ≤ i → S.length = 8 → sAt S i = true → sAt (roundR L S) i = true := by
  unfold roundR
  induction L with
  | nil => intro S i _ _ h; exact h
  | cons x L ih =>
    intro S i hi hl h
    rw [List.foldl_cons]
    exact ih (fun y hy => hL y (List.mem_cons_of_mem _ hy)) _ i hi (by rw [stepR_len, hl]) (step_mono i hi (hL x List.mem_cons_self) hl h)
def closedR (L : List S32) (S : List Bool) : Prop := ∀ x ∈ L, sAt S x.f0 = sAt S x.f1
theorem round_closed (L : List S32) (S : List Bool) (h : closedR L S) : roundR L S = S := by
  unfold roundR
  induction L with
  | nil => rfl
  | cons x L ih =>
    rw [List.foldl_cons]
    have e : stepR S x = S := by unfold stepR; rw [if_pos (h x List.mem_cons_self)]
    rw [e]
    exact ih (fun y hy => h y (List.mem_cons_of_mem _ hy))
theorem rounds_closed (L : List S32) (S : List Bool) (h : closedR L S) : ∀ n, roundsR L n S = S
  | 0 => rfl
  | n + 1 => by rw [roundsR, round_closed L S h]; exact rounds_closed L S h n
theorem step_both {S : List Bool} {x : S32} (hx : inSt x) (hl : S.length = 8) (h : sAt S x.f0 = true ∨ sAt S x.f1 = true) : sAt (stepR S x) x.f0 = true ∧ sAt (stepR S x) x.f1 = true := by
  rw [sAt_step _ hx.1.1 hx hl, sAt_step _ hx.2.1 hx hl]
  cases h0 : sAt S x.f0 <;> cases h1 : sAt S x.f1 <;> simp_all
theorem round_both (L : List S32) (hL : ∀ x ∈ L, inSt x) : ∀ (S : List Bool) (x : S32), x ∈ L → S.length = 8 → (sAt S x.f0 = true ∨ sAt S x.f1 = true) → sAt (roundR L S) x.f0 = true ∧ sAt (roundR L S) x.f1 = true := by
  induction L with
  | nil => intro S x hx; cases hx
  | cons y L ih =>
    intro S x hx hl h
    have hy := hL y List.mem_cons_self
    have hL' : ∀ z ∈ L, inSt z := fun z hz => hL z (List.mem_cons_of_mem _ hz)
    have hx' := hL x hx
    show sAt (roundR L (stepR S y)) x.f0 = true ∧ sAt (roundR L (stepR S y)) x.f1 = true
    rcases List.mem_cons.1 hx with rfl | hm
    · have hb := step_both hy hl h
      exact ⟨round_mono L hL' _ _ hx'.1.1 (by rw [stepR_len, hl]) hb.1, round_mono L hL' _ _ hx'.2.1 (by rw [stepR_len, hl]) hb.2⟩
    · exact ih hL' _ x hm (by rw [stepR_len, hl]) (h.imp (step_mono _ hx'.1.1 hy hl) (step_mono _ hx'.2.1 hy hl))
def cntR (L : List S32) (S : List Bool) : Nat := L.countP (fun x => sAt S x.f0 && sAt S x.f1)
theorem countP_lt {α : Type} {p q : α → Bool} (L : List α) (hm : ∀ x ∈ L, p x = true → q x = true) : (∃ x ∈ L, p x = false ∧ q x = true) → L.countP p < L.countP q := by
  induction L with
  | nil => rintro ⟨x, hx, _⟩; cases hx
  | cons y L ih =>
    rintro ⟨x, hx, h1, h2⟩
    have hm' : ∀ x ∈ L, p x = true → q x = true := fun z hz => hm z (List.mem_cons_of_mem _ hz)
    rw [List.countP_cons, List.countP_cons]
    rcases List.mem_cons.1 hx with rfl | hx
    · have h3 : L.countP p ≤ L.countP q := List.countP_mono_left hm'
      rw [h1, h2]; simp; omega
    · have h3 := ih hm' ⟨x, hx, h1, h2⟩
      have h4 := hm y List.mem_cons_self
      cases hp : p y
      · simp; omega
      · rw [h4 hp]; simp; omega
theorem rounds_done (L : List S32) (hL : ∀ x ∈ L, inSt x) : ∀ (n : Nat) (S : List Bool), S.length = 8 → L.length ≤ cntR L S + n → closedR L (roundsR L n S) := by
  intro n
  induction n with
  | zero =>
    intro S _ h x hx
    have e : L.countP (fun x => sAt S x.f0 && sAt S x.f1) = L.length := Nat.le_antisymm List.countP_le_length (by unfold cntR at h; omega)
    have h2 := (List.countP_eq_length.1 e) x hx
    simp only [Bool.and_eq_true] at h2
    show sAt S x.f0 = sAt S x.f1
    rw [h2.1, h2.2]
  | succ n ih =>
    intro S hl h
    by_cases hc : closedR L S
    · rw [rounds_closed L S hc]; exact hc
    · refine ih _ (by rw [roundR_len, hl]) ?_
      have hex : ∃ x ∈ L, sAt S x.f0 ≠ sAt S x.f1 := Classical.byContradiction fun hn => hc fun x hx => Classical.byContradiction fun he => hn ⟨x, hx, he⟩
      obtain ⟨x, hx, hne⟩ := hex
      have h2 : cntR L S < cntR L (roundR L S) := by
        unfold cntR
        refine countP_lt L ?_ ⟨x, hx, ?_, ?_⟩
        · intro y hy h3
          simp only [Bool.and_eq_true] at h3
          have hy' := hL y hy
          rw [round_mono L hL S _ hy'.1.1 hl h3.1, round_mono L hL S _ hy'.2.1 hl h3.2]; rfl
        · cases h0 : sAt S x.f0 <;> cases h1 : sAt S x.f1 <;> simp_all
        · have h4 := round_both L hL S x hx hl (by cases h0 : sAt S x.f0 <;> cases h1 : sAt S x.f1 <;> simp_all)
          rw [h4.1, h4.2]; rfl
      omega
def soundR (L : List S32) (a : Int) (S : List Bool) : Prop := ∀ i : Int, 0 ≤ i → sAt S i = true → Conn L a i
theorem step_sound {L : List S32} {a : Int} {S : List Bool} {x : S32} (hx : x ∈ L) (hs : inSt x) (hl : S.length = 8) (h : soundR L a S) : soundR L a (stepR S x) := by
  intro i hi h1
  rw [sAt_step i hi hs hl] at h1
  cases h2 : sAt S i
  · rw [h2] at h1
    have hne : ¬ sAt S x.f0 = sAt S x.f1 := by intro e; rw [e] at h1; simp at h1
    have hi' : i = x.f0 ∨ i = x.f1 := by
      simp only [Bool.false_or, Bool.and_eq_true, Bool.or_eq_true, decide_eq_true_eq] at h1; exact h1.2
    rcases hi' with rfl | rfl
    · cases h4 : sAt S x.f1
      · rw [h2, h4] at hne; exact absurd rfl hne
      · exact Conn.bwd hx (h _ hs.2.1 h4)
    · cases h4 : sAt S x.f0
      · rw [h2, h4] at hne; exact absurd rfl hne
      · exact Conn.fwd hx (h _ hs.1.1 h4)
  · exact h i hi h2
theorem round_sound {L : List S32} {a : Int} (hL : ∀ x ∈ L, inSt x) : ∀ (M : List S32), (∀ x ∈ M, x ∈ L) → ∀ S : List Bool, S.length = 8 → soundR L a S → soundR L a (roundR M S) := by
  intro M
  induction M with
  | nil => intro _ S _ h; exact h
  | cons x M ih =>
    intro hM S hl h
    exact ih (fun y hy => hM y (List.mem_cons_of_mem _ hy)) (stepR S x) (by rw [stepR_len, hl]) (step_sound (hM x List.mem_cons_self) (hL x (hM x List.mem_cons_self)) hl h)
theorem rounds_sound {L : List S32} {a : Int} (hL : ∀ x ∈ L, inSt x) : ∀ (n : Nat) (S : List Bool), S.length = 8 → soundR L a S → soundR L a (roundsR L n S)
  | 0, _, _, h => h
  | n + 1, S, hl, h => rounds_sound hL n (roundR L S) (by rw [roundR_len, hl]) (round_sound hL L (fun _ h => h) S hl h)
theorem rounds_mono (L : List S32) (hL : ∀ x ∈ L, inSt x) : ∀ (n : Nat) (S : List Bool) (i : Int), 0 ≤ i → S.length = 8 → sAt S i = true → sAt (roundsR L n S) i = true
  | 0, _, _, _, _, h => h
  | n + 1, S, i, hi, hl, h => rounds_mono L hL n _ i hi (by rw [roundR_len, hl]) (round_mono L hL S i hi hl h)
theorem rounds_len (L : List S32) : ∀ (n : Nat) (S : List Bool), (roundsR L n S).length = S.length
  | 0, _ => rfl
  | n + 1, S => by rw [roundsR, rounds_len L n, roundR_len]
theorem startR_len (a : Int) : (startR a).length = 8 := by simp [startR]
theorem reachM_len (L : List S32) (a : Int) : (reachM L a).length = 8 := by unfold reachM; rw [rounds_len, startR_len]
theorem sAt_start {a : Int} (ha : 0 ≤ a ∧ a ≤ 7) (i : Int) (hi : 0 ≤ i) : sAt (startR a) i = decide (i = a) := by
  unfold startR
  rw [sAt_set i ha.1 hi (by simp; omega)]
  by_cases h : i = a
  · simp [h]
  · rw [if_neg h]
    simp only [sAt, List.getD_eq_getElem?_getD, List.getElem?_replicate, h, decide_false]
    split <;> rfl
/-- What the program's search reaches is what hangs together. -/
theorem conn_in {L : List S32} {a b : Int} (hL : ∀ x ∈ L, inSt x) (ha : 0 ≤ a ∧ a ≤ 7) (h : Conn L a b) : 0 ≤ b ∧ b ≤ 7 := by
  induction h with
  | refl => exact ha
  | fwd hx _ _ => exact (hL _ hx).2
  | bwd hx _ _ => exact (hL _ hx).1
theorem closed_all {L : List S32} {a : Int} {S : List Bool} (hc : closedR L S) (h0 : sAt S a = true) {b : Int} (h : Conn L a b) : sAt S b = true := by
  induction h with
  | refl => exact h0
  | fwd hx _ ih => rw [← hc _ hx]; exact ih
  | bwd hx _ ih => rw [hc _ hx]; exact ih
theorem reach_conn {L : List S32} {a : Int} (hL : ∀ x ∈ L, inSt x) (ha : 0 ≤ a ∧ a ≤ 7) (b : Int) (hb : 0 ≤ b) : sAt (reachM L a) b = true ↔ Conn L a b := by
  constructor
  · intro h
    refine rounds_sound hL L.length (startR a) (startR_len a) ?_ b hb h
    intro i hi h1
    rw [sAt_start ha i hi] at h1
    rw [of_decide_eq_true h1]
    exact Conn.refl
  · intro h
    have hc : closedR L (reachM L a) := rounds_done L hL L.length (startR a) (startR_len a) (by omega)
    refine closed_all hc ?_ h
    exact rounds_mono L hL L.length (startR a) a ha.1 (startR_len a) (by rw [sAt_start ha a ha.1]; simp)
theorem Conn.trans {L : List S32} {a b c : Int} (h : Conn L a b) (h2 : Conn L b c) : Conn L a c := by
  induction h2 with
  | refl => exact h
  | fwd hx _ ih => exact Conn.fwd hx ih
  | bwd hx _ ih => exact Conn.bwd hx ih
theorem Conn.symm {L : List S32} {a b : Int} (h : Conn L a b) : Conn L b a := by
  induction h with
  | refl => exact Conn.refl
  | fwd hx _ ih => exact (Conn.bwd hx Conn.refl).trans ih
  | bwd hx _ ih => exact (Conn.fwd hx Conn.refl).trans ih

/-! Caves and their cut stations. -/
def st8 : List Int := [0, 1, 2, 3, 4, 5, 6, 7]
theorem mem_st8 (b : Int) : b ∈ st8 ↔ 0 ≤ b ∧ b ≤ 7 := by
  simp only [st8, List.mem_cons, List.not_mem_nil, or_false]
  omega
def rising (l : List Int) : Prop := l.Pairwise (· < ·)
theorem rising_st8 : rising st8 := by unfold rising st8; decide
def caveM (L : List S32) (a : Int) : List Int := st8.filter (fun b => sAt (reachM L a) b)
theorem mem_caveM {L : List S32} {a : Int} (hL : ∀ x ∈ L, inSt x) (ha : 0 ≤ a ∧ a ≤ 7) (b : Int) : b ∈ caveM L a ↔ Conn L a b := by
  unfold caveM
  rw [List.mem_filter, mem_st8]
  constructor
  · rintro ⟨h1, h2⟩; exact (reach_conn hL ha b h1.1).1 h2
  · intro h; have h1 := conn_in hL ha h; exact ⟨h1, (reach_conn hL ha b h1.1).2 h⟩
theorem rising_caveM (L : List S32) (a : Int) : rising (caveM L a) := List.Pairwise.filter _ rising_st8
theorem rising_nodup {l : List Int} (h : rising l) : l.Nodup := List.Pairwise.imp (fun h => by omega) h
theorem rising_ext : ∀ {l m : List Int}, rising l → rising m → (∀ x, x ∈ l ↔ x ∈ m) → l = m
  | [], [], _, _, _ => rfl
  | [], y :: m, _, _, h => absurd ((h y).2 List.mem_cons_self) (by simp)
  | x :: l, [], _, _, h => absurd ((h x).1 List.mem_cons_self) (by simp)
  | x :: l, y :: m, hl, hm, h => by
    have hl' := List.pairwise_cons.1 hl
    have hm' := List.pairwise_cons.1 hm
    have e : x = y := by
      rcases List.mem_cons.1 ((h x).1 List.mem_cons_self) with e | h1
      · exact e
      · rcases List.mem_cons.1 ((h y).2 List.mem_cons_self) with e | h2
        · exact e.symm
        · have := hl'.1 y h2; have := hm'.1 x h1; omega
    subst e
    have h2 : l = m := by
      refine rising_ext hl'.2 hm'.2 fun z => ?_
      have hz := h z
      simp only [List.mem_cons] at hz
      constructor
      · intro h1
        rcases hz.1 (Or.inr h1) with e | h2
        · have := hl'.1 z h1; omega
        · exact h2
      · intro h1
        rcases hz.2 (Or.inr h1) with e | h2
        · have := hm'.1 z h1; omega
        · exact h2
    rw [h2]
def notAt (s : Int) (x : S32) : Bool := !(decide (x.f0 = s) || decide (x.f1 = s))
def restM (L : List S32) (s : Int) : List S32 := L.filter (notAt s)
theorem restM_in {L : List S32} (hL : ∀ x ∈ L, inSt x) (s : Int) : ∀ x ∈ restM L s, inSt x := fun x hx => hL x (List.mem_filter.1 hx).1
theorem rest_conn {L : List S32} {s a b : Int} (ha : a ≠ s) (h : Conn (restM L s) a b) : Conn L a b ∧ b ≠ s := by
  have hn : ∀ {x : S32}, x ∈ restM L s → x ∈ L ∧ x.f0 ≠ s ∧ x.f1 ≠ s := by
    intro x hx
    have h := List.mem_filter.1 hx
    simp only [notAt, Bool.not_eq_true', Bool.or_eq_false_iff, decide_eq_false_iff_not] at h
    exact h
  induction h with
  | refl => exact ⟨Conn.refl, ha⟩
  | fwd hx _ ih => exact ⟨Conn.fwd (hn hx).1 ih.1, (hn hx).2.2⟩
  | bwd hx _ ih => exact ⟨Conn.bwd (hn hx).1 ih.1, (hn hx).2.1⟩
/-- The program's test, and the reference's. -/
def cutM (L : List S32) (C : List Int) (s : Int) : Bool := match C.filter (fun o => decide (o ≠ s)) with
  | [] => false
  | f :: os => os.any (fun o => !sAt (reachM (restM L s) f) o)
def firstM (C : List Int) (s : Int) : Int := if C.getD 0 0 = s then C.getD 1 0 else C.getD 0 0
def cutS (L : List S32) (s : Int) : Bool := if (caveM L s).length < 3 then false else decide ((caveM (restM L s) (firstM (caveM L s) s)).length < (caveM L s).length - 1)
theorem filter_ne_len : ∀ {C : List Int} {s : Int}, C.Nodup → s ∈ C → (C.filter (fun o => decide (o ≠ s))).length = C.length - 1
  | [], s, _, h => by cases h
  | x :: C, s, hn, h => by
    have hn' := List.nodup_cons.1 hn
    rw [List.filter_cons]
    by_cases e : x = s
    · subst e
      have h2 : C.filter (fun o => decide (o ≠ x)) = C := List.filter_eq_self.2 fun y hy => by have h9 : y ≠ x := fun e => hn'.1 (e ▸ hy); simpa using h9
      simp only [ne_eq, not_true_eq_false, decide_false, Bool.false_eq_true, if_false]
      simp only [ne_eq] at h2
      rw [h2]; simp
    · have hm : s ∈ C := by rcases List.mem_cons.1 h with h | h; exact absurd h.symm e; exact h
      have ih := filter_ne_len hn'.2 hm
      have h3 : 0 < C.length := List.length_pos_of_mem hm
      rw [if_pos (by simpa using e), List.length_cons, ih, List.length_cons]
      omega
theorem firstM_eq {C : List Int} {s f : Int} {os : List Int} (hn : C.Nodup) (h : C.filter (fun o => decide (o ≠ s)) = f :: os) : firstM C s = f := by
  unfold firstM
  match C, hn, h with
  | [], _, h => simp at h
  | [x], _, h =>
    rw [List.filter_cons] at h
    by_cases e : x = s
    · simp [e] at h
    · simp only [List.getD_cons_zero]
      rw [if_neg e]
      rw [if_pos (by simpa using e)] at h
      simp at h; exact h.1
  | x :: y :: C, hn, h =>
    simp only [List.getD_cons_zero, List.getD_cons_succ]
    rw [List.filter_cons] at h
    by_cases e : x = s
    · rw [if_pos e]
      rw [if_neg (by simpa using e), List.filter_cons] at h
      have hn' := List.nodup_cons.1 hn
      have e2 : ¬ y = s := fun e2 => hn'.1 (by rw [e, ← e2]; exact List.mem_cons_self)
      rw [if_pos (by simpa using e2)] at h
      exact (List.cons.inj h).1
    · rw [if_neg e]
      rw [if_pos (by simpa using e)] at h
      exact (List.cons.inj h).1
theorem any_filter {α : Type} (p : α → Bool) : ∀ l : List α, l.any (fun o => !p o) = decide ((l.filter p).length < l.length)
  | [] => by simp
  | x :: l => by
    rw [List.any_cons, List.filter_cons, any_filter p l]
    have h : (l.filter p).length ≤ l.length := List.length_filter_le _ _
    cases hp : p x
    · simp; omega
    · simp
theorem cut_same {L : List S32} (hL : ∀ x ∈ L, inSt x) {s : Int} (hs : 0 ≤ s ∧ s ≤ 7) : cutM L (caveM L s) s = cutS L s := by
  have hmem : s ∈ caveM L s := (mem_caveM hL hs s).2 Conn.refl
  have hnd := rising_nodup (rising_caveM L s)
  have hlen := filter_ne_len hnd hmem
  unfold cutM cutS
  generalize hF : (caveM L s).filter (fun o => decide (o ≠ s)) = F at hlen
  match F, hF with
  | [], hF => rw [if_pos (by simp at hlen; omega)]
  | [f], hF => rw [if_pos (by simp at hlen; omega)]; rfl
  | f :: o :: os, hF =>
    rw [if_neg (by simp at hlen; omega), firstM_eq hnd hF]
    have hfm : f ∈ (caveM L s).filter (fun o => decide (o ≠ s)) := by rw [hF]; exact List.mem_cons_self
    have hf := List.mem_filter.1 hfm
    have hfs : f ≠ s := by simpa using hf.2
    have hfc := (mem_caveM hL hs f).1 hf.1
    have hfi := conn_in hL hs hfc
    have hR := restM_in hL s
    have e : caveM (restM L s) f = (f :: o :: os).filter (fun b => sAt (reachM (restM L s) f) b) := by
      rw [← hF]
      refine rising_ext (rising_caveM _ _) (List.Pairwise.filter _ (List.Pairwise.filter _ (rising_caveM L s))) fun b => ?_
      rw [mem_caveM hR hfi, List.mem_filter, List.mem_filter, mem_caveM hL hs]
      constructor
      · intro h
        have h2 := rest_conn hfs h
        have h3 := conn_in hR hfi h
        exact ⟨⟨hfc.trans h2.1, by simpa using h2.2⟩, (reach_conn hR hfi b h3.1).2 h⟩
      · rintro ⟨⟨h1, _⟩, h2⟩
        exact (reach_conn hR hfi b (conn_in hL hs h1).1).1 h2
    rw [e]
    have hff : sAt (reachM (restM L s) f) f = true := (reach_conn hR hfi f hfi.1).2 Conn.refl
    have hl : (caveM L s).length - 1 = (f :: o :: os).length := hlen.symm
    rw [hl]
    rw [← any_filter (fun b => sAt (reachM (restM L s) f) b) (f :: o :: os), List.any_cons]
    simp only [hff, Bool.not_true, Bool.false_or]
/-! All caves. -/
def noLeg (L : List S32) (s : Int) : Bool := L.all (notAt s)
def addCave (L : List S32) (all : List (List Int)) (s : Int) : List (List Int) := if noLeg L s || all.any (fun c => c.contains s) then all else all ++ [caveM L s]
def cavesM (L : List S32) : List (List Int) := st8.foldl (addCave L) []
structure CavesOk (L : List S32) (done : List Int) (all : List (List Int)) : Prop where
  are : ∀ c ∈ all, ∃ t, (0 ≤ t ∧ t ≤ 7) ∧ noLeg L t = false ∧ c = caveM L t
  apart : all.Pairwise (fun c d => ∀ x, x ∈ c → x ∈ d → False)
  has : ∀ s ∈ done, noLeg L s = false → ∃ c ∈ all, s ∈ c
theorem addCave_ok {L : List S32} (hL : ∀ x ∈ L, inSt x) {done : List Int} {all : List (List Int)} (h : CavesOk L done all) {s : Int} (hs : 0 ≤ s ∧ s ≤ 7) : CavesOk L (done ++ [s]) (addCave L all s) := by
  unfold addCave
  by_cases hc : (noLeg L s || all.any (fun c => c.contains s)) = true
  · rw [if_pos hc]
    refine ⟨h.are, h.apart, fun t ht hn => ?_⟩
    rcases List.mem_append.1 ht with ht | ht
    · exact h.has t ht hn
    · rw [List.mem_singleton] at ht
      subst ht
      rw [hn, Bool.false_or, List.any_eq_true] at hc
      obtain ⟨c, h1, h2⟩ := hc
      exact ⟨c, h1, by simpa using h2⟩
  · rw [if_neg hc]
    simp only [Bool.or_eq_true, not_or, Bool.not_eq_true, List.any_eq_false] at hc
    obtain ⟨hn, hno⟩ := hc
    refine ⟨fun c hcm => ?_, ?_, fun t ht hnt => ?_⟩
    · rcases List.mem_append.1 hcm with hm | hm
      · exact h.are c hm
      · rw [List.mem_singleton] at hm; exact ⟨s, hs, hn, hm⟩
    · refine List.pairwise_append.2 ⟨h.apart, List.pairwise_singleton _ _, ?_⟩
      intro c hcm d hd x h1 h2
      rw [List.mem_singleton] at hd
      subst hd
      obtain ⟨t, ht, _, rfl⟩ := h.are c hcm
      have k1 := (mem_caveM hL ht x).1 h1
      have k2 := (mem_caveM hL hs x).1 h2
      have k3 := (mem_caveM hL ht s).2 (k1.trans k2.symm)
      have k4 := hno _ hcm
      simp [k3] at k4
    · rcases List.mem_append.1 ht with ht | ht
      · obtain ⟨c, h1, h2⟩ := h.has t ht hnt; exact ⟨c, List.mem_append_left _ h1, h2⟩
      · rw [List.mem_singleton] at ht
        subst ht
        exact ⟨caveM L t, List.mem_append_right _ (List.mem_singleton.2 rfl), (mem_caveM hL hs t).2 Conn.refl⟩
theorem foldCaves_ok {L : List S32} (hL : ∀ x ∈ L, inSt x) : ∀ (ss done : List Int) (all : List (List Int)), (∀ s ∈ ss, 0 ≤ s ∧ s ≤ 7) → CavesOk L done all → CavesOk L (done ++ ss) (ss.foldl (addCave L) all)
  | [], done, all, _, h => by rw [List.append_nil]; exact h
  | s :: ss, done, all, hs, h => by
    have h2 := foldCaves_ok hL ss (done ++ [s]) _ (fun t ht => hs t (List.mem_cons_of_mem _ ht)) (addCave_ok hL h (hs s List.mem_cons_self))
    rw [List.append_assoc] at h2
    exact h2
theorem cavesM_ok {L : List S32} (hL : ∀ x ∈ L, inSt x) : CavesOk L st8 (cavesM L) :=
  foldCaves_ok hL st8 [] [] (fun s hs => (mem_st8 s).1 hs) ⟨fun c h => by simp at h, List.Pairwise.nil, fun s h => by simp at h⟩
theorem foldCaves_len (L : List S32) : ∀ (ss : List Int) (all : List (List Int)), (ss.foldl (addCave L) all).length ≤ all.length + ss.length
  | [], all => by simp
  | s :: ss, all => by
    rw [List.foldl_cons]
    have h := foldCaves_len L ss (addCave L all s)
    have h2 : (addCave L all s).length ≤ all.length + 1 := by unfold addCave; split <;> simp
    rw [List.length_cons]
    omega
theorem cavesM_len (L : List S32) : (cavesM L).length ≤ 8 := by
  have h := foldCaves_len L st8 []
  exact h
theorem caveM_conn {L : List S32} (hL : ∀ x ∈ L, inSt x) {s t : Int} (ht : 0 ≤ t ∧ t ≤ 7) (h : s ∈ caveM L t) : caveM L t = caveM L s := by
  have h1 := (mem_caveM hL ht s).1 h
  have hs := conn_in hL ht h1
  refine rising_ext (rising_caveM _ _) (rising_caveM _ _) fun x => ?_
  rw [mem_caveM hL ht, mem_caveM hL hs]
  exact ⟨fun h2 => h1.symm.trans h2, fun h2 => h1.trans h2⟩
/-- What the program collects, cave by cave, and the reference's list. -/
def cutsOf (L : List S32) (c : List Int) : List Int := c.filter (fun s => cutM L c s)
def cutsM (L : List S32) : List Int := (cavesM L).foldl (fun out c => out ++ cutsOf L c) []
def cutsS (L : List S32) : List Int := st8.filter (cutS L)
theorem foldl_app {α β : Type} (f : α → List β) : ∀ (l : List α) (z : List β), l.foldl (fun out c => out ++ f c) z = z ++ l.flatMap f
  | [], z => by simp
  | x :: l, z => by rw [List.foldl_cons, foldl_app f l, List.flatMap_cons, List.append_assoc]
theorem conn_alone {L : List S32} {s b : Int} (hn : noLeg L s = true) (h : Conn L s b) : b = s := by
  have hx : ∀ x ∈ L, x.f0 ≠ s ∧ x.f1 ≠ s := by
    intro x hx
    have h := List.all_eq_true.1 hn x hx
    simpa [notAt] using h
  induction h with
  | refl => rfl
  | fwd h1 _ ih => exact absurd ih (hx _ h1).1
  | bwd h1 _ ih => exact absurd ih (hx _ h1).2
theorem mem_cutsM {L : List S32} (hL : ∀ x ∈ L, inSt x) (s : Int) : s ∈ cutsM L ↔ s ∈ cutsS L := by
  unfold cutsM cutsS cutsOf
  rw [foldl_app, List.nil_append, List.mem_flatMap, List.mem_filter, mem_st8]
  have ok := cavesM_ok hL
  constructor
  · rintro ⟨c, hc, hm⟩
    obtain ⟨t, ht, _, rfl⟩ := ok.are c hc
    obtain ⟨h1, h2⟩ := List.mem_filter.1 hm
    have hs := conn_in hL ht ((mem_caveM hL ht s).1 h1)
    rw [caveM_conn hL ht h1, cut_same hL hs] at h2
    exact ⟨hs, h2⟩
  · rintro ⟨hs, h2⟩
    have hn : noLeg L s = false := by
      cases h : noLeg L s
      · rfl
      · exfalso
        have e : caveM L s = [s] := by
          refine rising_ext (rising_caveM _ _) (by simp [rising]) fun x => ?_
          rw [mem_caveM hL hs, List.mem_singleton]
          exact ⟨fun h3 => conn_alone h h3, fun e => e ▸ Conn.refl⟩
        unfold cutS at h2
        rw [e, if_pos (by simp)] at h2
        cases h2
    obtain ⟨c, hc, h1⟩ := ok.has s ((mem_st8 s).2 hs) hn
    obtain ⟨t, ht, _, rfl⟩ := ok.are c hc
    refine ⟨_, hc, List.mem_filter.2 ⟨h1, ?_⟩⟩
    rw [caveM_conn hL ht h1, cut_same hL hs]
    exact h2
theorem nodup_flat {α : Type} (f : List α → List α) (hf : ∀ c x, x ∈ f c → x ∈ c) : ∀ (l : List (List α)), (∀ c ∈ l, (f c).Nodup) → l.Pairwise (fun c d => ∀ x, x ∈ c → x ∈ d → False) → (l.flatMap f).Nodup
  | [], _, _ => by simp
  | c :: l, h1, h2 => by
    have h3 := List.pairwise_cons.1 h2
    rw [List.flatMap_cons]
    refine List.nodup_append.2 ⟨h1 c List.mem_cons_self, nodup_flat f hf l (fun d hd => h1 d (List.mem_cons_of_mem _ hd)) h3.2, ?_⟩
    intro x hx y hy e
    subst e
    obtain ⟨d, hd, hy⟩ := List.mem_flatMap.1 hy
    exact h3.1 d hd x (hf _ _ hx) (hf _ _ hy)
theorem nodup_cutsM {L : List S32} (hL : ∀ x ∈ L, inSt x) : (cutsM L).Nodup := by
  unfold cutsM
  rw [foldl_app, List.nil_append]
  have ok := cavesM_ok hL
  refine nodup_flat _ (fun c x h => (List.mem_filter.1 h).1) _ ?_ ok.apart
  intro c hc
  obtain ⟨t, _, _, rfl⟩ := ok.are c hc
  exact rising_nodup (List.Pairwise.filter _ (rising_caveM L t))
theorem sort_cuts {L : List S32} (hL : ∀ x ∈ L, inSt x) : (cutsM L).mergeSort (fun x y => decide (x ≤ y)) = cutsS L := by
  have hp := List.mergeSort_perm (cutsM L) (fun x y : Int => decide (x ≤ y))
  have hs := List.pairwise_mergeSort (le := fun x y : Int => decide (x ≤ y)) (fun a b c h1 h2 => by simp at *; omega) (fun a b => by simp; omega) (cutsM L)
  have hn : ((cutsM L).mergeSort (fun x y => decide (x ≤ y))).Nodup := (List.Perm.nodup_iff hp).2 (nodup_cutsM hL)
  refine rising_ext ?_ (List.Pairwise.filter _ rising_st8) fun x => ?_
  · refine List.Pairwise.imp₂ (R := fun x y : Int => decide (x ≤ y) = true) (S := fun x y : Int => x ≠ y) ?_ hs hn
    intro a b h1 h2
    have := of_decide_eq_true h1
    omega
  · rw [hp.mem_iff]
    exact mem_cutsM hL x

/-! The reference's search: a list in order, a round at a time. -/
def putM : List Int → Int → List Int
  | [], n => [n]
  | x :: l, n => if x < n then x :: putM l n else if x = n then x :: l else n :: x :: l
theorem putM_len : ∀ (l : List Int) (n : Int), (putM l n).length ≤ l.length + 1
  | [], n => by simp [putM]
  | x :: l, n => by
    unfold putM
    split
    · have := putM_len l n; simp only [List.length_cons]; omega
    · split <;> simp only [List.length_cons] <;> omega
theorem mem_putM : ∀ (l : List Int) (n y : Int), y ∈ putM l n ↔ y = n ∨ y ∈ l
  | [], n, y => by simp [putM]
  | x :: l, n, y => by
    unfold putM
    by_cases h : x < n
    · rw [if_pos h, List.mem_cons, mem_putM l n y, List.mem_cons]
      constructor <;> rintro (h | h | h) <;> simp [h]
    · rw [if_neg h]
      by_cases e : x = n
      · rw [if_pos e, List.mem_cons, e]
        constructor
        · rintro (h | h) <;> simp [h]
        · rintro (h | h | h) <;> simp [h]
      · rw [if_neg e, List.mem_cons]
theorem rising_putM : ∀ (l : List Int) (n : Int), rising l → rising (putM l n)
  | [], n, _ => by simp [putM, rising]
  | x :: l, n, h => by
    have h' := List.pairwise_cons.1 h
    unfold putM
    by_cases c : x < n
    · rw [if_pos c]
      refine List.pairwise_cons.2 ⟨fun y hy => ?_, rising_putM l n h'.2⟩
      rcases (mem_putM l n y).1 hy with rfl | hy
      · exact c
      · exact h'.1 y hy
    · rw [if_neg c]
      by_cases e : x = n
      · rw [if_pos e]; exact h
      · rw [if_neg e]
        refine List.pairwise_cons.2 ⟨fun y hy => ?_, h⟩
        rcases List.mem_cons.1 hy with rfl | hy
        · omega
        · have := h'.1 y hy; omega
def stepP (w : Int) (st : List Int × Bool) (x : S32) : List Int × Bool := if x.f0 = w then st else if x.f1 = w then st else if st.1.contains x.f0 = st.1.contains x.f1 then st else (putM (putM st.1 x.f0) x.f1, true)
def cntP (R : List S32) (o : List Int) : Nat := R.countP (fun x => o.contains x.f0 && o.contains x.f1)
/-- What a list of stations keeps to. -/
structure PutOk (R : List S32) (a : Int) (o : List Int) : Prop where
  up : rising o
  sound : ∀ b ∈ o, Conn R a b
  has : a ∈ o
theorem stepP_ok {L : List S32} {w a : Int} {st : List Int × Bool} {x : S32} (hx : x ∈ L) (h : PutOk (restM L w) a st.1) :
    PutOk (restM L w) a (stepP w st x).1 ∧ (∀ b ∈ st.1, b ∈ (stepP w st x).1) ∧ ((stepP w st x).2 = true → st.2 = true ∨ cntP (restM L w) st.1 < cntP (restM L w) (stepP w st x).1) ∧ ((stepP w st x).2 = false → (stepP w st x) = st ∧ (notAt w x = true → st.1.contains x.f0 = st.1.contains x.f1)) := by
  unfold stepP
  by_cases h0 : x.f0 = w
  · rw [if_pos h0]
    exact ⟨h, fun b hb => hb, Or.inl, fun _ => ⟨rfl, fun h2 => by simp [notAt, h0] at h2⟩⟩
  rw [if_neg h0]
  by_cases h1 : x.f1 = w
  · rw [if_pos h1]
    exact ⟨h, fun b hb => hb, Or.inl, fun _ => ⟨rfl, fun h2 => by simp [notAt, h1] at h2⟩⟩
  rw [if_neg h1]
  by_cases hc : st.1.contains x.f0 = st.1.contains x.f1
  · rw [if_pos hc]
    exact ⟨h, fun b hb => hb, Or.inl, fun _ => ⟨rfl, fun _ => hc⟩⟩
  rw [if_neg hc]
  have hR : x ∈ restM L w := List.mem_filter.2 ⟨hx, by simp [notAt, h0, h1]⟩
  have hm : ∀ b, b ∈ putM (putM st.1 x.f0) x.f1 ↔ b = x.f1 ∨ b = x.f0 ∨ b ∈ st.1 := fun b => by rw [mem_putM, mem_putM]
  have hor : Conn (restM L w) a x.f0 ∧ Conn (restM L w) a x.f1 := by
    cases e0 : st.1.contains x.f0
    · cases e1 : st.1.contains x.f1
      · rw [e0, e1] at hc; exact absurd rfl hc
      · have k := h.sound _ (List.contains_iff_mem.1 e1)
        exact ⟨Conn.bwd hR k, k⟩
    · have k := h.sound _ (List.contains_iff_mem.1 e0)
      exact ⟨k, Conn.fwd hR k⟩
  refine ⟨⟨rising_putM _ _ (rising_putM _ _ h.up), fun b hb => ?_, (hm _).2 (Or.inr (Or.inr h.has))⟩, fun b hb => (hm b).2 (Or.inr (Or.inr hb)), fun _ => Or.inr ?_, fun h2 => by cases h2⟩
  · rcases (hm b).1 hb with rfl | rfl | hb
    · exact hor.2
    · exact hor.1
    · exact h.sound b hb
  · unfold cntP
    refine countP_lt _ ?_ ⟨x, hR, ?_, ?_⟩
    · intro y _ h3
      simp only [Bool.and_eq_true, List.contains_iff_mem] at h3 ⊢
      exact ⟨(hm _).2 (Or.inr (Or.inr h3.1)), (hm _).2 (Or.inr (Or.inr h3.2))⟩
    · cases e0 : st.1.contains x.f0 <;> cases e1 : st.1.contains x.f1 <;> simp_all
    · simp only [Bool.and_eq_true, List.contains_iff_mem]
      exact ⟨(hm _).2 (Or.inr (Or.inl rfl)), (hm _).2 (Or.inl rfl)⟩
theorem cntP_mono {R : List S32} {o o' : List Int} (h : ∀ b ∈ o, b ∈ o') : cntP R o ≤ cntP R o' := by
  unfold cntP
  refine List.countP_mono_left fun y _ h3 => ?_
  simp only [Bool.and_eq_true, List.contains_iff_mem] at h3 ⊢
  exact ⟨h _ h3.1, h _ h3.2⟩
theorem roundP_ok {L : List S32} {w a : Int} : ∀ (M : List S32) (st : List Int × Bool), (∀ x ∈ M, x ∈ L) → PutOk (restM L w) a st.1 →
    PutOk (restM L w) a (M.foldl (stepP w) st).1 ∧ (∀ b ∈ st.1, b ∈ (M.foldl (stepP w) st).1) ∧ ((M.foldl (stepP w) st).2 = true → st.2 = true ∨ cntP (restM L w) st.1 < cntP (restM L w) (M.foldl (stepP w) st).1) ∧ ((M.foldl (stepP w) st).2 = false → (M.foldl (stepP w) st) = st ∧ ∀ x ∈ M, notAt w x = true → st.1.contains x.f0 = st.1.contains x.f1)
  | [], st, _, h => ⟨h, fun b hb => hb, Or.inl, fun _ => ⟨rfl, fun x hx => by cases hx⟩⟩
  | x :: M, st, hM, h => by
    obtain ⟨a1, a2, a3, a4⟩ := stepP_ok (hM x List.mem_cons_self) h
    obtain ⟨b1, b2, b3, b4⟩ := roundP_ok M (stepP w st x) (fun y hy => hM y (List.mem_cons_of_mem _ hy)) a1
    rw [List.foldl_cons]
    refine ⟨b1, fun b hb => b2 b (a2 b hb), fun h1 => ?_, fun h1 => ?_⟩
    · have c1 := cntP_mono (R := restM L w) a2
      have c2 := cntP_mono (R := restM L w) b2
      rcases b3 h1 with h2 | h2
      · rcases a3 h2 with h3 | h3
        · exact Or.inl h3
        · exact Or.inr (by omega)
      · exact Or.inr (by omega)
    · obtain ⟨e1, e2⟩ := b4 h1
      have h5 : (stepP w st x).2 = false := by rw [← e1]; exact h1
      obtain ⟨e3, e4⟩ := a4 h5
      rw [e3] at e1 e2 ⊢
      refine ⟨e1, fun y hy => ?_⟩
      rcases List.mem_cons.1 hy with rfl | hy
      · exact e4
      · exact e2 y hy
theorem roundP_done {L : List S32} {w a : Int} (hL : ∀ x ∈ L, inSt x) (ha : 0 ≤ a ∧ a ≤ 7) {o : List Int} (h : PutOk (restM L w) a o) (hc : ∀ x ∈ L, notAt w x = true → o.contains x.f0 = o.contains x.f1) : o = caveM (restM L w) a := by
  refine rising_ext h.up (rising_caveM _ _) fun b => ?_
  rw [mem_caveM (restM_in hL w) ha]
  refine ⟨h.sound b, fun hb => ?_⟩
  have hcl : ∀ x ∈ restM L w, (x.f0 ∈ o ↔ x.f1 ∈ o) := by
    intro x hx
    have k := List.mem_filter.1 hx
    have k2 := hc x k.1 k.2
    rw [← List.contains_iff_mem, ← List.contains_iff_mem, k2]
  induction hb with
  | refl => exact h.has
  | fwd hx _ ih => exact (hcl _ hx).1 ih
  | bwd hx _ ih => exact (hcl _ hx).2 ih
theorem startP_ok (R : List S32) (a : Int) : PutOk R a [a] := ⟨by simp [rising], fun b hb => by rw [List.mem_singleton] at hb; exact hb ▸ Conn.refl, List.mem_singleton.2 rfl⟩
theorem restM_none {L : List S32} (hL : ∀ x ∈ L, inSt x) : restM L (-1) = L := by
  unfold restM
  rw [List.filter_eq_self]
  intro x hx
  have h := hL x hx
  have h0 := h.1.1
  have h1 := h.2.1
  simp only [notAt, Bool.not_eq_true', Bool.or_eq_false_iff, decide_eq_false_iff_not]
  omega
theorem cntP_le (R : List S32) (o : List Int) : cntP R o ≤ R.length := List.countP_le_length
theorem caveM_len (L : List S32) (a : Int) : (caveM L a).length ≤ 8 := List.length_filter_le _ _
/-- A list in order out of the stations has eight at most. -/
theorem rising_len : ∀ {o : List Int} {lo : Int}, rising o → (∀ b ∈ o, lo ≤ b ∧ b ≤ 7) → (o.length : Int) ≤ max 0 (8 - lo)
  | [], lo, _, _ => by simp; omega
  | x :: o, lo, h, hb => by
    have h' := List.pairwise_cons.1 h
    have h1 := hb x List.mem_cons_self
    have h2 := rising_len (lo := x + 1) h'.2 (fun b hm => ⟨by have := h'.1 b hm; omega, (hb b (List.mem_cons_of_mem _ hm)).2⟩)
    rw [List.length_cons]
    omega
theorem putOk_len {R : List S32} {a : Int} {o : List Int} (hR : ∀ x ∈ R, inSt x) (ha : 0 ≤ a ∧ a ≤ 7) (h : PutOk R a o) : o.length ≤ 8 := by
  have h1 := rising_len (lo := 0) h.up (fun b hb => conn_in hR ha (h.sound b hb))
  omega

theorem st8_drop : ∀ s : Nat, s < 8 → st8.drop s = (s : Int) :: st8.drop (s + 1) := by
  intro s h
  match s, h with
  | 0, _ => rfl
  | 1, _ => rfl
  | 2, _ => rfl
  | 3, _ => rfl
  | 4, _ => rfl
  | 5, _ => rfl
  | 6, _ => rfl
  | 7, _ => rfl
theorem goodLegs_in {L : List S32} (h : goodLegs L = true) : ∀ x ∈ L, inSt x := by
  intro x hx
  simp only [goodLegs, Bool.and_eq_true, List.all_eq_true] at h
  have h2 := okLeg_in (h.1 x hx)
  exact ⟨h2.1, h2.2.1⟩
theorem getD_mem17 (l : List Int) (i : Nat) (h : i < l.length) : l.getD i 0 ∈ l := by
  rw [List.getD_eq_getElem?_getD, List.getElem?_eq_getElem h]; exact List.getElem_mem _

/-! Numbers of legs from the entrances. -/
def vAt (o : List Int) (s : Int) : Int := o.getD s.toNat 0
def nb17 (L : List S32) (a b : Int) : Prop := ∃ x ∈ L, (x.f0 = a ∧ x.f1 = b) ∨ (x.f1 = a ∧ x.f0 = b)
def st7 (s : Int) : Prop := 0 ≤ s ∧ s ≤ 7
structure Dist (L : List S32) (E o : List Int) : Prop where
  len : o.length = 8
  low : ∀ s, st7 s → -1 ≤ vAt o s
  zero : ∀ s, st7 s → (vAt o s = 0 ↔ s ∈ E)
  near : ∀ x ∈ L, (0 ≤ vAt o x.f0 → 0 ≤ vAt o x.f1 ∧ vAt o x.f1 ≤ vAt o x.f0 + 1) ∧ (0 ≤ vAt o x.f1 → 0 ≤ vAt o x.f0 ∧ vAt o x.f0 ≤ vAt o x.f1 + 1)
  back : ∀ s, st7 s → 0 < vAt o s → ∃ t, st7 t ∧ nb17 L s t ∧ vAt o t = vAt o s - 1
theorem vAt_set {o : List Int} {a v : Int} (s : Int) (ha : 0 ≤ a) (hs : 0 ≤ s) (hl : a.toNat < o.length) : vAt (o.set a.toNat v) s = if s = a then v else vAt o s := by
  unfold vAt
  rw [List.getD_eq_getElem?_getD, List.getD_eq_getElem?_getD, List.getElem?_set]
  by_cases h : s = a
  · subst h; simp [hl]
  · rw [if_neg h, if_neg (by omega)]
theorem Dist.nbr {L : List S32} {E o : List Int} (h : Dist L E o) {s t : Int} (hn : nb17 L s t) (ht : 0 ≤ vAt o t) : 0 ≤ vAt o s ∧ vAt o s ≤ vAt o t + 1 := by
  obtain ⟨x, hx, ⟨rfl, rfl⟩ | ⟨rfl, rfl⟩⟩ := hn
  · exact (h.near x hx).2 ht
  · exact (h.near x hx).1 ht
theorem dist_level {L : List S32} {E o p : List Int} (h : Dist L E o) (g : Dist L E p) : ∀ (n : Nat) (k : Nat), k ≤ n → ∀ s, st7 s → (vAt o s = (k : Int) ↔ vAt p s = (k : Int)) := by
  intro n
  induction n with
  | zero =>
    intro k hk s hs
    have e : k = 0 := by omega
    subst e
    show vAt o s = 0 ↔ vAt p s = 0
    rw [h.zero s hs, g.zero s hs]
  | succ n ih =>
    intro k hk s hs
    by_cases hkn : k ≤ n
    · exact ih k hkn s hs
    · have e : k = n + 1 := by omega
      subst e
      have half : ∀ {o p : List Int}, Dist L E o → Dist L E p → (∀ k, k ≤ n → ∀ s, st7 s → (vAt o s = (k : Int) ↔ vAt p s = (k : Int))) → vAt o s = ((n + 1 : Nat) : Int) → vAt p s = ((n + 1 : Nat) : Int) := by
        intro o p h g ih hv
        obtain ⟨t, ht, hnb, hvt⟩ := h.back s hs (by omega)
        have h2 : vAt p t = (n : Int) := (ih n (Nat.le_refl n) t ht).1 (by omega)
        obtain ⟨h3, h4⟩ := g.nbr hnb (by omega)
        by_cases hlt : vAt p s = ((n + 1 : Nat) : Int)
        · exact hlt
        · exfalso
          have h5 := (ih (vAt p s).toNat (by omega) s hs).2 (by omega)
          omega
      exact ⟨half h g ih, half g h (fun k hk s hs => (ih k hk s hs).symm)⟩
theorem dist_uniq {L : List S32} {E o p : List Int} (h : Dist L E o) (g : Dist L E p) : o = p := by
  have hv : ∀ s, st7 s → vAt o s = vAt p s := by
    intro s hs
    have h1 := h.low s hs
    have h2 := g.low s hs
    by_cases c : 0 ≤ vAt o s
    · have := (dist_level h g _ (vAt o s).toNat (Nat.le_refl _) s hs).1 (by omega); omega
    · by_cases c2 : 0 ≤ vAt p s
      · have := (dist_level h g _ (vAt p s).toNat (Nat.le_refl _) s hs).2 (by omega); omega
      · omega
  apply List.ext_getElem (by rw [h.len, g.len])
  intro i h1 h2
  have h3 := hv (i : Int) ⟨by omega, by have := h.len; omega⟩
  unfold vAt at h3
  rw [Int.toNat_natCast, List.getD_eq_getElem?_getD, List.getD_eq_getElem?_getD, List.getElem?_eq_getElem h1, List.getElem?_eq_getElem h2] at h3
  exact h3
/-- Nine numbers do not find room among eight. -/
theorem nodup_sub : ∀ (l m : List Int), l.Nodup → (∀ x ∈ l, x ∈ m) → l.length ≤ m.length
  | [], _, _, _ => by simp
  | x :: l, m, hn, hs => by
    have hn' := List.nodup_cons.1 hn
    have hx := hs x List.mem_cons_self
    have h2 := nodup_sub l (m.erase x) hn'.2 (fun y hy => (List.mem_erase_of_ne (by intro e; subst e; exact hn'.1 hy)).2 (hs y (List.mem_cons_of_mem _ hy)))
    rw [List.length_erase_of_mem hx] at h2
    have h3 : 0 < m.length := List.length_pos_of_mem hx
    rw [List.length_cons]
    omega
/-! The reference: level by level. -/
structure Lv (L : List S32) (E : List Int) (n : Int) (M : List S32) (o : List Int) : Prop where
  len : o.length = 8
  low : ∀ s, st7 s → -1 ≤ vAt o s
  high : ∀ s, st7 s → vAt o s ≤ n + 1
  zero : ∀ s, st7 s → (vAt o s = 0 ↔ s ∈ E)
  back : ∀ s, st7 s → 0 < vAt o s → ∃ t, st7 t ∧ nb17 L s t ∧ vAt o t = vAt o s - 1
  cl : ∀ x ∈ L, (0 ≤ vAt o x.f0 → vAt o x.f0 < n → 0 ≤ vAt o x.f1 ∧ vAt o x.f1 ≤ vAt o x.f0 + 1) ∧ (0 ≤ vAt o x.f1 → vAt o x.f1 < n → 0 ≤ vAt o x.f0 ∧ vAt o x.f0 ≤ vAt o x.f1 + 1)
  done : ∀ x ∈ M, (vAt o x.f0 = n → 0 ≤ vAt o x.f1) ∧ (vAt o x.f1 = n → 0 ≤ vAt o x.f0)
def relax1 (n : Int) (o : List Int) (a b : Int) : List Int := if vAt o a = n then (if vAt o b < 0 then o.set b.toNat (n + 1) else o) else o
def relax (n : Int) (o : List Int) (x : S32) : List Int := relax1 n (relax1 n o x.f0 x.f1) x.f1 x.f0
theorem relax1_ok {L M : List S32} {E o : List Int} {n a b : Int} (hL : ∀ x ∈ L, inSt x) (hM : ∀ x ∈ M, x ∈ L) (h : Lv L E n M o) (hn : 0 ≤ n) (ha : st7 a) (hb : st7 b) (hnb : nb17 L b a) : Lv L E n M (relax1 n o a b) ∧ (vAt (relax1 n o a b) a = n → 0 ≤ vAt (relax1 n o a b) b) ∧ (∀ s, st7 s → 0 ≤ vAt o s → vAt (relax1 n o a b) s = vAt o s) ∧ (∀ s, st7 s → vAt (relax1 n o a b) s = n → vAt o s = n) := by
  unfold relax1
  by_cases c : vAt o a = n
  · rw [if_pos c]
    by_cases c2 : vAt o b < 0
    · rw [if_pos c2]
      have hv : ∀ s, st7 s → vAt (o.set b.toNat (n + 1)) s = if s = b then n + 1 else vAt o s := fun s hs => vAt_set s hb.1 hs.1 (by rw [h.len]; have := hb.1; have := hb.2; omega)
      have hin : ∀ x ∈ L, st7 x.f0 ∧ st7 x.f1 := fun x hx => hL x hx
      refine ⟨⟨by rw [List.length_set]; exact h.len, ?_, ?_, ?_, ?_, ?_, ?_⟩, ?_, ?_, ?_⟩
      · intro s hs; rw [hv s hs]; split; omega; exact h.low s hs
      · intro s hs; rw [hv s hs]; split; omega; exact h.high s hs
      · intro s hs
        rw [hv s hs]
        by_cases e : s = b
        · subst e; rw [if_pos rfl, ← h.zero s hs]; omega
        · rw [if_neg e]; exact h.zero s hs
      · intro s hs hpos
        by_cases e : s = b
        · subst e
          refine ⟨a, ha, hnb, ?_⟩
          rw [hv a ha, hv s hs, if_pos rfl, if_neg (fun e => by rw [e] at c; omega)]
          omega
        · rw [hv s hs, if_neg e] at hpos
          obtain ⟨t, ht, h1, h2⟩ := h.back s hs hpos
          refine ⟨t, ht, h1, ?_⟩
          rw [hv t ht, hv s hs, if_neg e, if_neg (fun e => by rw [e] at h2; omega)]
          exact h2
      · intro x hx
        have h1 := h.cl x hx
        rw [hv _ (hin x hx).1, hv _ (hin x hx).2]
        constructor
        · intro k1 k2
          by_cases e : x.f0 = b
          · rw [if_pos e] at k2; omega
          · rw [if_neg e] at k1 k2 ⊢
            have h2 := h1.1 k1 k2
            rw [if_neg (fun e => by rw [e] at h2; omega)]
            exact h2
        · intro k1 k2
          by_cases e : x.f1 = b
          · rw [if_pos e] at k2; omega
          · rw [if_neg e] at k1 k2 ⊢
            have h2 := h1.2 k1 k2
            rw [if_neg (fun e => by rw [e] at h2; omega)]
            exact h2
      · intro x hx
        have h1 := h.done x hx
        rw [hv _ (hin x (hM x hx)).1, hv _ (hin x (hM x hx)).2]
        constructor
        · intro k1
          by_cases e : x.f0 = b
          · rw [if_pos e] at k1; omega
          · rw [if_neg e] at k1; have := h1.1 k1; split <;> omega
        · intro k1
          by_cases e : x.f1 = b
          · rw [if_pos e] at k1; omega
          · rw [if_neg e] at k1; have := h1.2 k1; split <;> omega
      · intro _; rw [hv b hb, if_pos rfl]; omega
      · intro s hs h0; rw [hv s hs, if_neg (fun e => by rw [e] at h0; omega)]
      · intro s hs h0; rw [hv s hs] at h0; split at h0; omega; exact h0
    · rw [if_neg c2]
      exact ⟨h, fun _ => by omega, fun _ _ _ => rfl, fun _ _ h0 => h0⟩
  · rw [if_neg c]
    exact ⟨h, fun h0 => absurd h0 c, fun _ _ _ => rfl, fun _ _ h0 => h0⟩
theorem relax_ok {L M : List S32} {E o : List Int} {n : Int} {x : S32} (hL : ∀ x ∈ L, inSt x) (hM : ∀ x ∈ M, x ∈ L) (h : Lv L E n M o) (hn : 0 ≤ n) (hx : x ∈ L) : Lv L E n (M ++ [x]) (relax n o x) := by
  have h0 := (hL x hx).1
  have h1 := (hL x hx).2
  have n0 : nb17 L x.f1 x.f0 := ⟨x, hx, Or.inr ⟨rfl, rfl⟩⟩
  have n1 : nb17 L x.f0 x.f1 := ⟨x, hx, Or.inl ⟨rfl, rfl⟩⟩
  obtain ⟨a1, a2, a3, a4⟩ := relax1_ok hL hM h hn h0 h1 n0
  obtain ⟨b1, b2, b3, b4⟩ := relax1_ok hL hM a1 hn h1 h0 n1
  refine ⟨b1.len, b1.low, b1.high, b1.zero, b1.back, b1.cl, fun y hy => ?_⟩
  rcases List.mem_append.1 hy with hy | hy
  · exact b1.done y hy
  · rw [List.mem_singleton] at hy
    subst hy
    refine ⟨fun k => ?_, b2⟩
    have k1 := b4 _ h0 k
    have k2 := a2 k1
    show 0 ≤ vAt (relax1 n (relax1 n o y.f0 y.f1) y.f1 y.f0) y.f1
    rw [b3 _ h1 k2]
    exact k2
theorem relaxs_ok {L : List S32} {E : List Int} {n : Int} (hL : ∀ x ∈ L, inSt x) (hn : 0 ≤ n) : ∀ (T M : List S32) (o : List Int), (∀ x ∈ M, x ∈ L) → (∀ x ∈ T, x ∈ L) → Lv L E n M o → Lv L E n (M ++ T) (T.foldl (relax n) o)
  | [], M, o, _, _, h => by rw [List.append_nil]; exact h
  | x :: T, M, o, hM, hT, h => by
    have h2 := relax_ok hL hM h hn (hT x List.mem_cons_self)
    have h3 := relaxs_ok hL hn T (M ++ [x]) _ (fun y hy => by
      rcases List.mem_append.1 hy with hy | hy
      · exact hM y hy
      · rw [List.mem_singleton] at hy; exact hy ▸ hT x List.mem_cons_self) (fun y hy => hT y (List.mem_cons_of_mem _ hy)) h2
    rw [List.append_assoc] at h3
    exact h3
theorem lv_next {L : List S32} {E o : List Int} {n : Int} (hL : ∀ x ∈ L, inSt x) (h : Lv L E n L o) : Lv L E (n + 1) [] o := by
  refine ⟨h.len, h.low, fun s hs => by have := h.high s hs; omega, h.zero, h.back, fun x hx => ?_, fun x hx => by cases hx⟩
  have h1 := h.cl x hx
  have h2 := h.done x hx
  have k0 := h.high x.f0 (hL x hx).1
  have k1 := h.high x.f1 (hL x hx).2
  constructor
  · intro a b
    by_cases e : vAt o x.f0 = n
    · have := h2.1 e; omega
    · exact h1.1 a (by omega)
  · intro a b
    by_cases e : vAt o x.f1 = n
    · have := h2.2 e; omega
    · exact h1.2 a (by omega)
def levels (L : List S32) : Nat → Int → List Int → List Int
  | 0, _, o => o
  | d + 1, n, o => levels L d (n + 1) (L.foldl (relax n) o)
theorem levels_ok {L : List S32} {E : List Int} (hL : ∀ x ∈ L, inSt x) : ∀ (d : Nat) (n : Int) (o : List Int), 0 ≤ n → Lv L E n [] o → Lv L E (n + d) [] (levels L d n o)
  | 0, n, o, _, h => by rw [show n + ((0 : Nat) : Int) = n by omega]; exact h
  | d + 1, n, o, hn, h => by
    have h2 := lv_next hL (relaxs_ok hL hn L [] o (fun x hx => by cases hx) (fun x hx => hx) h)
    have h3 := levels_ok hL d (n + 1) _ (by omega) h2
    rw [show n + 1 + (d : Int) = n + ((d + 1 : Nat) : Int) by omega] at h3
    exact h3
theorem back_all {L : List S32} {o : List Int} (hb : ∀ s, st7 s → 0 < vAt o s → ∃ t, st7 t ∧ nb17 L s t ∧ vAt o t = vAt o s - 1) : ∀ (d : Nat) (s : Int), st7 s → ∀ k : Int, 0 ≤ k → k + d = vAt o s → ∃ t, st7 t ∧ vAt o t = k
  | 0, s, hs, k, _, e => ⟨s, hs, by omega⟩
  | d + 1, s, hs, k, hk, e => by
    obtain ⟨t, ht, _, h2⟩ := hb s hs (by omega)
    exact back_all hb d t ht k hk (by omega)
theorem vAt_mem {o : List Int} {s : Int} (hl : o.length = 8) (hs : st7 s) : vAt o s ∈ o := by
  unfold vAt
  have h0 := hs.1
  have h1 := hs.2
  rw [List.getD_eq_getElem?_getD, List.getElem?_eq_getElem (show s.toNat < o.length by omega)]
  exact List.getElem_mem _
theorem lv_dist {L : List S32} {E o : List Int} (hL : ∀ x ∈ L, inSt x) (h : Lv L E 8 [] o) : Dist L E o := by
  have hlt : ∀ s, st7 s → vAt o s < 8 := by
    intro s hs
    apply Classical.byContradiction
    intro hn
    have hall : ∀ k ∈ [0, 1, 2, 3, 4, 5, 6, 7, (8 : Int)], k ∈ o := by
      intro k hk
      have hk2 : 0 ≤ k ∧ k ≤ 8 := by simp only [List.mem_cons, List.not_mem_nil, or_false] at hk; omega
      obtain ⟨t, ht, e⟩ := back_all h.back (vAt o s - k).toNat s hs k hk2.1 (by omega)
      rw [← e]
      exact vAt_mem h.len ht
    have h9 := nodup_sub _ o (by decide) hall
    rw [h.len] at h9
    simp at h9
  refine ⟨h.len, h.low, h.zero, fun x hx => ?_, h.back⟩
  have h1 := h.cl x hx
  exact ⟨fun k => h1.1 k (hlt _ (hL x hx).1), fun k => h1.2 k (hlt _ (hL x hx).2)⟩
def start17 (E : List Int) : List Int := st8.map fun s => if E.contains s = true then 0 else -1
theorem vAt_start (E : List Int) (s : Int) (hs : st7 s) : vAt (start17 E) s = if E.contains s = true then 0 else -1 := by
  have h0 := hs.1
  have h1 := hs.2
  have hc : s = 0 ∨ s = 1 ∨ s = 2 ∨ s = 3 ∨ s = 4 ∨ s = 5 ∨ s = 6 ∨ s = 7 := by omega
  rcases hc with rfl | rfl | rfl | rfl | rfl | rfl | rfl | rfl <;> rfl
theorem start_lv (L : List S32) (E : List Int) : Lv L E 0 [] (start17 E) := by
  have hv := vAt_start E
  refine ⟨by simp [start17, st8], ?_, ?_, ?_, ?_, ?_, fun x hx => by cases hx⟩
  · intro s hs; rw [hv s hs]; split <;> omega
  · intro s hs; rw [hv s hs]; split <;> omega
  · intro s hs
    rw [hv s hs]
    by_cases e : E.contains s = true
    · rw [if_pos e]; simpa using e
    · rw [if_neg e]
      constructor
      · intro h; omega
      · intro h; exact absurd (List.contains_iff_mem.2 h) e
  · intro s hs h; rw [hv s hs] at h; split at h <;> omega
  · intro x _; exact ⟨fun a b => absurd a (by omega), fun a b => absurd a (by omega)⟩
def stepsM (L : List S32) (E : List Int) : List Int := levels L 8 0 (start17 E)
theorem stepsM_dist {L : List S32} (E : List Int) (hL : ∀ x ∈ L, inSt x) : Dist L E (stepsM L E) := lv_dist hL (levels_ok hL 8 0 _ (by omega) (start_lv L E))

/-! Entrances: rising stations. -/
def riseI (lo hi : Int) (xs : List Int) : Nat → Nat → Bool
  | 0, _ => true
  | d + 1, i => decide (lo ≤ xs.getD i 0 ∧ xs.getD i 0 ≤ hi) && (!(decide (0 < i) && decide (xs.getD (i - 1) 0 ≥ xs.getD i 0)) && riseI lo hi xs d (i + 1))
theorem riseI_at {lo hi : Int} {xs : List Int} : ∀ (d i : Nat), i + d = xs.length → riseI lo hi xs d i = true → ∀ j, i ≤ j → j < xs.length → (lo ≤ xs.getD j 0 ∧ xs.getD j 0 ≤ hi) ∧ (0 < j → xs.getD (j - 1) 0 < xs.getD j 0)
  | 0, i, h, _, j, h1, h2 => by omega
  | d + 1, i, h, hr, j, h1, h2 => by
    unfold riseI at hr
    simp only [Bool.and_eq_true, Bool.not_eq_true', Bool.and_eq_false_iff, decide_eq_true_eq, decide_eq_false_iff_not] at hr
    obtain ⟨a, b, c⟩ := hr
    by_cases e : j = i
    · subst e
      exact ⟨a, fun h0 => by rcases b with b | b <;> omega⟩
    · exact riseI_at d (i + 1) (by omega) c j (by omega) h2
theorem riseI_lt {xs : List Int} (h : ∀ j, 0 < j → j < xs.length → xs.getD (j - 1) 0 < xs.getD j 0) : ∀ (d i : Nat), i + d + 1 < xs.length → xs.getD i 0 < xs.getD (i + d + 1) 0
  | 0, i, hi => h (i + 1) (by omega) hi
  | d + 1, i, hi => by
    have h1 := riseI_lt h d i (by omega)
    have h2 := h (i + (d + 1) + 1) (by omega) hi
    rw [show i + (d + 1) + 1 - 1 = i + d + 1 by omega] at h2
    omega
theorem riseI_ok {xs : List Int} (h : riseI 0 7 xs xs.length 0 = true) : (∀ s ∈ xs, st7 s) ∧ xs.Nodup := by
  have h1 := riseI_at xs.length 0 (by omega) h
  have hg : ∀ (i : Nat) (hi : i < xs.length), xs.getD i 0 = xs[i] := fun i hi => by rw [List.getD_eq_getElem?_getD, List.getElem?_eq_getElem hi]; rfl
  constructor
  · intro s hs
    obtain ⟨i, hi, e⟩ := List.getElem_of_mem hs
    have h2 := (h1 i (by omega) hi).1
    rw [hg i hi, e] at h2
    exact h2
  · refine List.pairwise_iff_getElem.2 fun i j hi hj hij => ?_
    have h2 := riseI_lt (fun j h0 hj => (h1 j (by omega) hj).2 h0) (j - i - 1) i (by omega)
    rw [show i + (j - i - 1) + 1 = j by omega, hg i hi, hg j hj] at h2
    omega
def askM (L : List S32) (E : List Int) : Bool := goodLegs L && riseI 0 7 E E.length 0
structure Ask (L : List S32) (E : List Int) : Prop where
  inn : ∀ x ∈ L, inSt x
  len : L.length ≤ 12
  st : ∀ s ∈ E, st7 s
  nd : E.Nodup
theorem ask_ok {L : List S32} {E : List Int} (h : askM L E = true) : Ask L E := by
  unfold askM at h
  rw [Bool.and_eq_true] at h
  exact ⟨goodLegs_in h.1, goodLegs_len h.1, (riseI_ok h.2).1, (riseI_ok h.2).2⟩
theorem Ask.elen {L : List S32} {E : List Int} (h : Ask L E) : E.length ≤ 8 := nodup_sub E st8 h.nd (fun x hx => (mem_st8 x).2 (h.st x hx))
theorem vExt {o p : List Int} (ho : o.length = 8) (hp : p.length = 8) (h : ∀ s, st7 s → vAt o s = vAt p s) : o = p := by
  apply List.ext_getElem (by rw [ho, hp])
  intro i h1 h2
  have h3 := h (i : Int) ⟨by omega, by omega⟩
  unfold vAt at h3
  rw [Int.toNat_natCast, List.getD_eq_getElem?_getD, List.getD_eq_getElem?_getD, List.getElem?_eq_getElem h1, List.getElem?_eq_getElem h2] at h3
  exact h3
def markE (o : List Int) (E : List Int) : List Int := E.foldl (fun o e => o.set e.toNat 0) o
theorem markE_len : ∀ (E o : List Int), (markE o E).length = o.length
  | [], _ => rfl
  | e :: E, o => by
    have h := markE_len E (o.set e.toNat 0)
    rw [List.length_set] at h
    exact h
theorem vAt_markE : ∀ (E o : List Int), o.length = 8 → (∀ s ∈ E, st7 s) → ∀ s, st7 s → vAt (markE o E) s = if E.contains s = true then 0 else vAt o s
  | [], o, _, _, s, _ => by simp [markE]
  | e :: E, o, ho, hE, s, hs => by
    have he := hE e List.mem_cons_self
    have h := vAt_markE E (o.set e.toNat 0) (by rw [List.length_set]; exact ho) (fun s hs => hE s (List.mem_cons_of_mem _ hs)) s hs
    have h0 := he.1
    have h7 := he.2
    rw [vAt_set s he.1 hs.1 (by omega)] at h
    refine Eq.trans h ?_
    rw [List.contains_cons]
    by_cases c : s = e
    · subst c; simp
    · rw [if_neg c, show (s == e) = false from by simpa using c, Bool.false_or]
theorem mark_start {E : List Int} (hE : ∀ s ∈ E, st7 s) : markE (List.replicate 8 (-1)) E = start17 E := by
  refine vExt (by rw [markE_len, List.length_replicate]) rfl fun s hs => ?_
  rw [vAt_markE E _ List.length_replicate hE s hs, vAt_start E s hs]
  have h : vAt (List.replicate 8 (-1)) s = -1 := by
    have h0 := hs.1
    have h1 := hs.2
    unfold vAt
    rw [List.getD_eq_getElem?_getD, List.getElem?_replicate, if_pos (by omega)]; rfl
  rw [h]
theorem low8 {L : List S32} {o : List Int} (hl : o.length = 8) (hb : ∀ s, st7 s → 0 < vAt o s → ∃ t, st7 t ∧ nb17 L s t ∧ vAt o t = vAt o s - 1) : ∀ s, st7 s → vAt o s < 8 := by
  intro s hs
  apply Classical.byContradiction
  intro hn
  have hall : ∀ k ∈ [0, 1, 2, 3, 4, 5, 6, 7, (8 : Int)], k ∈ o := by
    intro k hk
    have hk2 : 0 ≤ k ∧ k ≤ 8 := by simp only [List.mem_cons, List.not_mem_nil, or_false] at hk; omega
    obtain ⟨t, ht, e⟩ := back_all hb (vAt o s - k).toNat s hs k hk2.1 (by omega)
    rw [← e]
    exact vAt_mem hl ht
  have h9 := nodup_sub _ o (by decide) hall
  rw [hl] at h9
  simp at h9
theorem Dist.high {L : List S32} {E o : List Int} (h : Dist L E o) : ∀ s, st7 s → vAt o s < 8 := low8 h.len h.back
/-! The remotest station. -/
def bestI (o : List Int) : Nat → Nat → Nat → Nat
  | 0, _, b => b
  | d + 1, i, b => if o.getD i 0 > o.getD b 0 then bestI o d (i + 1) i else bestI o d (i + 1) b
theorem bestI_lt (o : List Int) : ∀ (d i b : Nat), i + d ≤ o.length → b < o.length → bestI o d i b < o.length
  | 0, _, _, _, hb => hb
  | d + 1, i, b, hi, hb => by
    unfold bestI
    split
    · exact bestI_lt o d (i + 1) i (by omega) (by omega)
    · exact bestI_lt o d (i + 1) b (by omega) hb
def farM (o : List Int) : Int × Int × Bool := ((bestI o 7 1 0 : Nat), o.getD (bestI o 7 1 0) 0, true)
def remM (L : List S32) (E : List Int) : Int × Int × Bool := if askM L E = true ∧ E.length ≠ 0 then farM (stepsM L E) else (0, 0, false)
def stepsT (L : List S32) (E : List Int) : List Int × Bool := if askM L E = true then (stepsM L E, true) else ([], false)
theorem ask_dist {L : List S32} {E : List Int} (h : askM L E = true) : Dist L E (stepsM L E) := stepsM_dist E (ask_ok h).inn

theorem sp_l1Rising_l0 (xs : List Int) (lo hi : Int) (hx : xs.length ≤ 4194304) : ∀ (d i : Nat), i + d = xs.length → Evn (fun k => spec_l1Rising.l0 k xs lo hi (i : Int)) (riseI lo hi xs d i) := by
  intro d
  induction d with
  | zero =>
    intro i h
    refine Evn.step ?_
    have h1 : ¬ (i : Int) < (xs.length : Int) := by omega
    simp only [spec_l1Rising.l0, if_neg h1, riseI]
    exact Evn.done _
  | succ d ih =>
    intro i h
    refine Evn.step ?_
    have h1 : (i : Int) < (xs.length : Int) := by omega
    have h2 : 0 ≤ (i : Int) := by omega
    simp only [spec_l1Rising.l0, if_pos h1, if_pos h2, sp_l1In, Option.bind_some, wrap_succ (show i < 4611686018427387904 by omega), rd, Int.toNat_natCast, riseI]
    refine Evn.ite (fun c => ?_) (fun c => (Evn.done _).eq_ (by rw [Bool.eq_false_iff.mpr c, Bool.false_and]))
    rw [c, Bool.true_and]
    match i, h1, h with
    | 0, _, h =>
      rw [show decide (0 < 0) = false from rfl, Bool.false_and, Bool.not_false, Bool.true_and]
      have h3 : ¬ ((0 : Nat) : Int) > 0 := by omega
      simp only [if_neg h3]
      exact ih 1 (by omega)
    | j + 1, h1, h =>
      have h3 : ((j + 1 : Nat) : Int) > 0 := by omega
      have h4 : 0 ≤ (j : Int) := by omega
      have h5 : (j : Int) < (xs.length : Int) := by omega
      rw [show decide (0 < j + 1) = true from decide_eq_true (by omega), Bool.true_and]
      simp only [if_pos h3, wrap_pred (show j < 4611686018427387904 by omega), if_pos h4, if_pos h5, Int.toNat_natCast, Nat.add_sub_cancel]
      refine Evn.ite (fun c2 => (Evn.done _).eq_ ?_) (fun c2 => (ih (j + 2) (by omega)).eq_ ?_)
      · rw [decide_eq_true c2]; rfl
      · rw [decide_eq_false c2]; rfl
theorem sp_l1Rising (xs : List Int) (lo hi : Int) (hx : xs.length ≤ 4194304) : Evn (fun k => spec_l1Rising.f k xs lo hi) (riseI lo hi xs xs.length 0) := by
  have h := sp_l1Rising_l0 xs lo hi hx xs.length 0 (by omega)
  simpa [spec_l1Rising.f] using h

theorem sp_l17Asked (L : List S32) (E : List Int) (hL : L.length ≤ 4194304) (hE : E.length ≤ 4194304) : Evn (fun k => spec_l17Asked.f k L E) (askM L E) := by
  unfold spec_l17Asked.f askM
  refine Evn.bind (sp_l4Legs L hL) ?_
  refine Evn.ite (fun c => ?_) (fun c => (Evn.done _).eq_ (by rw [Bool.eq_false_iff.mpr c, Bool.false_and]))
  rw [c, Bool.true_and]
  exact Evn.bind (sp_l1Rising E 0 7 hE) (Evn.done _)

theorem sp_l1Has_l0 (xs : List Int) (v : Int) (hx : xs.length ≤ 4194304) : ∀ (d i : Nat), i + d = xs.length → Evn (fun k => spec_l1Has.l0 k xs v (i : Int)) ((xs.drop i).contains v) := by
  intro d
  induction d with
  | zero =>
    intro i h
    refine Evn.step ?_
    have h1 : ¬ (i : Int) < (xs.length : Int) := by omega
    simp only [spec_l1Has.l0, if_neg h1]
    rw [List.drop_eq_nil_of_le (by omega)]
    exact Evn.done _
  | succ d ih =>
    intro i h
    refine Evn.step ?_
    have h1 : (i : Int) < (xs.length : Int) := by omega
    have h2 : 0 ≤ (i : Int) := by omega
    simp only [spec_l1Has.l0, if_pos h1, if_pos h2, rd, Int.toNat_natCast, wrap_succ (show i < 4611686018427387904 by omega)]
    rw [getD_drop xs i 0 (by omega)]
    refine Evn.ite (fun c => (Evn.done _).eq_ ?_) (fun c => (ih (i + 1) (by omega)).eq_ ?_)
    · rw [List.contains_cons, c]; simp
    · rw [List.contains_cons, show (v == xs.getD i 0) = false from by simpa using fun h => c h.symm]; simp
theorem sp_l1Has (xs : List Int) (v : Int) (hx : xs.length ≤ 4194304) : Evn (fun k => spec_l1Has.f k xs v) (xs.contains v) := by
  have h := sp_l1Has_l0 xs v hx xs.length 0 (by omega)
  simpa [spec_l1Has.f] using h

theorem start_drop (E : List Int) (s : Nat) (h : s < 8) : (start17 E).drop s = (if E.contains (s : Int) = true then 0 else -1) :: (start17 E).drop (s + 1) := by
  match s, h with
  | 0, _ => rfl
  | 1, _ => rfl
  | 2, _ => rfl
  | 3, _ => rfl
  | 4, _ => rfl
  | 5, _ => rfl
  | 6, _ => rfl
  | 7, _ => rfl
theorem sp_steps_l0 (L : List S32) (E : List Int) (hE : E.length ≤ 4096) (R : List Int) : ∀ (d s : Nat) (o : List Int), s + d = 8 → o.length = s → Evn (fun k => spec_l17Steps.l1 k L (o ++ (start17 E).drop s) 0) R → Evn (fun k => spec_l17Steps.l0 k L E o (s : Int)) R := by
  intro d
  induction d with
  | zero =>
    intro s o h _ h0
    refine Evn.step ?_
    have h1 : ¬ (s : Int) < 8 := by omega
    simp only [spec_l17Steps.l0, if_neg h1]
    rw [List.drop_eq_nil_of_le (by show 8 ≤ s; omega), List.append_nil] at h0
    exact h0
  | succ d ih =>
    intro s o h ho h0
    refine Evn.step ?_
    have h1 : (s : Int) < 8 := by omega
    have h2 : o.length < 17592186044416 := by omega
    rw [start_drop E s (by omega)] at h0
    simp only [spec_l17Steps.l0, if_pos h1, if_pos h2, wrap_succ (show s < 4611686018427387904 by omega)]
    refine Evn.bind (sp_l1Has E (s : Int) (by omega)) ?_
    refine Evn.ite (fun c => ih (s + 1) _ (by omega) (by rw [List.length_append, List.length_singleton]; omega) ?_) (fun c => ih (s + 1) _ (by omega) (by rw [List.length_append, List.length_singleton]; omega) ?_)
    · rw [if_pos c] at h0; rw [List.append_assoc]; exact h0
    · rw [if_neg c] at h0; rw [List.append_assoc]; exact h0
theorem relax1_len (n : Int) (o : List Int) (a b : Int) : (relax1 n o a b).length = o.length := by
  unfold relax1
  split
  · split
    · rw [List.length_set]
    · rfl
  · rfl
theorem relax_len (n : Int) (o : List Int) (x : S32) : (relax n o x).length = o.length := by
  unfold relax; rw [relax1_len, relax1_len]
theorem sp_steps_j3 (L : List S32) (n i : Nat) (hn : n < 8) (hi : i ≤ 4096) (o : List Int) (ho : o.length = 8) (a b : Int) (ha : st7 a) (hb : st7 b) (q : Bool) (R : List Int)
    (h0 : Evn (fun k => spec_l17Steps.l2 k L (relax1 (n : Int) (if q = true then o.set b.toNat ((n : Int) + 1) else o) b a) (n : Int) ((i + 1 : Nat) : Int)) R) : Evn (fun k => spec_l17Steps.j3 k L o (n : Int) (i : Int) a b q) R := by
  refine Evn.step ?_
  have a0 := ha.1
  have b0 := hb.1
  have a8 : a < (o.length : Int) := by have := ha.2; omega
  have b8 : b < (o.length : Int) := by have := hb.2; omega
  have hw : wrap64 ((n : Int) + 1) = (n : Int) + 1 := wrap_id (by omega) (by omega)
  cases q with
  | true =>
    rw [if_pos rfl] at h0
    simp only [spec_l17Steps.j3, if_true, if_pos a0, if_pos b0, if_pos a8, if_pos b8, hw, Option.bind_some, wrap_succ (show i < 4611686018427387904 by omega)]
    unfold relax1 at h0
    refine Evn.ite (fun c => Evn.ite (fun c2 => ?_) (fun c2 => ?_)) (fun c => ?_)
    · rw [if_pos (show vAt _ b = (n : Int) from c), if_pos (show vAt _ a < 0 from c2)] at h0; exact h0
    · rw [if_pos (show vAt _ b = (n : Int) from c), if_neg (show ¬ vAt _ a < 0 from c2)] at h0; exact h0
    · rw [if_neg (show ¬ vAt _ b = (n : Int) from c)] at h0; exact h0
  | false =>
    rw [if_neg (by decide)] at h0
    simp only [spec_l17Steps.j3, Bool.false_eq_true, if_false, if_pos a0, if_pos b0, if_pos a8, if_pos b8, hw, wrap_succ (show i < 4611686018427387904 by omega)]
    unfold relax1 at h0
    refine Evn.ite (fun c => Evn.ite (fun c2 => ?_) (fun c2 => ?_)) (fun c => ?_)
    · rw [if_pos (show vAt _ b = (n : Int) from c), if_pos (show vAt _ a < 0 from c2)] at h0; exact h0
    · rw [if_pos (show vAt _ b = (n : Int) from c), if_neg (show ¬ vAt _ a < 0 from c2)] at h0; exact h0
    · rw [if_neg (show ¬ vAt _ b = (n : Int) from c)] at h0; exact h0
theorem sp_steps_l2 {L : List S32} (hL : ∀ x ∈ L, inSt x) (hl : L.length ≤ 4096) (n : Nat) (hn : n < 8) (R : List Int) : ∀ (d i : Nat) (o : List Int), i + d = L.length → o.length = 8 →
    Evn (fun k => spec_l17Steps.l1 k L ((L.drop i).foldl (relax (n : Int)) o) ((n + 1 : Nat) : Int)) R → Evn (fun k => spec_l17Steps.l2 k L o (n : Int) (i : Int)) R := by
  intro d
  induction d with
  | zero =>
    intro i o h _ h0
    refine Evn.step ?_
    have h1 : ¬ (i : Int) < (L.length : Int) := by omega
    simp only [spec_l17Steps.l2, if_neg h1, wrap_succ (show n < 4611686018427387904 by omega)]
    rw [List.drop_eq_nil_of_le (by omega)] at h0
    exact h0
  | succ d ih =>
    intro i o h ho h0
    refine Evn.step ?_
    have h1 : (i : Int) < (L.length : Int) := by omega
    have h2 : 0 ≤ (i : Int) := by omega
    have hx : L.getD i z32 ∈ L := by rw [List.getD_eq_getElem?_getD, List.getElem?_eq_getElem (show i < L.length by omega)]; exact List.getElem_mem _
    have hin := hL _ hx
    have hrd : rd_T32 L (i : Int) = L.getD i z32 := by unfold rd_T32; rw [Int.toNat_natCast]
    rw [getD_drop L i z32 (by omega), List.foldl_cons, ← hrd] at h0
    rw [← hrd] at hin
    clear hrd
    have hwi := wrap_succ (show i < 4611686018427387904 by omega)
    have a0 := hin.1.1
    have b0 := hin.2.1
    have a8 : (rd_T32 L (i : Int)).f0 < (o.length : Int) := by have := hin.1.2; omega
    have b8 : (rd_T32 L (i : Int)).f1 < (o.length : Int) := by have := hin.2.2; omega
    simp only [spec_l17Steps.l2, if_pos h1, if_pos h2, if_pos a0, if_pos b0, if_pos a8, if_pos b8]
    have h3 := ih (i + 1) (relax (n : Int) o (rd_T32 L (i : Int))) (by omega) (by rw [relax_len]; exact ho) h0
    unfold relax at h3
    refine Evn.ite (fun c => ?_) (fun c => ?_)
    · refine sp_steps_j3 L n i hn (by omega) o ho (rd_T32 L (i : Int)).f0 (rd_T32 L (i : Int)).f1 hin.1 hin.2 _ R ?_
      have e : relax1 (n : Int) o (rd_T32 L (i : Int)).f0 (rd_T32 L (i : Int)).f1 = if decide (rd o (rd_T32 L (i : Int)).f1 < 0) = true then o.set (rd_T32 L (i : Int)).f1.toNat ((n : Int) + 1) else o := by
        unfold relax1
        rw [if_pos (show vAt o (rd_T32 L (i : Int)).f0 = (n : Int) from c)]
        by_cases c2 : vAt o (rd_T32 L (i : Int)).f1 < 0
        · rw [if_pos c2, if_pos (decide_eq_true (show rd o (rd_T32 L (i : Int)).f1 < 0 from c2))]
        · rw [if_neg c2, if_neg (fun h : decide (rd o (rd_T32 L (i : Int)).f1 < 0) = true => c2 (of_decide_eq_true h))]
      rw [e] at h3
      exact h3
    · refine sp_steps_j3 L n i hn (by omega) o ho (rd_T32 L (i : Int)).f0 (rd_T32 L (i : Int)).f1 hin.1 hin.2 _ R ?_
      have e : relax1 (n : Int) o (rd_T32 L (i : Int)).f0 (rd_T32 L (i : Int)).f1 = o := by
        unfold relax1
        rw [if_neg (show ¬ vAt o (rd_T32 L (i : Int)).f0 = (n : Int) from c)]
      rw [e] at h3
      rw [if_neg (by decide)]
      exact h3
theorem levels_len (L : List S32) (n : Int) : ∀ (T : List S32) (o : List Int), (T.foldl (relax n) o).length = o.length
  | [], _ => rfl
  | x :: T, o => by rw [List.foldl_cons, levels_len L n T, relax_len]
theorem sp_steps_l1 {L : List S32} (hL : ∀ x ∈ L, inSt x) (hl : L.length ≤ 4096) : ∀ (d n : Nat) (o : List Int), n + d = 8 → o.length = 8 → Evn (fun k => spec_l17Steps.l1 k L o (n : Int)) (levels L d (n : Int) o) := by
  intro d
  induction d with
  | zero =>
    intro n o h _
    refine Evn.step ?_
    have h1 : ¬ (n : Int) < 8 := by omega
    simp only [spec_l17Steps.l1, if_neg h1, levels]
    exact Evn.done _
  | succ d ih =>
    intro n o h ho
    refine Evn.step ?_
    have h1 : (n : Int) < 8 := by omega
    simp only [spec_l17Steps.l1, if_pos h1, levels]
    refine sp_steps_l2 hL hl n (by omega) _ L.length 0 o (by omega) ho ?_
    rw [List.drop_zero]
    exact ih (n + 1) _ (by omega) (by rw [levels_len L]; exact ho)
theorem sp_l17Steps (L : List S32) (E : List Int) (hA : Ask L E) : Evn (fun k => spec_l17Steps.f k L E) (stepsM L E) := by
  have h8 := hA.elen
  have hl := hA.len
  unfold spec_l17Steps.f
  refine sp_steps_l0 L E (by omega) _ 8 0 [] (by omega) rfl ?_
  rw [List.drop_zero, List.nil_append]
  exact sp_steps_l1 hA.inn (by omega) 8 0 _ rfl rfl

theorem sp_StepsFrom (L : List S32) (E : List Int) (hL : L.length ≤ 4194304) (hE : E.length ≤ 4194304) : Evn (fun k => spec_StepsFrom.f k L E) (stepsT L E) := by
  unfold spec_StepsFrom.f stepsT
  refine Evn.bind (sp_l17Asked L E hL hE) ?_
  refine Evn.ite (fun c => ?_) (fun c => ?_)
  · rw [if_pos c]; exact Evn.bind (sp_l17Steps L E (ask_ok c)) (Evn.done _)
  · rw [if_neg c]; exact Evn.done _

theorem sp_Rem_l0 (o : List Int) (ho : o.length = 8) : ∀ (d i b : Nat), i + d = 8 → b < 8 → Evn (fun k => spec_RemotestStation.l0 k o (b : Int) (i : Int)) ((bestI o d i b : Nat), o.getD (bestI o d i b) 0, true) := by
  intro d
  induction d with
  | zero =>
    intro i b h hb
    refine Evn.step ?_
    have h1 : ¬ (i : Int) < (o.length : Int) := by omega
    have h2 : 0 ≤ (b : Int) := by omega
    have h3 : (b : Int) < (o.length : Int) := by omega
    simp only [spec_RemotestStation.l0, if_neg h1, if_pos h2, if_pos h3, bestI, rd, Int.toNat_natCast]
    exact Evn.done _
  | succ d ih =>
    intro i b h hb
    refine Evn.step ?_
    have h1 : (i : Int) < (o.length : Int) := by omega
    have h2 : 0 ≤ (i : Int) := by omega
    have h3 : 0 ≤ (b : Int) := by omega
    have h4 : (b : Int) < (o.length : Int) := by omega
    simp only [spec_RemotestStation.l0, if_pos h1, if_pos h2, if_pos h3, if_pos h4, rd, Int.toNat_natCast, wrap_succ (show i < 4611686018427387904 by omega), bestI]
    refine Evn.ite (fun c => ?_) (fun c => ?_)
    · simp only [if_pos c]; exact ih (i + 1) i (by omega) (by omega)
    · simp only [if_neg c]; exact ih (i + 1) b (by omega) hb
theorem sp_RemotestStation (L : List S32) (E : List Int) (hL : L.length ≤ 4194304) (hE : E.length ≤ 4194304) : Evn (fun k => spec_RemotestStation.f k L E) (remM L E) := by
  unfold spec_RemotestStation.f remM
  refine Evn.bind (sp_l17Asked L E hL hE) ?_
  refine Evn.ite (fun c => ?_) (fun c => ?_)
  · refine Evn.step ?_
    simp only [spec_RemotestStation.j0]
    refine Evn.ite (fun c2 => ?_) (fun c2 => ?_)
    · have c3 : ¬ (askM L E = true ∧ E.length ≠ 0) := fun h => h.2 (by have := eq_of_beq c2; omega)
      rw [if_neg c3]; exact Evn.done _
    · have c3 : askM L E = true ∧ E.length ≠ 0 := ⟨c, fun h => c2 (by rw [h]; rfl)⟩
      rw [if_pos c3]
      refine Evn.bind (sp_l17Steps L E (ask_ok c)) ?_
      exact sp_Rem_l0 _ (ask_dist c).len 7 1 0 (by omega) (by omega)
  · rw [if_neg (fun h => c h.1)]
    refine Evn.step ?_
    simp only [spec_RemotestStation.j0, if_true]
    exact Evn.done _

theorem take_getD17 (l : List Int) (i : Nat) (h : i < l.length) : l.take (i + 1) = l.take i ++ [l.getD i 0] := by
  rw [List.take_add_one, List.getD_eq_getElem?_getD, List.getElem?_eq_getElem h]; rfl
theorem sp_l1Put_l0 (l : List Int) (n : Int) (hl : l.length ≤ 4096) : ∀ (d i : Nat), i + d = l.length → Evn (fun k => spec_l1Put.l0 k l n (i : Int)) (l.take i ++ putM (l.drop i) n) := by
  intro d
  induction d with
  | zero =>
    intro i h
    refine Evn.step ?_
    have h1 : ¬ (i : Int) < (l.length : Int) := by omega
    have h2 : 0 ≤ (i : Int) := by omega
    have h3 : (i : Int) ≤ (l.length : Int) := by omega
    have h4 : (l.take i).length ≤ 4096 := by rw [List.length_take]; omega
    have h5 : (l.drop i).length ≤ 4096 := by rw [List.length_drop]; omega
    have g1 : (l.take i).length < 17592186044416 := by omega
    have g2 : (l.take i).length + ([n] : List Int).length < 17592186044416 := by simp only [List.length_cons, List.length_nil]; omega
    have g3 : (l.take i ++ [n]).length + (l.drop i).length < 17592186044416 := by simp only [List.length_append, List.length_cons, List.length_nil]; omega
    simp only [spec_l1Put.l0, if_neg h1, if_pos h2, if_pos h3, Int.toNat_natCast, Option.bind_some, List.nil_append, List.length_nil, Nat.zero_add, if_pos g1, if_pos g2, if_pos g3]
    refine (Evn.done _).eq_ ?_
    rw [List.drop_eq_nil_of_le (by omega), List.append_nil]; rfl
  | succ d ih =>
    intro i h
    refine Evn.step ?_
    have h1 : (i : Int) < (l.length : Int) := by omega
    have h2 : 0 ≤ (i : Int) := by omega
    have h3 : (i : Int) ≤ (l.length : Int) := by omega
    have h4 : (l.take i).length ≤ 4096 := by rw [List.length_take]; omega
    have h5 : (l.drop i).length ≤ 4096 := by rw [List.length_drop]; omega
    have g1 : (l.take i).length < 17592186044416 := by omega
    have g2 : (l.take i).length + ([n] : List Int).length < 17592186044416 := by simp only [List.length_cons, List.length_nil]; omega
    have g3 : (l.take i ++ [n]).length + (l.drop i).length < 17592186044416 := by simp only [List.length_append, List.length_cons, List.length_nil]; omega
    simp only [spec_l1Put.l0, spec_xSame.f, if_pos h1, if_pos h2, if_pos h3, rd, Int.toNat_natCast, Option.bind_some, List.nil_append, List.length_nil, Nat.zero_add, if_pos g1, if_pos g2, if_pos g3, wrap_succ (show i < 4611686018427387904 by omega)]
    have hd := getD_drop l i 0 (by omega)
    refine Evn.ite (fun c => (ih (i + 1) (by omega)).eq_ ?_) (fun c => Evn.ite (fun c2 => (Evn.done _).eq_ ?_) (fun c2 => (Evn.done _).eq_ ?_))
    · rw [hd, putM, if_pos c, take_getD17 l i (by omega), List.append_assoc]; rfl
    · rw [hd, putM, if_neg c, if_pos c2, ← hd, List.take_append_drop]
    · rw [hd, putM, if_neg c, if_neg c2, List.append_assoc]; rfl
theorem sp_l1Put (l : List Int) (n : Int) (hl : l.length ≤ 4096) : Evn (fun k => spec_l1Put.f k l n) (putM l n) := by
  have h := sp_l1Put_l0 l n hl l.length 0 (by omega)
  simpa [spec_l1Put.f] using h

theorem sp_l17_step {L T : List S32} {w a : Int} {x : S32} {i : Nat} {o : List Int} {ag : Bool} {R : List Int} (hL : ∀ x ∈ L, inSt x) (ha : 0 ≤ a ∧ a ≤ 7) (hi : i < 4096) (hx : x ∈ L) (hok : PutOk (restM L w) a o)
    (ih : ∀ (o' : List Int) (ag' : Bool), PutOk (restM L w) a o' → Evn (fun k => spec_l17Cave.l0 k L w (T.foldl (stepP w) (o', ag')).1 (T.foldl (stepP w) (o', ag')).2) R → Evn (fun k => spec_l17Cave.l1 k L w o' ag' ((i + 1 : Nat) : Int)) R)
    (h0 : Evn (fun k => spec_l17Cave.l0 k L w (T.foldl (stepP w) (stepP w (o, ag) x)).1 (T.foldl (stepP w) (stepP w (o, ag) x)).2) R) :
    Evn (fun k => if x.f0 = w then spec_l17Cave.j2 k L w o ag (i : Int) x.f0 x.f1 true else if x.f1 = w then spec_l17Cave.j2 k L w o ag (i : Int) x.f0 x.f1 true else (spec_l1Has.f k o x.f0).bind fun t => (spec_l1Has.f k o x.f1).bind fun t' => spec_l17Cave.j2 k L w o ag (i : Int) x.f0 x.f1 (t == t')) R := by
  have hlo := putOk_len (restM_in hL w) ha hok
  have hk := (stepP_ok (a := a) (w := w) (st := (o, ag)) hx hok).1
  refine Evn.ite (fun c => ?_) (fun c => Evn.ite (fun c2 => ?_) (fun c2 => ?_))
  · refine Evn.step ?_
    simp only [spec_l17Cave.j2, if_true, wrap_succ (show i < 4611686018427387904 by omega)]
    have e : stepP w (o, ag) x = (o, ag) := by unfold stepP; rw [if_pos c]
    rw [e] at h0
    exact ih o ag hok h0
  · refine Evn.step ?_
    simp only [spec_l17Cave.j2, if_true, wrap_succ (show i < 4611686018427387904 by omega)]
    have e : stepP w (o, ag) x = (o, ag) := by unfold stepP; rw [if_neg c, if_pos c2]
    rw [e] at h0
    exact ih o ag hok h0
  · refine Evn.bind (sp_l1Has o x.f0 (by omega)) (Evn.bind (sp_l1Has o x.f1 (by omega)) ?_)
    refine Evn.step ?_
    simp only [spec_l17Cave.j2, wrap_succ (show i < 4611686018427387904 by omega), beq_iff_eq]
    refine Evn.ite (fun c3 => ?_) (fun c3 => ?_)
    · have e : stepP w (o, ag) x = (o, ag) := by unfold stepP; rw [if_neg c, if_neg c2, if_pos c3]
      rw [e] at h0
      exact ih o ag hok h0
    · have e : stepP w (o, ag) x = (putM (putM o x.f0) x.f1, true) := by unfold stepP; rw [if_neg c, if_neg c2, if_neg c3]
      rw [e] at h0 hk
      have hl1 : (putM o x.f0).length ≤ 4096 := Nat.le_trans (putM_len o x.f0) (by omega)
      exact Evn.bind (sp_l1Put o x.f0 (by omega)) (Evn.bind (sp_l1Put (putM o x.f0) x.f1 hl1) (ih _ true hk h0))
theorem sp_l17_l1 {L : List S32} {w a : Int} (hL : ∀ x ∈ L, inSt x) (ha : 0 ≤ a ∧ a ≤ 7) (hn : L.length ≤ 4096) (R : List Int) : ∀ (d i : Nat) (o : List Int) (ag : Bool), i + d = L.length → PutOk (restM L w) a o →
    Evn (fun k => spec_l17Cave.l0 k L w ((L.drop i).foldl (stepP w) (o, ag)).1 ((L.drop i).foldl (stepP w) (o, ag)).2) R → Evn (fun k => spec_l17Cave.l1 k L w o ag (i : Int)) R := by
  intro d
  induction d with
  | zero =>
    intro i o ag h _ h0
    refine Evn.step ?_
    have h1 : ¬ (i : Int) < (L.length : Int) := by omega
    simp only [spec_l17Cave.l1, if_neg h1]
    rw [List.drop_eq_nil_of_le (by omega)] at h0
    exact h0
  | succ d ih =>
    intro i o ag h hok h0
    refine Evn.step ?_
    have h1 : (i : Int) < (L.length : Int) := by omega
    have h2 : 0 ≤ (i : Int) := by omega
    have hx : L.getD i z32 ∈ L := by rw [List.getD_eq_getElem?_getD, List.getElem?_eq_getElem (show i < L.length by omega)]; exact List.getElem_mem _
    rw [getD_drop L i z32 (by omega)] at h0
    simp only [spec_l17Cave.l1, if_pos h1, if_pos h2, rd_T32, Int.toNat_natCast]
    simp only [List.foldl_cons] at h0
    exact sp_l17_step hL ha (by omega) hx hok (fun o' ag' hok' h' => ih (i + 1) o' ag' (by omega) hok' h') h0
theorem sp_l17_l0 {L : List S32} {w a : Int} (hL : ∀ x ∈ L, inSt x) (ha : 0 ≤ a ∧ a ≤ 7) (hn : L.length ≤ 4096) : ∀ (m : Nat) (o : List Int), (restM L w).length ≤ cntP (restM L w) o + m → PutOk (restM L w) a o →
    Evn (fun k => spec_l17Cave.l0 k L w o true) (caveM (restM L w) a) := by
  intro m
  induction m with
  | zero =>
    intro o h hok
    refine Evn.step ?_
    simp only [spec_l17Cave.l0, if_true]
    refine sp_l17_l1 hL ha hn _ L.length 0 o false (by omega) hok ?_
    rw [List.drop_zero]
    have hr := roundP_ok (w := w) (a := a) L (o, false) (fun _ h => h) hok
    cases e : (L.foldl (stepP w) (o, false)).2
    · obtain ⟨e1, e2⟩ := hr.2.2.2 e
      rw [e1]
      refine Evn.step ?_
      simp only [spec_l17Cave.l0, Bool.false_eq_true, if_false]
      exact (Evn.done _).eq_ (roundP_done hL ha hok e2)
    · rcases hr.2.2.1 e with h2 | h2
      · cases h2
      · have h3 := cntP_le (restM L w) (L.foldl (stepP w) (o, false)).1
        have h4 : cntP (restM L w) (o, false).1 = cntP (restM L w) o := rfl
        omega
  | succ m ih =>
    intro o h hok
    refine Evn.step ?_
    simp only [spec_l17Cave.l0, if_true]
    refine sp_l17_l1 hL ha hn _ L.length 0 o false (by omega) hok ?_
    rw [List.drop_zero]
    have hr := roundP_ok (w := w) (a := a) L (o, false) (fun _ h => h) hok
    cases e : (L.foldl (stepP w) (o, false)).2
    · obtain ⟨e1, e2⟩ := hr.2.2.2 e
      rw [e1]
      refine Evn.step ?_
      simp only [spec_l17Cave.l0, Bool.false_eq_true, if_false]
      exact (Evn.done _).eq_ (roundP_done hL ha hok e2)
    · rcases hr.2.2.1 e with h2 | h2
      · cases h2
      · have h4 : cntP (restM L w) (o, false).1 = cntP (restM L w) o := rfl
        exact ih _ (by omega) hr.1
theorem sp_l17Cave {L : List S32} (w a : Int) (hL : ∀ x ∈ L, inSt x) (ha : 0 ≤ a ∧ a ≤ 7) (hn : L.length ≤ 4096) : Evn (fun k => spec_l17Cave.f k L a w) (caveM (restM L w) a) := by
  unfold spec_l17Cave.f
  exact sp_l17_l0 hL ha hn _ [a] (Nat.le_add_left _ _) (startP_ok _ a)

def cutTs (L : List S32) : List Int × Bool := if goodLegs L = true then (cutsS L, true) else ([], false)
theorem sp_Cut_l0 {L : List S32} (hL : ∀ x ∈ L, inSt x) (hn : L.length ≤ 4096) : ∀ (d s : Nat) (out : List Int), s + d = 8 → out.length ≤ s →
    Evn (fun k => spec_CutStations.l0 k L out (s : Int)) (out ++ (st8.drop s).filter (cutS L), true) := by
  intro d
  induction d with
  | zero =>
    intro s out h _
    refine Evn.step ?_
    have h1 : ¬ (s : Int) < 8 := by omega
    simp only [spec_CutStations.l0, if_neg h1]
    refine (Evn.done _).eq_ ?_
    rw [show s = 8 by omega]
    simp [st8]
  | succ d ih =>
    intro s out h ho
    refine Evn.step ?_
    have h1 : (s : Int) < 8 := by omega
    have hs : 0 ≤ (s : Int) ∧ (s : Int) ≤ 7 := by omega
    have hC := sp_l17Cave (-1) (s : Int) hL hs hn
    rw [restM_none hL] at hC
    simp only [spec_CutStations.l0, if_pos h1, wrap_succ (show s < 4611686018427387904 by omega)]
    refine Evn.bind hC ?_
    have hin : ∀ b ∈ caveM L s, 0 ≤ b ∧ b ≤ 7 := fun b hb => conn_in hL hs ((mem_caveM hL hs b).1 hb)
    have hlen := caveM_len L (s : Int)
    have hg : out.length < 17592186044416 := by omega
    have hst := st8_drop s (by omega)
    have hno : cutS L s = false → Evn (fun k => spec_CutStations.l0 k L out ((s + 1 : Nat) : Int)) (out ++ (st8.drop s).filter (cutS L), true) := fun hc =>
      (ih (s + 1) out (by omega) (by omega)).eq_ (by rw [hst, List.filter_cons, hc]; simp)
    have hyes : cutS L s = true → Evn (fun k => spec_CutStations.l0 k L (out ++ [(s : Int)]) ((s + 1 : Nat) : Int)) (out ++ (st8.drop s).filter (cutS L), true) := fun hc =>
      (ih (s + 1) (out ++ [(s : Int)]) (by omega) (by simp; omega)).eq_ (by rw [hst, List.filter_cons, hc]; simp)
    have hcut : cutS L s = if (caveM L s).length < 3 then false else decide ((caveM (restM L s) (firstM (caveM L s) s)).length < (caveM L s).length - 1) := rfl
    refine Evn.ite (fun c => hno (by rw [hcut, if_pos (by omega)])) (fun c => ?_)
    rw [if_neg (by omega)] at hcut
    have hw : wrap64 (((caveM L (s : Int)).length : Int) - 1) = ((caveM L (s : Int)).length : Int) - 1 := wrap_id (by omega) (by omega)
    have hl2 : ∀ t : List Int, ((t.length : Int) < ((caveM L (s : Int)).length : Int) - 1) ↔ t.length < (caveM L (s : Int)).length - 1 := fun t => by omega
    simp only [if_pos (show (0 : Int) < ((caveM L (s : Int)).length : Int) by omega), if_pos (show (1 : Int) < ((caveM L (s : Int)).length : Int) by omega), hw, if_pos hg, rd]
    refine Evn.ite (fun c2 => ?_) (fun c2 => ?_)
    · have hf : firstM (caveM L s) s = (caveM L s).getD (1 : Int).toNat 0 := by have c2' : (caveM L (s : Int)).getD 0 0 = (s : Int) := c2; unfold firstM; rw [if_pos c2']; rfl
      rw [hf] at hcut
      refine Evn.bind (sp_l17Cave (s : Int) _ hL (hin _ (getD_mem17 _ _ (by show 1 < _; omega))) hn) ?_
      exact Evn.ite (fun c3 => hyes (by rw [hcut]; exact decide_eq_true ((hl2 _).1 c3))) (fun c3 => hno (by rw [hcut]; exact decide_eq_false (fun h => c3 ((hl2 _).2 h))))
    · have hf : firstM (caveM L s) s = (caveM L s).getD (0 : Int).toNat 0 := by have c2' : ¬ (caveM L (s : Int)).getD 0 0 = (s : Int) := c2; unfold firstM; rw [if_neg c2']; rfl
      rw [hf] at hcut
      refine Evn.bind (sp_l17Cave (s : Int) _ hL (hin _ (getD_mem17 _ _ (by show 0 < _; omega))) hn) ?_
      exact Evn.ite (fun c3 => hyes (by rw [hcut]; exact decide_eq_true ((hl2 _).1 c3))) (fun c3 => hno (by rw [hcut]; exact decide_eq_false (fun h => c3 ((hl2 _).2 h))))
theorem sp_CutStations (L : List S32) (hx : L.length ≤ 4194304) : Evn (fun k => spec_CutStations.f k L) (cutTs L) := by
  simp only [spec_CutStations.f, Option.bind_some]
  refine Evn.bind (sp_l4Legs L hx) ?_
  unfold cutTs
  refine Evn.ite (fun c => ?_) (fun c => ?_)
  · rw [if_pos c]
    have h := sp_Cut_l0 (goodLegs_in c) (by have := goodLegs_len c; omega) 8 0 [] (by omega) (by simp)
    simpa [cutsS] using h
  · rw [if_neg c]
    exact Evn.done _

theorem sp_Used_l0 (L : List S32) (s : Int) (hl : L.length ≤ 4096) : ∀ (d i : Nat), i + d = L.length → Evn (fun k => spec_l17Used.l0 k L s (i : Int)) (!noLeg (L.drop i) s) := by
  intro d
  induction d with
  | zero =>
    intro i h
    refine Evn.step ?_
    have h1 : ¬ (i : Int) < (L.length : Int) := by omega
    simp only [spec_l17Used.l0, if_neg h1]
    rw [List.drop_eq_nil_of_le (by omega)]
    exact Evn.done _
  | succ d ih =>
    intro i h
    refine Evn.step ?_
    have h1 : (i : Int) < (L.length : Int) := by omega
    have h2 : 0 ≤ (i : Int) := by omega
    rw [getD_drop L i z32 (by omega)]
    have e : noLeg (L.getD i z32 :: L.drop (i + 1)) s = (notAt s (L.getD i z32) && noLeg (L.drop (i + 1)) s) := List.all_cons
    rw [e]
    simp only [spec_l17Used.l0, if_pos h1, if_pos h2, rd_T32, Int.toNat_natCast, wrap_succ (show i < 4611686018427387904 by omega)]
    refine Evn.ite (fun c => (Evn.done _).eq_ ?_) (fun c => Evn.ite (fun c2 => (Evn.done _).eq_ ?_) (fun c2 => (ih (i + 1) (by omega)).eq_ ?_))
    · simp only [notAt, c]; simp
    · simp only [notAt, c2]; simp
    · simp only [notAt, c, c2]; simp
theorem sp_l17Used (L : List S32) (s : Int) (hl : L.length ≤ 4096) : Evn (fun k => spec_l17Used.f k L s) (!noLeg L s) := by
  have h := sp_Used_l0 L s hl L.length 0 (by omega)
  simpa [spec_l17Used.f] using h

/-! The caves in the reference's order are those of the program. -/
def headIs (L : List S32) (s : Int) : Bool := !noLeg L s && decide ((caveM L s).getD 0 0 = s)
def cavesS (L : List S32) : List (List Int) := (st8.filter (headIs L)).map (caveM L)
theorem head_min {L : List S32} (hL : ∀ x ∈ L, inSt x) {s : Int} (hs : 0 ≤ s ∧ s ≤ 7) : (caveM L s).getD 0 0 ∈ caveM L s ∧ ∀ b ∈ caveM L s, (caveM L s).getD 0 0 ≤ b := by
  have hm : s ∈ caveM L s := (mem_caveM hL hs s).2 Conn.refl
  have hr := rising_caveM L s
  generalize caveM L s = C at hm hr
  match C, hm, hr with
  | x :: C, _, hr =>
    have h := List.pairwise_cons.1 hr
    refine ⟨by simp, fun b hb => ?_⟩
    rcases List.mem_cons.1 hb with rfl | hb
    · simp
    · have := h.1 b hb; simp only [List.getD_cons_zero]; omega
theorem headIs_iff {L : List S32} (hL : ∀ x ∈ L, inSt x) {s : Int} (hs : 0 ≤ s ∧ s ≤ 7) : headIs L s = true ↔ noLeg L s = false ∧ ∀ b, Conn L s b → s ≤ b := by
  have hh := head_min hL hs
  have hm : s ∈ caveM L s := (mem_caveM hL hs s).2 Conn.refl
  simp only [headIs, Bool.and_eq_true, Bool.not_eq_true', decide_eq_true_eq]
  constructor
  · rintro ⟨h1, h2⟩
    exact ⟨h1, fun b hb => by have := hh.2 b ((mem_caveM hL hs b).2 hb); omega⟩
  · rintro ⟨h1, h2⟩
    refine ⟨h1, ?_⟩
    have h3 := hh.2 s hm
    have h4 := h2 _ ((mem_caveM hL hs _).1 hh.1)
    omega
theorem caves_fold {L : List S32} (hL : ∀ x ∈ L, inSt x) : ∀ (ss done : List Int) (all : List (List Int)), (∀ s ∈ ss, 0 ≤ s ∧ s ≤ 7) → (∀ s ∈ done, 0 ≤ s ∧ s ≤ 7) → (∀ s ∈ ss, ∀ t, 0 ≤ t → t < s → t ∈ done ∨ t ∈ ss) → (done ++ ss).Pairwise (· < ·) → CavesOk L done all → (∀ c ∈ all, ∃ t ∈ done, c = caveM L t) → ss.foldl (addCave L) all = all ++ (ss.filter (headIs L)).map (caveM L)
  | [], done, all, _, _, _, _, _, _ => by simp
  | s :: ss, done, all, hr, hdr, hcov, hp, ok, hd => by
    have hs := hr s List.mem_cons_self
    have hlt : ∀ t ∈ done, t < s := fun t ht => (List.pairwise_append.1 hp).2.2 t ht s List.mem_cons_self
    have ok2 := addCave_ok hL ok hs
    have key : (noLeg L s || all.any (fun c => c.contains s)) = !headIs L s := by
      cases hn : noLeg L s
      · rw [Bool.false_or]
        cases hh : headIs L s
        · have h1 : ¬ headIs L s = true := by rw [hh]; decide
          rw [headIs_iff hL hs] at h1
          have h2 : ¬ ∀ b, Conn L s b → s ≤ b := fun h => h1 ⟨hn, h⟩
          have h3 : ∃ b, Conn L s b ∧ b < s := Classical.byContradiction fun hne => h2 fun b hb => Classical.byContradiction fun hlt => hne ⟨b, hb, by omega⟩
          obtain ⟨b, hb, hbs⟩ := h3
          have hbi := conn_in hL hs hb
          have hbd : b ∈ done := by
            rcases hcov s List.mem_cons_self b hbi.1 hbs with h | h
            · exact h
            · rcases List.mem_cons.1 h with h | h
              · omega
              · have := (List.pairwise_cons.1 (List.pairwise_append.1 hp).2.1).1 b h; omega
          have hnb : noLeg L b = false := by
            cases hq : noLeg L b
            · rfl
            · have := conn_alone hq hb.symm; omega
          obtain ⟨c, hc, hbc⟩ := ok.has b hbd hnb
          obtain ⟨t, ht, _, rfl⟩ := ok.are c hc
          rw [Bool.not_false, List.any_eq_true]
          exact ⟨_, hc, List.contains_iff_mem.2 ((mem_caveM hL ht s).2 (((mem_caveM hL ht b).1 hbc).trans hb.symm))⟩
        · have h1 := (headIs_iff hL hs).1 hh
          rw [Bool.not_true, List.any_eq_false]
          intro c hc hcs
          obtain ⟨t, ht, rfl⟩ := hd c hc
          have h3 := (mem_caveM hL (hdr t ht) s).1 (List.contains_iff_mem.1 hcs)
          have h4 := h1.2 t h3.symm
          have h5 := hlt t ht
          omega
      · have hh : headIs L s = false := by unfold headIs; rw [hn]; rfl
        rw [hh]; rfl
    have hrec := caves_fold hL ss (done ++ [s]) (addCave L all s) (fun t ht => hr t (List.mem_cons_of_mem _ ht)) (fun t ht => by
        rcases List.mem_append.1 ht with h | h
        · exact hdr t h
        · rw [List.mem_singleton] at h; exact h ▸ hs) (fun a ha t h0 hta => by
        rcases hcov a (List.mem_cons_of_mem _ ha) t h0 hta with h | h
        · exact Or.inl (List.mem_append_left _ h)
        · rcases List.mem_cons.1 h with h | h
          · exact Or.inl (List.mem_append_right _ (List.mem_singleton.2 h))
          · exact Or.inr h) (by rw [List.append_assoc]; exact hp) ok2 (fun c hc => by
        unfold addCave at hc
        split at hc
        · obtain ⟨t, ht, e⟩ := hd c hc; exact ⟨t, List.mem_append_left _ ht, e⟩
        · rcases List.mem_append.1 hc with h | h
          · obtain ⟨t, ht, e⟩ := hd c h; exact ⟨t, List.mem_append_left _ ht, e⟩
          · rw [List.mem_singleton] at h; exact ⟨s, List.mem_append_right _ (List.mem_singleton.2 rfl), h⟩)
    rw [List.foldl_cons, hrec, List.filter_cons]
    unfold addCave
    rw [key]
    cases hh : headIs L s
    · simp
    · simp
theorem caves_same {L : List S32} (hL : ∀ x ∈ L, inSt x) : cavesM L = cavesS L := by
  have h := caves_fold hL st8 [] [] (fun s hs => (mem_st8 s).1 hs) (fun s hs => by cases hs) (fun s hs t h0 hts => Or.inr ((mem_st8 t).2 ⟨h0, by have := (mem_st8 s).1 hs; omega⟩)) (by rw [List.nil_append]; exact rising_st8) ⟨fun c h => by simp at h, List.Pairwise.nil, fun s h => by simp at h⟩ (fun c h => by simp at h)
  simpa [cavesM, cavesS] using h
/-! Lengths. -/
def lenM (C : List Int) : List S32 → Int
  | [] => 0
  | x :: l => (if C.contains x.f0 = true then x.f2 else 0) + lenM C l
theorem lenM_pos {C : List Int} : ∀ (l : List S32), (∀ x ∈ l, 1 ≤ x.f2 ∧ x.f2 ≤ 500) → 0 ≤ lenM C l ∧ lenM C l ≤ 500 * l.length ∧ ∀ x ∈ l, C.contains x.f0 = true → 1 ≤ lenM C l
  | [], _ => by simp [lenM]
  | y :: l, h => by
    obtain ⟨h1, h2, h3⟩ := lenM_pos (C := C) l (fun x hx => h x (List.mem_cons_of_mem _ hx))
    have hy := h y List.mem_cons_self
    unfold lenM
    rw [List.length_cons]
    refine ⟨by split <;> omega, by split <;> omega, fun x hx hc => ?_⟩
    rcases List.mem_cons.1 hx with rfl | hx
    · rw [if_pos hc]; omega
    · have := h3 x hx hc; split <;> omega

theorem sp_Caves_l0 {L : List S32} (hL : ∀ x ∈ L, inSt x) (hn : L.length ≤ 4096) : ∀ (d s : Nat) (all : List (List Int)), s + d = 8 → all.length ≤ s → Evn (fun k => spec_l17Caves.l0 k L all (s : Int)) (all ++ ((st8.drop s).filter (headIs L)).map (caveM L)) := by
  intro d
  induction d with
  | zero =>
    intro s all h _
    refine Evn.step ?_
    have h1 : ¬ (s : Int) < 8 := by omega
    simp only [spec_l17Caves.l0, if_neg h1]
    rw [show s = 8 by omega]
    exact (Evn.done _).eq_ (by simp [st8])
  | succ d ih =>
    intro s all h ha
    refine Evn.step ?_
    have h1 : (s : Int) < 8 := by omega
    have hs : 0 ≤ (s : Int) ∧ (s : Int) ≤ 7 := by omega
    have hC := sp_l17Cave (-1) (s : Int) hL hs hn
    rw [restM_none hL] at hC
    have hg : all.length < 5864062014805 := by omega
    simp only [spec_l17Caves.l0, if_pos h1, if_pos hg, wrap_succ (show s < 4611686018427387904 by omega)]
    refine Evn.bind hC (Evn.bind (sp_l17Used L (s : Int) hn) ?_)
    have hm : (s : Int) ∈ caveM L (s : Int) := (mem_caveM hL hs _).2 Conn.refl
    have hpos : (0 : Int) < ((caveM L (s : Int)).length : Int) := by have := List.length_pos_of_mem hm; omega
    rw [st8_drop s (by omega), List.filter_cons]
    have hno : headIs L (s : Int) = false → Evn (fun k => spec_l17Caves.l0 k L all ((s + 1 : Nat) : Int)) (all ++ (if headIs L (s : Int) = true then (s : Int) :: (st8.drop (s + 1)).filter (headIs L) else (st8.drop (s + 1)).filter (headIs L)).map (caveM L)) := fun c => by
      rw [if_neg (by rw [c]; decide)]; exact ih (s + 1) all (by omega) (by omega)
    refine Evn.ite (fun c => ?_) (fun c => hno (by unfold headIs; rw [Bool.eq_false_iff.2 c]; rfl))
    simp only [if_pos hpos]
    refine Evn.ite (fun c2 => ?_) (fun c2 => hno (by unfold headIs; rw [decide_eq_false (show ¬ (caveM L (s : Int)).getD 0 0 = (s : Int) from c2), Bool.and_false]))
    have hyes : headIs L (s : Int) = true := by unfold headIs; rw [c, decide_eq_true (show (caveM L (s : Int)).getD 0 0 = (s : Int) from c2)]; rfl
    rw [if_pos hyes, List.map_cons]
    have h3 := ih (s + 1) (all ++ [caveM L (s : Int)]) (by omega) (by rw [List.length_append, List.length_singleton]; omega)
    rw [List.append_assoc] at h3
    exact h3
theorem sp_l17Caves {L : List S32} (hL : ∀ x ∈ L, inSt x) (hn : L.length ≤ 4096) : Evn (fun k => spec_l17Caves.f k L) (cavesM L) := by
  have h := sp_Caves_l0 hL hn 8 0 [] (by omega) (by simp)
  rw [caves_same hL]
  simpa [spec_l17Caves.f, cavesS] using h

theorem has_caveM (L : List S32) (a : Int) {s : Int} (hs : 0 ≤ s ∧ s ≤ 7) : (caveM L a).contains s = sAt (reachM L a) s := by
  unfold caveM
  cases h : sAt (reachM L a) s
  · rw [Bool.eq_false_iff]
    intro hc
    have h2 := List.mem_filter.1 (List.contains_iff_mem.1 hc)
    rw [h] at h2; cases h2.2
  · exact List.contains_iff_mem.2 (List.mem_filter.2 ⟨(mem_st8 s).2 hs, h⟩)
def longF : List (Int × Int) → Int → Int → Int × Int
  | [], b, m => (b, m)
  | x :: l, b, m => if x.2 > m then longF l x.1 x.2 else longF l b m
theorem longF_up : ∀ (l : List (Int × Int)) (b m : Int), m ≤ (longF l b m).2
  | [], _, _ => Int.le_refl _
  | x :: l, b, m => by
    unfold longF
    split
    · have := longF_up l x.1 x.2; omega
    · exact longF_up l b m
def headLen (L : List S32) (c : List Int) : Int × Int := (c.getD 0 0, lenM (caveM L (c.getD 0 0)) L)
def longV (L : List S32) : List (Int × Int) := (cavesM L).map (headLen L)
structure CaveIs (L : List S32) (c : List Int) : Prop where
  pos : 0 < c.length
  inn : 0 ≤ c.getD 0 0 ∧ c.getD 0 0 ≤ 7
  len : 1 ≤ (headLen L c).2
theorem okLegs_tape {L : List S32} (h : goodLegs L = true) : ∀ x ∈ L, 1 ≤ x.f2 ∧ x.f2 ≤ 500 := by
  intro x hx
  simp only [goodLegs, Bool.and_eq_true, List.all_eq_true] at h
  exact (okLeg_in (h.1 x hx)).2.2.2.1
theorem caves_are {L : List S32} (h : goodLegs L = true) : ∀ c ∈ cavesM L, CaveIs L c := by
  intro c hc
  have hL := goodLegs_in h
  obtain ⟨t, ht, hn, rfl⟩ := (cavesM_ok hL).are c hc
  have hh := head_min hL ht
  have hc0 := (mem_caveM hL ht _).1 hh.1
  have hi := conn_in hL ht hc0
  refine ⟨List.length_pos_of_mem hh.1, hi, ?_⟩
  have hx : ∃ x ∈ L, x.f0 = t ∨ x.f1 = t := by
    apply Classical.byContradiction
    intro hne
    have : noLeg L t = true := by
      unfold noLeg
      rw [List.all_eq_true]
      intro x hx
      unfold notAt
      have h0 : ¬ x.f0 = t := fun e => hne ⟨x, hx, Or.inl e⟩
      have h1 : ¬ x.f1 = t := fun e => hne ⟨x, hx, Or.inr e⟩
      simp [h0, h1]
    rw [this] at hn; cases hn
  obtain ⟨x, hx, he⟩ := hx
  refine (lenM_pos (C := caveM L ((caveM L t).getD 0 0)) L (okLegs_tape h)).2.2 x hx ?_
  have hin := hL x hx
  have hst : sAt (reachM L t) x.f0 = true := by
    rcases he with e | e
    · rw [e]; exact (reach_conn hL ht t ht.1).2 Conn.refl
    · have h1 : sAt (reachM L t) x.f1 = true := by rw [e]; exact (reach_conn hL ht t ht.1).2 Conn.refl
      have hcl := rounds_done L hL L.length (startR t) (startR_len t) (by omega)
      have := hcl x hx
      unfold reachM at h1 ⊢
      rw [this]; exact h1
  have hcx := (reach_conn hL ht x.f0 hin.1.1).1 hst
  exact List.contains_iff_mem.2 ((mem_caveM hL hi _).2 (hc0.symm.trans hcx))
def longT (L : List S32) : Int × Int × Bool := if goodLegs L = true ∧ L.length ≠ 0 then ((longF (longV L) 0 0).1, (longF (longV L) 0 0).2, true) else (0, 0, false)
theorem longV_ne {L : List S32} (h : goodLegs L = true) (hl : L.length ≠ 0) : ∃ c l, cavesM L = c :: l := by
  match L, h, hl with
  | x :: T, h, _ =>
    have hL := goodLegs_in h
    have hin := hL x List.mem_cons_self
    have hn : noLeg (x :: T) x.f0 = false := by
      rw [Bool.eq_false_iff]
      intro hh
      have h2 := List.all_eq_true.1 hh x List.mem_cons_self
      simp [notAt] at h2
    obtain ⟨c, hc, _⟩ := (cavesM_ok hL).has x.f0 ((mem_st8 _).2 hin.1) hn
    match hz : cavesM (x :: T), hc with
    | c :: l, _ => exact ⟨c, l, rfl⟩
theorem long_one {L : List S32} (h : goodLegs L = true) (hl : L.length ≠ 0) : longF (longV L) 0 (-1) = longF (longV L) 0 0 ∧ 0 < (longF (longV L) 0 0).2 := by
  obtain ⟨c, l, e⟩ := longV_ne h hl
  have h1 := (caves_are h c (by rw [e]; exact List.mem_cons_self)).len
  unfold longV
  rw [e, List.map_cons]
  unfold longF
  rw [if_pos (by omega), if_pos (by omega)]
  have := longF_up (l.map (headLen L)) (headLen L c).1 (headLen L c).2
  exact ⟨rfl, by omega⟩
theorem long_none {L : List S32} (hl : L.length = 0) : longV L = [] := by
  match L, hl with
  | [], _ => rfl
theorem lenM_app (C : List Int) : ∀ (l m : List S32), lenM C (l ++ m) = lenM C l + lenM C m
  | [], m => by simp [lenM]
  | x :: l, m => by rw [List.cons_append, lenM, lenM, lenM_app C l m]; omega

theorem sp_Length_l0 {L : List S32} (hT : ∀ x ∈ L, 1 ≤ x.f2 ∧ x.f2 ≤ 500) (hn : L.length ≤ 4096) (C : List Int) (hC : C.length ≤ 8) : ∀ (d i : Nat) (m : Int), i + d = L.length → 0 ≤ m → m ≤ 500 * (i : Int) → Evn (fun k => spec_l17Length.l0 k L C m (i : Int)) (m + lenM C (L.drop i)) := by
  intro d
  induction d with
  | zero =>
    intro i m h _ _
    refine Evn.step ?_
    have h1 : ¬ (i : Int) < (L.length : Int) := by omega
    simp only [spec_l17Length.l0, if_neg h1]
    rw [List.drop_eq_nil_of_le (by omega)]
    exact (Evn.done _).eq_ (by simp [lenM])
  | succ d ih =>
    intro i m h h0 hm
    refine Evn.step ?_
    have h1 : (i : Int) < (L.length : Int) := by omega
    have h2 : 0 ≤ (i : Int) := by omega
    have hx : L.getD i z32 ∈ L := by rw [List.getD_eq_getElem?_getD, List.getElem?_eq_getElem (show i < L.length by omega)]; exact List.getElem_mem _
    have ht := hT _ hx
    rw [getD_drop L i z32 (by omega), lenM]
    have hw : wrap64 (m + (L.getD i z32).f2) = m + (L.getD i z32).f2 := wrap_id (by omega) (by omega)
    simp only [spec_l17Length.l0, if_pos h1, if_pos h2, rd_T32, Int.toNat_natCast, wrap_succ (show i < 4611686018427387904 by omega), hw]
    clear hw
    refine Evn.bind (sp_l1Has C _ (by omega)) ?_
    refine Evn.ite (fun c => (ih (i + 1) _ (by omega) (by omega) (by omega)).eq_ ?_) (fun c => (ih (i + 1) m (by omega) h0 (by omega)).eq_ ?_)
    · rw [if_pos c]; omega
    · rw [if_neg c]; omega
theorem sp_l17Length {L : List S32} (hg : goodLegs L = true) (a : Int) (ha : 0 ≤ a ∧ a ≤ 7) : Evn (fun k => spec_l17Length.f k L a) (lenM (caveM L a) L) := by
  have hL := goodLegs_in hg
  have hn := goodLegs_len hg
  have hC := sp_l17Cave (-1) a hL ha (by omega)
  rw [restM_none hL] at hC
  unfold spec_l17Length.f
  refine Evn.bind hC ?_
  have h := sp_Length_l0 (okLegs_tape hg) (by omega) (caveM L a) (caveM_len L a) L.length 0 0 (by omega) (by omega) (by omega)
  rw [List.drop_zero, Int.zero_add] at h
  exact h

theorem sp_Long_l0 {L : List S32} (hg : goodLegs L = true) : ∀ (d i : Nat) (b m : Int), i + d = (cavesM L).length → Evn (fun k => spec_LongestCave.l0 k L (cavesM L) b m (i : Int)) ((longF (((cavesM L).drop i).map (headLen L)) b m).1, (longF (((cavesM L).drop i).map (headLen L)) b m).2, true) := by
  have h8 := cavesM_len L
  intro d
  induction d with
  | zero =>
    intro i b m h
    refine Evn.step ?_
    have h1 : ¬ (i : Int) < ((cavesM L).length : Int) := by omega
    simp only [spec_LongestCave.l0, if_neg h1]
    rw [List.drop_eq_nil_of_le (by omega)]
    exact Evn.done _
  | succ d ih =>
    intro i b m h
    refine Evn.step ?_
    have h1 : (i : Int) < ((cavesM L).length : Int) := by omega
    have h2 : 0 ≤ (i : Int) := by omega
    have hm : (cavesM L).getD i [] ∈ cavesM L := by rw [List.getD_eq_getElem?_getD, List.getElem?_eq_getElem (show i < (cavesM L).length by omega)]; exact List.getElem_mem _
    have hc := caves_are hg _ hm
    have h3 : (0 : Int) < (((cavesM L).getD i []).length : Int) := by have := hc.pos; omega
    rw [getD_drop (cavesM L) i [] (by omega), List.map_cons, longF]
    simp only [spec_LongestCave.l0, if_pos h1, if_pos h2, rd_L4, rd, Int.toNat_natCast, if_pos h3, wrap_succ (show i < 4611686018427387904 by omega), show (0 : Int).toNat = 0 from rfl]
    refine Evn.bind (sp_l17Length hg _ hc.inn) ?_
    refine Evn.ite (fun c => ?_) (fun c => ?_)
    · have c' : (headLen L ((cavesM L).getD i [])).2 > m := c
      simp only [if_pos c']
      exact ih (i + 1) _ _ (by omega)
    · have c' : ¬ (headLen L ((cavesM L).getD i [])).2 > m := c
      simp only [if_neg c']
      exact ih (i + 1) _ _ (by omega)
theorem sp_LongestCave (L : List S32) (hx : L.length ≤ 4194304) : Evn (fun k => spec_LongestCave.f k L) (longT L) := by
  unfold spec_LongestCave.f longT
  refine Evn.bind (sp_l4Legs L hx) ?_
  refine Evn.ite (fun c => ?_) (fun c => ?_)
  · refine Evn.step ?_
    simp only [spec_LongestCave.j0]
    refine Evn.ite (fun c2 => ?_) (fun c2 => ?_)
    · have hl : L.length = 0 := by have := eq_of_beq c2; omega
      rw [if_neg (fun h => h.2 hl)]; exact Evn.done _
    · have hl : L.length ≠ 0 := fun h => c2 (by rw [h]; rfl)
      refine Evn.bind (sp_l17Caves (goodLegs_in c) (by have := goodLegs_len c; omega)) ?_
      have h := sp_Long_l0 c (cavesM L).length 0 0 (-1) (by omega)
      rw [List.drop_zero] at h
      refine h.eq_ ?_
      rw [if_pos ⟨c, hl⟩]
      have e : (cavesM L).map (headLen L) = longV L := rfl
      rw [e, (long_one c hl).1]
  · rw [if_neg (fun h => c h.1)]
    refine Evn.step ?_
    simp only [spec_LongestCave.j0, if_true]
    exact Evn.done _

/-! The draws: a cursor over bytes. -/
def Byts (l : List Int) : Prop := ∀ x ∈ l, 0 ≤ x ∧ x ≤ 255
theorem bits255 (x : Int) : 0 ≤ Go.bits .and .u64 x 255 ∧ Go.bits .and .u64 x 255 ≤ 255 := by
  have h : (BitVec.ofInt 64 x &&& BitVec.ofInt 64 255).toNat ≤ 255 := by rw [BitVec.toNat_and]; exact Nat.le_trans Nat.and_le_right (by decide)
  have e : Go.bits .and .u64 x 255 = IntKind.u64.wrap ((BitVec.ofInt 64 x &&& BitVec.ofInt 64 255).toNat : Int) := rfl
  rw [e, IntKind.wrap_u64]
  omega
theorem Byts.at_ {l : List Int} (h : Byts l) (p : Int) : 0 ≤ rd l p ∧ rd l p ≤ 255 := by
  unfold rd
  by_cases g : p.toNat < l.length
  · rw [List.getD_eq_getElem?_getD, List.getElem?_eq_getElem g, Option.getD_some]
    exact h _ (List.getElem_mem g)
  · rw [List.getD_eq_getElem?_getD, List.getElem?_eq_none (by omega), Option.getD_none]
    omega
theorem dw_next {l : List Int} {p : Int} (hl : Byts l) (h0 : 0 ≤ p) (h1 : p ≤ 2000000000) (s : Int) : ∃ r, spec_l1Cur_next.f l p s = some r ∧ 0 ≤ r.1 ∧ r.1 ≤ 255 ∧ r.2.1 = p + 1 := by
  have hr := hl.at_ p
  have e : wrap64 (rd l p) = rd l p := wrap_id (by omega) (by omega)
  have e2 : wrap64 (p + 1) = p + 1 := wrap_id (by omega) (by omega)
  unfold spec_l1Cur_next.f
  rw [e, e2]
  split
  · (try rw [if_pos h0])
    split
    · exact ⟨_, rfl, hr.1, hr.2, rfl⟩
    · refine ⟨_, rfl, ?_, ?_, rfl⟩
      · dsimp only; rw [wrap_id (by have := bits255; exact Int.le_trans (by decide) (this _).1) (Int.le_trans (bits255 _).2 (by decide))]; exact (bits255 _).1
      · dsimp only; rw [wrap_id (by have := bits255; exact Int.le_trans (by decide) (this _).1) (Int.le_trans (bits255 _).2 (by decide))]; exact (bits255 _).2
  · split
    · exact ⟨_, rfl, by dsimp only; omega, by dsimp only; omega, rfl⟩
    · refine ⟨_, rfl, ?_, ?_, rfl⟩
      · dsimp only; rw [wrap_id (by have := bits255; exact Int.le_trans (by decide) (this _).1) (Int.le_trans (bits255 _).2 (by decide))]; exact (bits255 _).1
      · dsimp only; rw [wrap_id (by have := bits255; exact Int.le_trans (by decide) (this _).1) (Int.le_trans (bits255 _).2 (by decide))]; exact (bits255 _).2

theorem tmod_in {x n : Int} (hx : 0 ≤ x) (hn : 1 < n) : 0 ≤ Int.tmod x n ∧ Int.tmod x n < n := by
  rw [Int.tmod_eq_emod_of_nonneg hx]
  exact ⟨Int.emod_nonneg _ (by omega), Int.emod_lt_of_pos _ (by omega)⟩
theorem dw_pick {l : List Int} {p : Int} (hl : Byts l) (h0 : 0 ≤ p) (h1 : p ≤ 1000000000) (s n : Int) : ∃ r, spec_l1Cur_pick.f l p s n = some r ∧ 0 ≤ r.1 ∧ (r.1 < n ∨ r.1 = 0) ∧ p ≤ r.2.1 ∧ r.2.1 ≤ p + 2 := by
  unfold spec_l1Cur_pick.f
  by_cases c : n ≤ 1
  · rw [if_pos c]
    exact ⟨_, rfl, by dsimp only; omega, Or.inr rfl, Int.le_refl _, by dsimp only; omega⟩
  · rw [if_neg c]
    obtain ⟨a, ha, a0, a1, a2⟩ := dw_next hl h0 (by omega) s
    rw [ha, Option.bind_some]
    split
    · obtain ⟨b, hb, b0, b1, b2⟩ := dw_next hl (p := a.2.1) (by omega) (by omega) a.2.2
      rw [hb, Option.bind_some, if_neg (by omega)]
      have t := tmod_in (x := wrap64 (wrap64 (a.1 * 256) + b.1)) (n := n) (by rw [wrap_id (x := a.1 * 256) (by omega) (by omega), wrap_id (by omega) (by omega)]; omega) (by omega)
      exact ⟨_, rfl, t.1, Or.inl t.2, by dsimp only; omega, by dsimp only; omega⟩
    · rw [if_neg (by omega)]
      have t := tmod_in (x := a.1) (n := n) a0 (by omega)
      exact ⟨_, rfl, t.1, Or.inl t.2, by dsimp only; omega, by dsimp only; omega⟩

theorem dw_one {l : List Int} {p : Int} (hl : Byts l) (h0 : 0 ≤ p) (h1 : p ≤ 1000000000) (s n : Int) : ∃ r, spec_l1Cur_one.f l p s n = some r ∧ p ≤ r.2.1 ∧ r.2.1 ≤ p + 2 := by
  unfold spec_l1Cur_one.f
  obtain ⟨a, ha, a0, a1, a2, a3⟩ := dw_pick hl h0 h1 s n
  rw [ha, Option.bind_some]
  exact ⟨_, rfl, a2, a3⟩

theorem rd_mem {L : List Int} {i : Int} (h0 : 0 ≤ i) (h1 : i < L.length) : rd L i ∈ L := by
  unfold rd
  rw [List.getD_eq_getElem?_getD, List.getElem?_eq_getElem (by omega), Option.getD_some]
  exact List.getElem_mem _
theorem dw_among {l : List Int} {p : Int} (hl : Byts l) (h0 : 0 ≤ p) (h1 : p ≤ 1000000000) (s : Int) (L : List Int) (hL : 0 < L.length) : ∃ r, spec_l1Cur_among.f l p s L = some r ∧ r.1 ∈ L ∧ p ≤ r.2.1 ∧ r.2.1 ≤ p + 2 := by
  unfold spec_l1Cur_among.f
  obtain ⟨a, ha, a0, a1, a2, a3⟩ := dw_pick hl h0 h1 s (L.length : Int)
  have a4 : a.1 < (L.length : Int) := by omega
  rw [ha, Option.bind_some, if_pos a0, if_pos a4]
  exact ⟨_, rfl, rd_mem a0 a4, a2, a3⟩

theorem dw_leg {l : List Int} {p : Int} (hl : Byts l) (h0 : 0 ≤ p) (h1 : p ≤ 900000000) (s : Int) : ∃ r, Evn (fun k => spec_l1Cur_leg.f k l p s) r ∧ p ≤ r.2.2.2.2.2.1 ∧ r.2.2.2.2.2.1 ≤ p + 14 := by
  have go : ∀ (q t a b c d e : Int), p ≤ q → q ≤ p + 10 → ∃ r, Evn (fun k => spec_l1Cur_leg.j0 k l q t a b c d e) r ∧ p ≤ r.2.2.2.2.2.1 ∧ r.2.2.2.2.2.1 ≤ p + 14 := by
    intro q t a b c d e hq hq2
    obtain ⟨u, hu, u0, u1, u2, u3⟩ := dw_pick hl (p := q) (by omega) (by omega) t 40
    by_cases c0 : u.1 = 0
    · obtain ⟨v, hv, _, v2, v3⟩ := dw_among hl (p := u.2.1) (by omega) (by omega) u.2.2 [-1, 7, 8, a] (by simp)
      refine ⟨(a, v.1, c, d, e, v.2.1, v.2.2), Evn.step ?_, by dsimp only; omega, by dsimp only; omega⟩
      simp only [spec_l1Cur_leg.j0, hu, Option.bind_some, if_pos c0, hv]
      exact Evn.done _
    by_cases c1 : u.1 = 1
    · obtain ⟨v, hv, _, v2, v3⟩ := dw_among hl (p := u.2.1) (by omega) (by omega) u.2.2 [0, 501] (by simp)
      refine ⟨(a, b, v.1, d, e, v.2.1, v.2.2), Evn.step ?_, by dsimp only; omega, by dsimp only; omega⟩
      simp only [spec_l1Cur_leg.j0, hu, Option.bind_some, if_neg c0, if_pos c1, hv]
      exact Evn.done _
    by_cases c2 : u.1 = 2
    · obtain ⟨v, hv, _, v2, v3⟩ := dw_among hl (p := u.2.1) (by omega) (by omega) u.2.2 [-1, 360] (by simp)
      refine ⟨(a, b, c, v.1, e, v.2.1, v.2.2), Evn.step ?_, by dsimp only; omega, by dsimp only; omega⟩
      simp only [spec_l1Cur_leg.j0, hu, Option.bind_some, if_neg c0, if_neg c1, if_pos c2, hv]
      exact Evn.done _
    by_cases c3 : u.1 = 3
    · obtain ⟨v, hv, _, v2, v3⟩ := dw_among hl (p := u.2.1) (by omega) (by omega) u.2.2 [-91, 91] (by simp)
      refine ⟨(a, b, c, d, v.1, v.2.1, v.2.2), Evn.step ?_, by dsimp only; omega, by dsimp only; omega⟩
      simp only [spec_l1Cur_leg.j0, hu, Option.bind_some, if_neg c0, if_neg c1, if_neg c2, if_pos c3, hv]
      exact Evn.done _
    refine ⟨(a, b, c, d, e, u.2.1, u.2.2), Evn.step ?_, by dsimp only; omega, by dsimp only; omega⟩
    simp only [spec_l1Cur_leg.j0, hu, Option.bind_some, if_neg c0, if_neg c1, if_neg c2, if_neg c3]
    exact Evn.done _
  unfold spec_l1Cur_leg.f
  obtain ⟨a, ha, a0, a1, a2, a3⟩ := dw_pick hl h0 (by omega) s 6
  obtain ⟨b, hb, b0, b1, b2, b3⟩ := dw_pick hl (p := a.2.1) (by omega) (by omega) a.2.2 6
  obtain ⟨c, hc, _, c2, c3⟩ := dw_among hl (p := b.2.1) (by omega) (by omega) b.2.2 [1, 10, 50, 100, 120, 250, 500] (by simp)
  obtain ⟨d, hd, _, d2, d3⟩ := dw_among hl (p := c.2.1) (by omega) (by omega) c.2.2 [0, 45, 90, 135, 180, 270, 359, 17, 222] (by simp)
  obtain ⟨e, he, _, e2, e3⟩ := dw_among hl (p := d.2.1) (by omega) (by omega) d.2.2 [0, 0, 0, 5, (-5), 30, (-45), 90, (-90)] (by simp)
  simp only [ha, hb, hc, hd, he, Option.bind_some]
  by_cases cc : a.1 = b.1
  · simp only [if_pos cc]
    exact go _ _ _ _ _ _ _ (by omega) (by omega)
  · simp only [if_neg cc]
    exact go _ _ _ _ _ _ _ (by omega) (by omega)

theorem dw_cave_l1 {l : List Int} (hl : Byts l) (n : Int) (n2 : 2 ≤ n) (n6 : n ≤ 6) (ps : List S92) (hps : (ps.length : Int) = n) : ∀ (D : Nat) (zs : List S32) (p s : Int), 1 ≤ zs.length → zs.length + D ≤ 12 → 0 ≤ p → p ≤ 800000000 - 20 * (D : Int) → ∃ r, Evn (fun k => spec_l1Cur_cave.l1 k zs n ps (D : Int) l p s) r ∧ r.1.length ≤ 13 ∧ p ≤ r.2.1 ∧ r.2.1 ≤ p + 20 * (D : Int) + 20 := by
  intro D
  induction D with
  | zero =>
    intro zs p s hz hz2 h0 h1
    have hn : ¬ ((0 : Nat) : Int) > 0 := by decide
    obtain ⟨u, hu, u0, u1, u2, u3⟩ := dw_pick hl h0 (by omega) s 24
    by_cases c0 : u.1 = 0
    · obtain ⟨v, hv, v1, v2⟩ := dw_leg hl (p := u.2.1) (by omega) (by omega) u.2.2
      have hq : 0 < (zs.length : Int) := by omega
      refine ⟨(zs.set (0 : Int).toNat (⟨v.1, v.2.1, v.2.2.1, v.2.2.2.1, v.2.2.2.2.1⟩ : S32), v.2.2.2.2.2.1, v.2.2.2.2.2.2), Evn.step ?_, by dsimp only; rw [List.length_set]; omega, by dsimp only; omega, by dsimp only; omega⟩
      simp only [spec_l1Cur_cave.l1, if_neg hn, hu, Option.bind_some, if_pos c0]
      refine Evn.bind hv ?_
      simp only [if_pos hq]
      exact Evn.done _
    by_cases c1 : u.1 = 1
    · obtain ⟨v, hv, v1, v2⟩ := dw_leg hl (p := u.2.1) (by omega) (by omega) u.2.2
      have hq : zs.length < 3518437208883 := by omega
      refine ⟨(zs ++ [(⟨v.1, v.2.1, v.2.2.1, v.2.2.2.1, v.2.2.2.2.1⟩ : S32)], v.2.2.2.2.2.1, v.2.2.2.2.2.2), Evn.step ?_, by dsimp only; rw [List.length_append, List.length_singleton]; omega, by dsimp only; omega, by dsimp only; omega⟩
      simp only [spec_l1Cur_cave.l1, if_neg hn, hu, Option.bind_some, if_neg c0, if_pos c1]
      refine Evn.bind hv ?_
      simp only [if_pos hq]
      exact Evn.done _
    by_cases c2 : u.1 = 2
    · have hq : 1 ≤ (zs.length : Int) := by omega
      have hq2 : ([] : List S32).length + (zs.drop 1).length < 3518437208883 := by simp only [List.length_nil, List.length_drop]; omega
      refine ⟨(zs.drop 1, u.2.1, u.2.2), Evn.step ?_, by dsimp only; rw [List.length_drop]; omega, by dsimp only; omega, by dsimp only; omega⟩
      simp only [spec_l1Cur_cave.l1, if_neg hn, hu, Option.bind_some, if_neg c0, if_neg c1, if_pos c2, if_pos hq, if_pos hq2, List.nil_append]
      exact Evn.done _
    · refine ⟨(zs, u.2.1, u.2.2), Evn.step ?_, by dsimp only; omega, by dsimp only; omega, by dsimp only; omega⟩
      simp only [spec_l1Cur_cave.l1, if_neg hn, hu, Option.bind_some, if_neg c0, if_neg c1, if_neg c2]
      exact Evn.done _
  | succ D ih =>
    intro zs p s hz hz2 h0 h1
    have hp : ((D + 1 : Nat) : Int) > 0 := by omega
    obtain ⟨u, hu, u0, u1, u2, u3⟩ := dw_pick hl h0 (by omega) s n
    obtain ⟨v, hv, v0, v1, v2, v3⟩ := dw_pick hl (p := u.2.1) (by omega) (by omega) u.2.2 n
    have u4 : u.1 < (ps.length : Int) := by omega
    have v4 : v.1 < (ps.length : Int) := by omega
    obtain ⟨d, hd⟩ := ok_plus (rd_T92 ps v.1).f0 (rd_T92 ps v.1).f1 (rd_T92 ps v.1).f2 (rd_T92 ps u.1).f0 (rd_T92 ps u.1).f1 (rd_T92 ps u.1).f2 (-1)
    obtain ⟨a, ha⟩ := ok_LengthOf d.1 d.2.1 0
    obtain ⟨b, hb⟩ := ok_LengthOf d.1 d.2.1 d.2.2
    have tail : ∀ (q : Bool) (x9 x10 x12 x14 : Int), ∃ r, Evn (fun k => spec_l1Cur_cave.j2 k zs n ps ((D + 1 : Nat) : Int) x9 x10 x12 x14 q l v.2.1 v.2.2 d.1 d.2.1 d.2.2) r ∧ r.1.length ≤ 13 ∧ p ≤ r.2.1 ∧ r.2.1 ≤ p + 20 * ((D + 1 : Nat) : Int) + 20 := by
      intro q x9 x10 x12 x14
      cases q with
      | true =>
        obtain ⟨r, hr, r1, r2, r3⟩ := ih zs v.2.1 v.2.2 hz (by omega) (by omega) (by omega)
        refine ⟨r, Evn.step ?_, r1, by omega, by omega⟩
        simp only [spec_l1Cur_cave.j2, if_true, wrap_pred (show D < 4611686018427387904 by omega)]
        exact hr
      | false =>
        obtain ⟨e, he⟩ := ok_BearingTo d.1 d.2.1
        obtain ⟨f, hf⟩ := ok_SlopeTo x12 d.2.2
        obtain ⟨g, hg, _, _, g2, g3⟩ := dw_pick hl (p := v.2.1) (by omega) (by omega) v.2.2 4
        obtain ⟨h, hh, _, _, h2, h3⟩ := dw_pick hl (p := g.2.1) (by omega) (by omega) g.2.2 3
        have hq : zs.length < 3518437208883 := by omega
        obtain ⟨r, hr, r1, r2, r3⟩ := ih (zs ++ [⟨x9, x10, wrap64 (x14 + g.1), Int.tmod (wrap64 (e.1 + h.1)) 360, f.1⟩]) h.2.1 h.2.2 (by rw [List.length_append, List.length_singleton]; omega) (by rw [List.length_append, List.length_singleton]; omega) (by omega) (by omega)
        refine ⟨r, Evn.step ?_, r1, by omega, by omega⟩
        simp only [spec_l1Cur_cave.j2, Bool.false_eq_true, if_false, wrap_pred (show D < 4611686018427387904 by omega)]
        refine Evn.bind he (Evn.bind hf ?_)
        simp only [hg, hh, Option.bind_some, if_pos hq]
        exact hr
    by_cases c : u.1 = v.1
    · obtain ⟨r, hr, r1⟩ := tail true u.1 v.1 a.1 b.1
      refine ⟨r, Evn.step ?_, r1⟩
      simp only [spec_l1Cur_cave.l1, if_pos hp, hu, hv, Option.bind_some, if_pos v0, if_pos v4, if_pos u0, if_pos u4, hd]
      refine Evn.bind ha (Evn.bind hb ?_)
      simp only [if_pos c]
      exact hr
    · obtain ⟨r, hr, r1⟩ := tail (!decide (4 ≤ wrap64 (b.1 + 3) ∧ wrap64 (b.1 + 3) ≤ 500)) u.1 v.1 a.1 b.1
      refine ⟨r, Evn.step ?_, r1⟩
      simp only [spec_l1Cur_cave.l1, if_pos hp, hu, hv, Option.bind_some, if_pos v0, if_pos v4, if_pos u0, if_pos u4, hd]
      refine Evn.bind ha (Evn.bind hb ?_)
      simp only [if_neg c, sp_l1In, Option.bind_some]
      exact hr
theorem dw_cave_l0 {l : List Int} (hl : Byts l) (n : Int) (n2 : 2 ≤ n) (n6 : n ≤ 6) : ∀ (D : Nat) (zs : List S32) (ps : List S92) (x p s : Int), x + (D : Int) = n → (ps.length : Int) = x → (zs.length : Int) + 1 = x → 1 ≤ x → 0 ≤ p → p ≤ 700000000 - 20 * (D : Int) → ∃ r, Evn (fun k => spec_l1Cur_cave.l0 k zs n ps x l p s) r ∧ r.1.length ≤ 13 ∧ p ≤ r.2.1 ∧ r.2.1 ≤ p + 20 * (D : Int) + 100 := by
  intro D
  induction D with
  | zero =>
    intro zs ps x p s hx hps hzs h1 h0 hp
    obtain ⟨u, hu, u0, u1, u2, u3⟩ := dw_pick hl h0 (by omega) s 4
    obtain ⟨E, hE⟩ : ∃ E : Nat, u.1 = E := ⟨u.1.toNat, by omega⟩
    obtain ⟨r, hr, r1, r2, r3⟩ := dw_cave_l1 hl n n2 n6 ps (by omega) E zs u.2.1 u.2.2 (by omega) (by omega) (by omega) (by omega)
    refine ⟨r, Evn.step ?_, r1, by omega, by omega⟩
    simp only [spec_l1Cur_cave.l0, if_neg (show ¬ x < n by omega), hu, Option.bind_some, hE]
    exact hr
  | succ D ih =>
    intro zs ps x p s hx hps hzs h1 h0 hp
    obtain ⟨u, hu, u0, u1, u2, u3⟩ := dw_pick hl h0 (by omega) s x
    obtain ⟨a, ha, _, a2, a3⟩ := dw_among hl (p := u.2.1) (by omega) (by omega) u.2.2 [10, 50, 100, 120, 250] (by simp)
    obtain ⟨b, hb, _, b2, b3⟩ := dw_among hl (p := a.2.1) (by omega) (by omega) a.2.2 [0, 45, 90, 135, 180, 270, 300] (by simp)
    obtain ⟨c, hc, _, c2, c3⟩ := dw_among hl (p := b.2.1) (by omega) (by omega) b.2.2 [0, 0, (-10), (-30), 20, (-90)] (by simp)
    obtain ⟨d, hd⟩ := ok_shift u.1 x a.1 b.1 c.1
    obtain ⟨e, he⟩ := ok_plus (rd_T92 ps u.1).f0 (rd_T92 ps u.1).f1 (rd_T92 ps u.1).f2 d.1 d.2.1 d.2.2 1
    obtain ⟨o, ho, o2, o3⟩ := dw_one hl (p := c.2.1) (by omega) (by omega) c.2.2 4
    obtain ⟨v, hv⟩ : ∃ v, spec_l4Reverse.f u.1 x a.1 b.1 c.1 = some v := ⟨_, rfl⟩
    have u4 : u.1 < (ps.length : Int) := by omega
    have q1 : ps.length < 5864062014805 := by omega
    have q2 : zs.length < 3518437208883 := by omega
    have hxn : x < n := by omega
    have hpl : ((ps ++ [(⟨e.1, e.2.1, e.2.2⟩ : S92)]).length : Int) = x + 1 := by rw [List.length_append, List.length_singleton]; omega
    have hzl : ∀ y : S32, ((zs ++ [y]).length : Int) + 1 = x + 1 := by intro y; rw [List.length_append, List.length_singleton]; omega
    have hw : wrap64 (x + 1) = x + 1 := wrap_id (by omega) (by omega)
    by_cases co : o.1 = true
    · obtain ⟨r, hr, r1, r2, r3⟩ := ih (zs ++ [⟨v.1, v.2.1, v.2.2.1, v.2.2.2.1, v.2.2.2.2⟩]) (ps ++ [⟨e.1, e.2.1, e.2.2⟩]) (x + 1) o.2.1 o.2.2 (by clear hw; omega) hpl (hzl _) (by clear hw; omega) (by clear hw; omega) (by clear hw; omega)
      refine ⟨r, Evn.step ?_, r1, by clear hw; omega, by clear hw; omega⟩
      simp only [spec_l1Cur_cave.l0, if_pos hxn, hu, ha, hb, hc, Option.bind_some, if_pos u0, if_pos u4, hd, he, if_pos q1, ho, if_pos co, hv, if_pos q2, hw]
      exact hr
    · obtain ⟨r, hr, r1, r2, r3⟩ := ih (zs ++ [⟨u.1, x, a.1, b.1, c.1⟩]) (ps ++ [⟨e.1, e.2.1, e.2.2⟩]) (x + 1) o.2.1 o.2.2 (by clear hw; omega) hpl (hzl _) (by clear hw; omega) (by clear hw; omega) (by clear hw; omega)
      refine ⟨r, Evn.step ?_, r1, by clear hw; omega, by clear hw; omega⟩
      simp only [spec_l1Cur_cave.l0, if_pos hxn, hu, ha, hb, hc, Option.bind_some, if_pos u0, if_pos u4, hd, he, if_pos q1, ho, if_neg co, if_pos q2, hw]
      exact hr
theorem dw_cave {l : List Int} {p : Int} (hl : Byts l) (h0 : 0 ≤ p) (h1 : p ≤ 600000000) (s : Int) : ∃ r, Evn (fun k => spec_l1Cur_cave.f k l p s) r ∧ r.1.length ≤ 13 ∧ p ≤ r.2.1 ∧ r.2.1 ≤ p + 300 := by
  unfold spec_l1Cur_cave.f
  obtain ⟨a, ha, a0, a1, a2, a3⟩ := dw_pick hl h0 (by omega) s 5
  have hw : wrap64 (2 + a.1) = 2 + a.1 := wrap_id (by omega) (by omega)
  simp only [ha, Option.bind_some, hw]
  clear hw
  obtain ⟨r, hr, r1, r2, r3⟩ := dw_cave_l0 hl (2 + a.1) (by omega) (by omega) (1 + a.1).toNat [] [⟨0, 0, 0⟩] 1 a.2.1 a.2.2 (by omega) rfl rfl (by omega) (by omega) (by omega)
  exact ⟨r, hr, r1, by omega, by omega⟩

theorem dw_caves {l : List Int} {p : Int} (hl : Byts l) (h0 : 0 ≤ p) (h1 : p ≤ 500000000) (s : Int) : ∃ r, Evn (fun k => spec_l1Cur_caves.f k l p s) r ∧ r.1.length ≤ 13 ∧ p ≤ r.2.1 ∧ r.2.1 ≤ p + 310 := by
  unfold spec_l1Cur_caves.f
  obtain ⟨a, ha, a1, a2, a3⟩ := dw_cave hl h0 (by omega) s
  obtain ⟨o, ho, o2, o3⟩ := dw_one hl (p := a.2.1) (by omega) (by omega) a.2.2 2
  by_cases c : o.1 = true
  · by_cases c2 : (a.1.length : Int) > 1
    · obtain ⟨u, hu, u0, u1, u2, u3⟩ := dw_pick hl (p := o.2.1) (by omega) (by omega) o.2.2 (a.1.length : Int)
      have k1 : u.1 ≤ (a.1.length : Int) := by omega
      have k2 : ([] : List S32).length + (a.1.take u.1.toNat).length < 3518437208883 := by rw [List.length_take, List.length_nil]; omega
      have k3 : 0 ≤ u.1 + 1 := by omega
      have k4 : u.1 + 1 ≤ (a.1.length : Int) := by omega
      have k5 : (a.1.take u.1.toNat).length + (a.1.drop (u.1 + 1).toNat).length < 3518437208883 := by rw [List.length_take, List.length_drop]; omega
      have hlen : (a.1.take u.1.toNat ++ a.1.drop (u.1 + 1).toNat).length ≤ 13 := by rw [List.length_append, List.length_take, List.length_drop]; omega
      refine ⟨(a.1.take u.1.toNat ++ a.1.drop (u.1 + 1).toNat, u.2.1, u.2.2), Evn.bind ha ?_, hlen, by dsimp only; omega, by dsimp only; omega⟩
      have hw : wrap64 (u.1 + 1) = u.1 + 1 := wrap_id (by omega) (by omega)
      simp only [ho, Option.bind_some, if_pos c, if_pos c2, hu, if_pos u0, if_pos k1, if_pos k2, hw, if_pos k3, if_pos k4, List.nil_append, if_pos k5]
      exact Evn.done _
    · refine ⟨(a.1, o.2.1, o.2.2), Evn.bind ha ?_, a1, by dsimp only; omega, by dsimp only; omega⟩
      simp only [ho, Option.bind_some, if_pos c, if_neg c2]
      exact Evn.done _
  · refine ⟨(a.1, o.2.1, o.2.2), Evn.bind ha ?_, a1, by dsimp only; omega, by dsimp only; omega⟩
    simp only [ho, Option.bind_some, if_neg c]
    exact Evn.done _

theorem dw_entrances_l0 {l : List Int} (hl : Byts l) : ∀ (D : Nat) (x : Nat) (zs : List Int) (p s : Int), x + D = 7 → zs.length ≤ x → 0 ≤ p → p ≤ 600000000 - 20 * (D : Int) → ∃ r, Evn (fun k => spec_l1Cur_entrances.l0 k zs (x : Int) l p s) r ∧ r.1.length ≤ 8 := by
  intro D
  induction D with
  | zero =>
    intro x zs p s hx hz h0 hp
    have hn : ¬ (x : Int) < 7 := by omega
    obtain ⟨o, ho, o2, o3⟩ := dw_one hl h0 (by omega) s 24
    by_cases c : o.1 = true
    · obtain ⟨a, ha, _, a2, a3⟩ := dw_among hl (p := o.2.1) (by omega) (by omega) o.2.2 [0, 7, 8] (by simp)
      have k1 : zs.length < 17592186044416 := by omega
      refine ⟨(zs ++ [a.1], a.2.1, a.2.2), Evn.step ?_, by dsimp only; rw [List.length_append, List.length_singleton]; omega⟩
      simp only [spec_l1Cur_entrances.l0, if_neg hn, ho, Option.bind_some, if_pos c, ha, if_pos k1]
      exact Evn.done _
    · refine ⟨(zs, o.2.1, o.2.2), Evn.step ?_, by dsimp only; omega⟩
      simp only [spec_l1Cur_entrances.l0, if_neg hn, ho, Option.bind_some, if_neg c]
      exact Evn.done _
  | succ D ih =>
    intro x zs p s hx hz h0 hp
    have hn : (x : Int) < 7 := by omega
    obtain ⟨o, ho, o2, o3⟩ := dw_one hl h0 (by omega) s 3
    have k1 : zs.length < 17592186044416 := by omega
    by_cases c : o.1 = true
    · obtain ⟨r, hr, r1⟩ := ih (x + 1) (zs ++ [(x : Int)]) o.2.1 o.2.2 (by omega) (by rw [List.length_append, List.length_singleton]; omega) (by omega) (by omega)
      refine ⟨r, Evn.step ?_, r1⟩
      simp only [spec_l1Cur_entrances.l0, if_pos hn, ho, Option.bind_some, if_pos c, if_pos k1, wrap_succ (show x < 4611686018427387904 by omega)]
      exact hr
    · obtain ⟨r, hr, r1⟩ := ih (x + 1) zs o.2.1 o.2.2 (by omega) (by omega) (by omega) (by omega)
      refine ⟨r, Evn.step ?_, r1⟩
      simp only [spec_l1Cur_entrances.l0, if_pos hn, ho, Option.bind_some, if_neg c, wrap_succ (show x < 4611686018427387904 by omega)]
      exact hr
theorem dw_entrances {l : List Int} {p : Int} (hl : Byts l) (h0 : 0 ≤ p) (h1 : p ≤ 500000000) (s : Int) : ∃ r, Evn (fun k => spec_l1Cur_entrances.f k l p s) r ∧ r.1.length ≤ 8 := by
  obtain ⟨r, hr, r1⟩ := dw_entrances_l0 hl 7 0 [] p s rfl (Nat.le_refl _) h0 (by omega)
  exact ⟨r, hr, r1⟩

theorem dw_DrawThroughTrips {l : List Int} (hl : Byts l) : ∃ r, Evn (fun k => spec_DrawThroughTrips.f k l) r ∧ r.1.length ≤ 13 ∧ r.2.length ≤ 8 := by
  unfold spec_DrawThroughTrips.f
  obtain ⟨a, ha, a1, a2, a3⟩ := dw_caves hl (p := 0) (by decide) (by decide) 0
  obtain ⟨b, hb, b1⟩ := dw_entrances hl (p := a.2.1) (by omega) (by omega) a.2.2
  exact ⟨(a.1, b.1), Evn.bind ha (Evn.bind hb (Evn.done _)), a1, b1⟩

theorem dw_DrawStepsFrom {l : List Int} (hl : Byts l) : ∃ r, Evn (fun k => spec_DrawStepsFrom.f k l) r ∧ r.1.length ≤ 13 ∧ r.2.length ≤ 8 := by
  unfold spec_DrawStepsFrom.f
  obtain ⟨a, ha, a1, a2⟩ := dw_DrawThroughTrips hl
  exact ⟨(a.1, a.2), Evn.bind ha (Evn.done _), a1, a2⟩

theorem dw_DrawRemotestStation {l : List Int} (hl : Byts l) : ∃ r, Evn (fun k => spec_DrawRemotestStation.f k l) r ∧ r.1.length ≤ 13 ∧ r.2.length ≤ 8 := by
  unfold spec_DrawRemotestStation.f
  obtain ⟨a, ha, a1, a2⟩ := dw_DrawThroughTrips hl
  exact ⟨(a.1, a.2), Evn.bind ha (Evn.done _), a1, a2⟩

theorem dw_DrawCavesOf {l : List Int} (hl : Byts l) : ∃ r, Evn (fun k => spec_DrawCavesOf.f k l) r ∧ r.length ≤ 13 := by
  unfold spec_DrawCavesOf.f
  obtain ⟨a, ha, a1, a2, a3⟩ := dw_caves hl (p := 0) (by decide) (by decide) 0
  exact ⟨a.1, Evn.bind ha (Evn.done _), a1⟩

theorem dw_DrawCutStations {l : List Int} (hl : Byts l) : ∃ r, Evn (fun k => spec_DrawCutStations.f k l) r ∧ r.length ≤ 13 := by
  unfold spec_DrawCutStations.f
  obtain ⟨a, ha, a1⟩ := dw_DrawCavesOf hl
  exact ⟨a, Evn.bind ha (Evn.done _), a1⟩

theorem dw_DrawLongestCave {l : List Int} (hl : Byts l) : ∃ r, Evn (fun k => spec_DrawLongestCave.f k l) r ∧ r.length ≤ 13 := by
  unfold spec_DrawLongestCave.f
  obtain ⟨a, ha, a1⟩ := dw_DrawCavesOf hl
  exact ⟨a, Evn.bind ha (Evn.done _), a1⟩

theorem im_within (x y z : Int) : impl_within.f x y z = some (decide (y ≤ x ∧ x ≤ z)) := by
  unfold impl_within.f
  by_cases h : x ≥ y <;> simp [h] <;> omega

theorem im_isStation (x : Int) : impl_isStation.f x = some (decide (0 ≤ x ∧ x ≤ 7)) := by
  simp only [impl_isStation.f, im_within, Option.bind_some]

theorem im_IsLeg (x : S32) : impl_IsLeg.f x.f0 x.f1 x.f2 x.f3 x.f4 = some (okLeg x) := by
  simp only [impl_IsLeg.f, im_isStation, impl_isBearing.f, im_within, Option.bind_some, ite_and, ite_not, okLeg]

theorem im_areLegs_l0 (xs : List S32) (hx : xs.length ≤ 4194304) : ∀ (d i : Nat), i + d = xs.length → Evn (fun k => impl_areLegs.l0 k xs xs (xs.length : Int) (i : Int)) ((xs.drop i).all okLeg && decide (xs.length ≤ 12)) := by
  intro d
  induction d with
  | zero =>
    intro i h
    refine Evn.step ?_
    have h1 : ¬ (i : Int) < (xs.length : Int) := by omega
    simp only [impl_areLegs.l0, if_neg h1]
    rw [List.drop_eq_nil_of_le (by omega)]
    refine (Evn.done _).eq_ ?_
    simp only [List.all_nil, Bool.true_and, decide_eq_decide]
    omega
  | succ d ih =>
    intro i h
    refine Evn.step ?_
    have h1 : (i : Int) < (xs.length : Int) := by omega
    have h2 : 0 ≤ (i : Int) := by omega
    simp only [impl_areLegs.l0, if_pos h1, if_pos h2, im_IsLeg, Option.bind_some, wrap_succ (show i < 4611686018427387904 by omega), rd_T32, Int.toNat_natCast]
    rw [getD_drop xs i z32 (by omega), List.all_cons]
    exact Evn.ite (fun c => (ih (i + 1) (by omega)).eq_ (by simp only [c, Bool.true_and])) (fun c => (Evn.done _).eq_ (by simp only [Bool.eq_false_iff.mpr c, Bool.false_and]))
theorem im_areLegs (xs : List S32) (hx : xs.length ≤ 4194304) : Evn (fun k => impl_areLegs.f k xs) (goodLegs xs) := by
  have h := im_areLegs_l0 xs hx xs.length 0 (by omega)
  simpa [impl_areLegs.f, goodLegs] using h

theorem im_strictly_l0 (xs : List Int) (lo hi : Int) (hx : xs.length ≤ 4194304) : ∀ (d i : Nat), i + d = xs.length → Evn (fun k => impl_strictly.l0 k xs lo hi xs (xs.length : Int) (i : Int)) (riseI lo hi xs d i) := by
  intro d
  induction d with
  | zero =>
    intro i h
    refine Evn.step ?_
    have h1 : ¬ (i : Int) < (xs.length : Int) := by omega
    simp only [impl_strictly.l0, if_neg h1, riseI]
    exact Evn.done _
  | succ d ih =>
    intro i h
    refine Evn.step ?_
    have h1 : (i : Int) < (xs.length : Int) := by omega
    have h2 : 0 ≤ (i : Int) := by omega
    simp only [impl_strictly.l0, if_pos h1, if_pos h2, im_within, Option.bind_some, wrap_succ (show i < 4611686018427387904 by omega), rd, Int.toNat_natCast, riseI]
    refine Evn.ite (fun c => ?_) (fun c => (Evn.done _).eq_ (by rw [Bool.eq_false_iff.mpr c, Bool.false_and]))
    rw [c, Bool.true_and]
    match i, h1, h with
    | 0, _, h =>
      rw [show decide (0 < 0) = false from rfl, Bool.false_and, Bool.not_false, Bool.true_and]
      have h3 : ¬ ((0 : Nat) : Int) > 0 := by omega
      simp only [if_neg h3]
      exact ih 1 (by omega)
    | j + 1, h1, h =>
      have h3 : ((j + 1 : Nat) : Int) > 0 := by omega
      have h4 : 0 ≤ (j : Int) := by omega
      have h5 : (j : Int) < (xs.length : Int) := by omega
      rw [show decide (0 < j + 1) = true from decide_eq_true (by omega), Bool.true_and]
      simp only [if_pos h3, wrap_pred (show j < 4611686018427387904 by omega), if_pos h4, if_pos h5, Int.toNat_natCast, Nat.add_sub_cancel]
      refine Evn.ite (fun c2 => (Evn.done _).eq_ ?_) (fun c2 => (ih (j + 2) (by omega)).eq_ ?_)
      · rw [decide_eq_true c2]; rfl
      · rw [decide_eq_false c2]; rfl
theorem im_strictly (xs : List Int) (lo hi : Int) (hx : xs.length ≤ 4194304) : Evn (fun k => impl_strictly.f k xs lo hi) (riseI lo hi xs xs.length 0) := by
  have h := im_strictly_l0 xs lo hi hx xs.length 0 (by omega)
  simpa [impl_strictly.f] using h

theorem im_areEntrances (L : List S32) (E : List Int) (hL : L.length ≤ 4194304) (hE : E.length ≤ 4194304) : Evn (fun k => impl_areEntrances.f k L E) (askM L E) := by
  unfold impl_areEntrances.f askM
  refine Evn.bind (im_areLegs L hL) ?_
  refine Evn.ite (fun c => ?_) (fun c => (Evn.done _).eq_ (by rw [Bool.eq_false_iff.mpr c, Bool.false_and]))
  rw [c, Bool.true_and]
  exact Evn.bind (im_strictly E 0 7 hE) (Evn.done _)

theorem li_Repeat8 : slices_Repeat_int_int.f [(-1)] 8 = some (List.replicate 8 (-1)) := by
  unfold slices_Repeat_int_int.f
  rw [if_pos ⟨rfl, rfl⟩]

theorem li_CloneInts (xs : List Int) (h : xs.length ≤ 4194304) : slices_Clone_int_int.f xs = some xs := by
  unfold slices_Clone_int_int.f
  rw [if_pos (by omega)]

def atIdx (s : Int) : List S32 → Int → List Int
  | [], _ => []
  | x :: l, i => if x.f0 = s then i :: atIdx s l (i + 1) else if x.f1 = s then i :: atIdx s l (i + 1) else atIdx s l (i + 1)
theorem atIdx_none (s : Int) : ∀ (l : List S32) (i : Int), (((atIdx s l i).length : Int) = 0) ↔ noLeg l s = true
  | [], i => by simp [atIdx, noLeg]
  | x :: l, i => by
    have ih := atIdx_none s l (i + 1)
    have e : noLeg (x :: l) s = (notAt s x && noLeg l s) := List.all_cons
    rw [e, atIdx]
    by_cases c0 : x.f0 = s
    · rw [if_pos c0]; simp [c0, notAt]; omega
    · rw [if_neg c0]
      by_cases c1 : x.f1 = s
      · rw [if_pos c1]; simp [c1, notAt]; omega
      · rw [if_neg c1, ih]; simp [notAt, c0, c1]
theorem im_legsAt_l0 (s : Int) (xs : List S32) (hx : xs.length ≤ 4194304) : ∀ (d i : Nat) (zs : List Int), i + d = xs.length → zs.length ≤ i → Evn (fun k => impl_legsAt.l0 k s zs xs (xs.length : Int) (i : Int)) (zs ++ atIdx s (xs.drop i) (i : Int)) := by
  intro d
  induction d with
  | zero =>
    intro i zs h hz
    refine Evn.step ?_
    have h1 : ¬ (i : Int) < (xs.length : Int) := by omega
    simp only [impl_legsAt.l0, if_neg h1]
    rw [List.drop_eq_nil_of_le (by omega)]
    exact (Evn.done _).eq_ (by simp [atIdx])
  | succ d ih =>
    intro i zs h hz
    refine Evn.step ?_
    have h1 : (i : Int) < (xs.length : Int) := by omega
    have h2 : 0 ≤ (i : Int) := by omega
    have h3 : zs.length < 17592186044416 := by omega
    rw [getD_drop xs i z32 (by omega)]
    simp only [impl_legsAt.l0, if_pos h1, if_pos h2, if_pos h3, rd_T32, Int.toNat_natCast, wrap_succ (show i < 4611686018427387904 by omega), atIdx]
    have e : ((i + 1 : Nat) : Int) = (i : Int) + 1 := by omega
    refine Evn.ite (fun c => (ih (i + 1) _ (by omega) (by simp; omega)).eq_ ?_) (fun c => Evn.ite (fun c2 => (ih (i + 1) _ (by omega) (by simp; omega)).eq_ ?_) (fun c2 => (ih (i + 1) _ (by omega) (by omega)).eq_ ?_))
    · rw [if_pos c, e, List.append_assoc]; rfl
    · rw [if_neg c, if_pos c2, e, List.append_assoc]; rfl
    · rw [if_neg c, if_neg c2, e]
theorem im_legsAt (s : Int) (xs : List S32) (hx : xs.length ≤ 4194304) : Evn (fun k => impl_legsAt.f k xs s) (atIdx s xs 0) := by
  have h := im_legsAt_l0 s xs hx xs.length 0 [] (by omega) (by simp)
  simpa [impl_legsAt.f] using h

/-! The program's search: a queue. -/
def bfsStep (u : Int) (st : List Int × List Int) (x : S32) : List Int × List Int := if vAt st.1 (x.f0 + x.f1 - u) < 0 then (st.1.set (x.f0 + x.f1 - u).toNat (vAt st.1 u + 1), st.2 ++ [x.f0 + x.f1 - u]) else st
structure Bf (L : List S32) (E : List Int) (at_ : Nat) (o Q : List Int) : Prop where
  len : o.length = 8
  low : ∀ s, st7 s → -1 ≤ vAt o s
  zero : ∀ s, st7 s → (vAt o s = 0 ↔ s ∈ E)
  back : ∀ s, st7 s → 0 < vAt o s → ∃ t, st7 t ∧ nb17 L s t ∧ vAt o t = vAt o s - 1
  inQ : ∀ s, st7 s → (0 ≤ vAt o s ↔ s ∈ Q)
  rng : ∀ s ∈ Q, st7 s
  nd : Q.Nodup
  mono : Q.Pairwise (fun a b => vAt o a ≤ vAt o b)
  done : ∀ i, i < at_ → i < Q.length → ∀ x ∈ L, (x.f0 = Q.getD i 0 → 0 ≤ vAt o x.f1 ∧ vAt o x.f1 ≤ vAt o x.f0 + 1) ∧ (x.f1 = Q.getD i 0 → 0 ≤ vAt o x.f0 ∧ vAt o x.f0 ≤ vAt o x.f1 + 1)
/-- While the legs at u, the queue's at_-th, are gone through: M is behind. -/
structure Bu (L : List S32) (E : List Int) (at_ : Nat) (u : Int) (M : List S32) (o Q : List Int) : Prop where
  bf : Bf L E at_ o Q
  lt : at_ < Q.length
  isu : Q.getD at_ 0 = u
  top : ∀ s ∈ Q, vAt o s ≤ vAt o u + 1
  legs : ∀ x ∈ M, (x.f0 = u → 0 ≤ vAt o x.f1 ∧ vAt o x.f1 ≤ vAt o x.f0 + 1) ∧ (x.f1 = u → 0 ≤ vAt o x.f0 ∧ vAt o x.f0 ≤ vAt o x.f1 + 1)
theorem getD_app17 (Q R : List Int) (i : Nat) (h : i < Q.length) : (Q ++ R).getD i 0 = Q.getD i 0 := by
  rw [List.getD_eq_getElem?_getD, List.getD_eq_getElem?_getD, List.getElem?_append_left h]
theorem getD_in17 (Q : List Int) (i : Nat) (h : i < Q.length) : Q.getD i 0 ∈ Q := by
  rw [List.getD_eq_getElem?_getD, List.getElem?_eq_getElem h]; exact List.getElem_mem _
theorem bfsStep_ok {L M : List S32} {E o Q : List Int} {n : Nat} {u : Int} {x : S32} (hL : ∀ x ∈ L, inSt x) (hM : ∀ x ∈ M, x ∈ L) (hx : x ∈ L) (hu : x.f0 = u ∨ x.f1 = u) (h : Bu L E n u M o Q) : Bu L E n u (M ++ [x]) (bfsStep u (o, Q) x).1 (bfsStep u (o, Q) x).2 := by
  obtain ⟨b, lt, isu, top, legs⟩ := h
  have i0 := (hL x hx).1
  have i1 := (hL x hx).2
  have hus : st7 u := by rcases hu with e | e <;> rw [← e] <;> assumption
  have hts : st7 (x.f0 + x.f1 - u) := by
    rcases hu with e | e
    · rw [show x.f0 + x.f1 - u = x.f1 by omega]; exact i1
    · rw [show x.f0 + x.f1 - u = x.f0 by omega]; exact i0
  have huQ : u ∈ Q := isu ▸ getD_in17 Q n lt
  have hu0 := (b.inQ u hus).2 huQ
  have hnb : nb17 L (x.f0 + x.f1 - u) u := by
    rcases hu with e | e
    · exact ⟨x, hx, Or.inr ⟨by omega, e⟩⟩
    · exact ⟨x, hx, Or.inl ⟨by omega, e⟩⟩
  generalize ht : x.f0 + x.f1 - u = t at hts hnb
  unfold bfsStep
  rw [ht]
  by_cases c : vAt o t < 0
  · rw [if_pos c]
    have hv : ∀ s, st7 s → vAt (o.set t.toNat (vAt o u + 1)) s = if s = t then vAt o u + 1 else vAt o s := fun s hs => vAt_set s hts.1 hs.1 (by rw [b.len]; have := hts.1; have := hts.2; omega)
    have hut : u ≠ t := fun e => by rw [e] at hu0; omega
    have htQ : t ∉ Q := fun hq => by have := (b.inQ t hts).2 hq; omega
    have hvQ : ∀ s ∈ Q, vAt (o.set t.toNat (vAt o u + 1)) s = vAt o s := fun s hq => by rw [hv s (b.rng s hq), if_neg (by intro e; subst e; exact htQ hq)]
    have hge : ∀ s, st7 s → 0 ≤ vAt o s → vAt (o.set t.toNat (vAt o u + 1)) s = vAt o s := fun s hs h0 => by rw [hv s hs, if_neg (fun e => by rw [e] at h0; omega)]
    have keep : ∀ y ∈ L, ((0 ≤ vAt o y.f0) → (0 ≤ vAt o y.f1 ∧ vAt o y.f1 ≤ vAt o y.f0 + 1) → (0 ≤ vAt (o.set t.toNat (vAt o u + 1)) y.f1 ∧ vAt (o.set t.toNat (vAt o u + 1)) y.f1 ≤ vAt (o.set t.toNat (vAt o u + 1)) y.f0 + 1)) ∧ ((0 ≤ vAt o y.f1) → (0 ≤ vAt o y.f0 ∧ vAt o y.f0 ≤ vAt o y.f1 + 1) → (0 ≤ vAt (o.set t.toNat (vAt o u + 1)) y.f0 ∧ vAt (o.set t.toNat (vAt o u + 1)) y.f0 ≤ vAt (o.set t.toNat (vAt o u + 1)) y.f1 + 1)) := by
      intro y hy
      have j0 := (hL y hy).1
      have j1 := (hL y hy).2
      exact ⟨fun a b => by rw [hge _ j1 b.1, hge _ j0 a]; exact b, fun a b => by rw [hge _ j0 b.1, hge _ j1 a]; exact b⟩
    refine ⟨⟨by rw [List.length_set]; exact b.len, ?_, ?_, ?_, ?_, ?_, ?_, ?_, ?_⟩, by rw [List.length_append]; exact Nat.lt_of_lt_of_le lt (Nat.le_add_right _ _), by rw [getD_app17 _ _ _ lt]; exact isu, ?_, ?_⟩
    · intro s hs; rw [hv s hs]; split; omega; exact b.low s hs
    · intro s hs
      rw [hv s hs]
      by_cases e : s = t
      · subst e; rw [if_pos rfl, ← b.zero s hs]; omega
      · rw [if_neg e]; exact b.zero s hs
    · intro s hs hpos
      by_cases e : s = t
      · subst e
        refine ⟨u, hus, hnb, ?_⟩
        rw [hge u hus hu0, hv s hs, if_pos rfl]; omega
      · rw [hv s hs, if_neg e] at hpos
        obtain ⟨r, hr, h1, h2⟩ := b.back s hs hpos
        refine ⟨r, hr, h1, ?_⟩
        rw [hge r hr (by omega), hv s hs, if_neg e]; exact h2
    · intro s hs
      rw [hv s hs, List.mem_append, List.mem_singleton]
      by_cases e : s = t
      · rw [if_pos e]; exact ⟨fun _ => Or.inr e, fun _ => by omega⟩
      · rw [if_neg e, b.inQ s hs]; exact ⟨Or.inl, fun h => h.resolve_right e⟩
    · intro s hs
      rcases List.mem_append.1 hs with h | h
      · exact b.rng s h
      · rw [List.mem_singleton] at h; exact h ▸ hts
    · refine List.nodup_append.2 ⟨b.nd, by simp, ?_⟩
      intro a ha c hc e
      rw [List.mem_singleton] at hc
      exact htQ (hc ▸ e ▸ ha)
    · refine List.pairwise_append.2 ⟨?_, List.pairwise_singleton _ _, ?_⟩
      · refine List.Pairwise.imp_of_mem ?_ b.mono
        intro a c ha hc hac
        rw [hvQ a ha, hvQ c hc]; exact hac
      · intro a ha d_ hd_
        rw [List.mem_singleton] at hd_
        rw [hd_, hvQ a ha, hv t hts, if_pos rfl]
        exact top a ha
    · intro i hi hiQ y hy
      have hi2 : i < Q.length := by omega
      rw [getD_app17 _ _ _ hi2]
      have h1 := b.done i hi hi2 y hy
      have hq := (b.inQ _ (b.rng _ (getD_in17 Q i hi2))).2 (getD_in17 Q i hi2)
      exact ⟨fun e => (keep y hy).1 (e ▸ hq) (h1.1 e), fun e => (keep y hy).2 (e ▸ hq) (h1.2 e)⟩
    · intro s hs
      rw [hge u hus hu0]
      rcases List.mem_append.1 hs with h | h
      · rw [hvQ s h]; exact top s h
      · rw [List.mem_singleton] at h
        subst h
        rw [hv s hts, if_pos rfl]
        exact Int.le_refl _
    · intro y hy
      rcases List.mem_append.1 hy with h | h
      · have h1 := legs y h
        exact ⟨fun e => (keep y (hM y h)).1 (e ▸ hu0) (h1.1 e), fun e => (keep y (hM y h)).2 (e ▸ hu0) (h1.2 e)⟩
      · rw [List.mem_singleton] at h
        subst h
        constructor
        · intro e
          have e1 : y.f1 = t := by omega
          rw [e1, e, hv t hts, if_pos rfl, hge u hus hu0]; omega
        · intro e
          have e1 : y.f0 = t := by omega
          rw [e1, e, hv t hts, if_pos rfl, hge u hus hu0]; omega
  · rw [if_neg c]
    refine ⟨b, lt, isu, top, ?_⟩
    intro y hy
    rcases List.mem_append.1 hy with h | h
    · exact legs y h
    · rw [List.mem_singleton] at h
      subst h
      have htQ := (b.inQ t hts).1 (by omega)
      have h2 := top t htQ
      constructor
      · intro e
        have e1 : y.f1 = t := by omega
        rw [e1, e]; exact ⟨Int.not_lt.1 c, h2⟩
      · intro e
        have e1 : y.f0 = t := by omega
        rw [e1, e]; exact ⟨Int.not_lt.1 c, h2⟩
theorem bfsSteps_ok {L : List S32} {E : List Int} {n : Nat} {u : Int} (hL : ∀ x ∈ L, inSt x) : ∀ (T M : List S32) (st : List Int × List Int), (∀ x ∈ M, x ∈ L) → (∀ x ∈ T, x ∈ L ∧ (x.f0 = u ∨ x.f1 = u)) → Bu L E n u M st.1 st.2 → Bu L E n u (M ++ T) (T.foldl (bfsStep u) st).1 (T.foldl (bfsStep u) st).2
  | [], M, st, _, _, h => by rw [List.append_nil]; exact h
  | x :: T, M, st, hM, hT, h => by
    have h2 := bfsStep_ok hL hM (hT x List.mem_cons_self).1 (hT x List.mem_cons_self).2 h
    have h3 := bfsSteps_ok hL T (M ++ [x]) (bfsStep u st x) (fun y hy => by
      rcases List.mem_append.1 hy with hy | hy
      · exact hM y hy
      · rw [List.mem_singleton] at hy; exact hy ▸ (hT x List.mem_cons_self).1) (fun y hy => hT y (List.mem_cons_of_mem _ hy)) h2
    rw [List.append_assoc] at h3
    exact h3
def incM (u : Int) (L : List S32) : List S32 := L.filter (fun x => !notAt u x)
theorem mem_incM (u : Int) (L : List S32) (x : S32) : x ∈ incM u L ↔ x ∈ L ∧ (x.f0 = u ∨ x.f1 = u) := by
  unfold incM
  rw [List.mem_filter]
  simp [notAt]
theorem getD_ge17 {P : Int → Int → Prop} : ∀ {Q : List Int}, Q.Pairwise P → ∀ i j : Nat, i < j → j < Q.length → P (Q.getD i 0) (Q.getD j 0)
  | [], _, i, j, _, h => by simp at h
  | q :: Q, hp, 0, j + 1, _, h => by
    have hp' := List.pairwise_cons.1 hp
    have hj : j < Q.length := by simpa using h
    simpa using hp'.1 _ (getD_in17 Q j hj)
  | q :: Q, hp, i + 1, j + 1, hij, h => by
    have hp' := List.pairwise_cons.1 hp
    have := getD_ge17 hp'.2 i j (by omega) (by simpa using h)
    simpa using this
/-- One of the queue's stations, whole. -/
theorem bfsRound_ok {L : List S32} {E o Q : List Int} {n : Nat} (hL : ∀ x ∈ L, inSt x) (h : Bf L E n o Q) (hn : n < Q.length) (htop : ∀ s ∈ Q, vAt o s ≤ vAt o (Q.getD n 0) + 1) :
    Bf L E (n + 1) ((incM (Q.getD n 0) L).foldl (bfsStep (Q.getD n 0)) (o, Q)).1 ((incM (Q.getD n 0) L).foldl (bfsStep (Q.getD n 0)) (o, Q)).2 ∧ (∀ s ∈ ((incM (Q.getD n 0) L).foldl (bfsStep (Q.getD n 0)) (o, Q)).2, n + 1 < ((incM (Q.getD n 0) L).foldl (bfsStep (Q.getD n 0)) (o, Q)).2.length → vAt ((incM (Q.getD n 0) L).foldl (bfsStep (Q.getD n 0)) (o, Q)).1 s ≤ vAt ((incM (Q.getD n 0) L).foldl (bfsStep (Q.getD n 0)) (o, Q)).1 (((incM (Q.getD n 0) L).foldl (bfsStep (Q.getD n 0)) (o, Q)).2.getD (n + 1) 0) + 1) := by
  have h0 : Bu L E n (Q.getD n 0) [] o Q := ⟨h, hn, rfl, htop, fun x hx => by cases hx⟩
  have h1 := bfsSteps_ok hL (incM (Q.getD n 0) L) [] (o, Q) (fun x hx => by cases hx) (fun x hx => (mem_incM _ _ _).1 hx) h0
  rw [List.nil_append] at h1
  generalize (incM (Q.getD n 0) L).foldl (bfsStep (Q.getD n 0)) (o, Q) = st at h1 ⊢
  obtain ⟨b, lt, isu, top, legs⟩ := h1
  refine ⟨⟨b.len, b.low, b.zero, b.back, b.inQ, b.rng, b.nd, b.mono, ?_⟩, ?_⟩
  · intro i hi hiQ x hx
    by_cases e : i < n
    · exact b.done i e hiQ x hx
    · have e2 : i = n := by omega
      subst e2
      rw [isu]
      exact ⟨fun k => (legs x ((mem_incM _ _ _).2 ⟨hx, Or.inl k⟩)).1 k, fun k => (legs x ((mem_incM _ _ _).2 ⟨hx, Or.inr k⟩)).2 k⟩
  · intro s hs hlt
    have h2 := getD_ge17 b.mono n (n + 1) (by omega) hlt
    rw [isu] at h2
    have h3 := top s hs
    omega
theorem bf_len {L : List S32} {E o Q : List Int} {n : Nat} (h : Bf L E n o Q) : Q.length ≤ 8 := nodup_sub Q st8 h.nd (fun x hx => (mem_st8 x).2 (h.rng x hx))
theorem bf_dist {L : List S32} {E o Q : List Int} {n : Nat} (hL : ∀ x ∈ L, inSt x) (h : Bf L E n o Q) (hn : Q.length ≤ n) : Dist L E o := by
  refine ⟨h.len, h.low, h.zero, fun x hx => ?_, h.back⟩
  have pos : ∀ s ∈ Q, ∃ i, i < Q.length ∧ Q.getD i 0 = s := by
    intro s hs
    obtain ⟨i, hi, e⟩ := List.getElem_of_mem hs
    exact ⟨i, hi, by rw [List.getD_eq_getElem?_getD, List.getElem?_eq_getElem hi]; exact e⟩
  constructor
  · intro k
    obtain ⟨i, hi, e⟩ := pos _ ((h.inQ _ (hL x hx).1).1 k)
    exact (h.done i (by omega) hi x hx).1 e.symm
  · intro k
    obtain ⟨i, hi, e⟩ := pos _ ((h.inQ _ (hL x hx).2).1 k)
    exact (h.done i (by omega) hi x hx).2 e.symm
theorem start_bf (L : List S32) (E : List Int) (hE : ∀ s ∈ E, st7 s) (hn : E.Nodup) : Bf L E 0 (start17 E) E := by
  have hv := vAt_start E
  have hin : ∀ s, st7 s → (0 ≤ vAt (start17 E) s ↔ s ∈ E) := by
    intro s hs
    rw [hv s hs]
    by_cases e : E.contains s = true
    · rw [if_pos e]; exact ⟨fun _ => by simpa using e, fun _ => by omega⟩
    · rw [if_neg e]; exact ⟨fun h => by omega, fun h => absurd (List.contains_iff_mem.2 h) e⟩
  have lv := start_lv L E
  refine ⟨lv.len, lv.low, lv.zero, lv.back, hin, hE, hn, ?_, fun i hi => by omega⟩
  refine List.Pairwise.imp_of_mem (R := fun _ _ => True) ?_ (List.pairwise_of_forall (fun _ _ => trivial))
  intro a b ha hb _
  rw [(lv.zero a (hE a ha)).2 ha, (lv.zero b (hE b hb)).2 hb]
  exact Int.le_refl _

theorem atIdx_ok (u : Int) (L : List S32) : ∀ (d i : Nat), i + d = L.length → (∀ v ∈ atIdx u (L.drop i) (i : Int), 0 ≤ v ∧ v < (L.length : Int)) ∧ (atIdx u (L.drop i) (i : Int)).map (fun v => L.getD v.toNat z32) = incM u (L.drop i) ∧ (atIdx u (L.drop i) (i : Int)).length ≤ d
  | 0, i, h => by
    rw [List.drop_eq_nil_of_le (by omega)]
    exact ⟨fun v hv => (by cases hv), rfl, Nat.le_refl _⟩
  | d + 1, i, h => by
    obtain ⟨a, b, c⟩ := atIdx_ok u L d (i + 1) (by omega)
    have e : ((i + 1 : Nat) : Int) = (i : Int) + 1 := by omega
    rw [e] at a b c
    rw [getD_drop L i z32 (by omega)]
    unfold incM at b ⊢
    rw [List.filter_cons, atIdx]
    by_cases c0 : (L.getD i z32).f0 = u
    · rw [if_pos c0, if_pos (show (!notAt u (L.getD i z32)) = true by simp only [notAt, c0]; simp)]
      refine ⟨fun v hv => ?_, by rw [List.map_cons, b, Int.toNat_natCast], by rw [List.length_cons]; omega⟩
      rcases List.mem_cons.1 hv with rfl | hv
      · omega
      · exact a v hv
    · rw [if_neg c0]
      by_cases c1 : (L.getD i z32).f1 = u
      · rw [if_pos c1, if_pos (show (!notAt u (L.getD i z32)) = true by simp only [notAt, c1]; simp)]
        refine ⟨fun v hv => ?_, by rw [List.map_cons, b, Int.toNat_natCast], by rw [List.length_cons]; omega⟩
        rcases List.mem_cons.1 hv with rfl | hv
        · omega
        · exact a v hv
      · rw [if_neg c1, if_neg (show ¬ (!notAt u (L.getD i z32)) = true by simp only [notAt, c0, c1]; simp)]
        exact ⟨a, b, by omega⟩
theorem im_steps_l0 (L : List S32) {E : List Int} (hE : ∀ s ∈ E, st7 s) (hl : E.length ≤ 4096) (R : List Int) : ∀ (d i : Nat) (o : List Int), i + d = E.length → o.length = 8 →
    Evn (fun k => impl_stepsFrom.l1 k L (markE o (E.drop i)) E 0) R → Evn (fun k => impl_stepsFrom.l0 k L o E E (E.length : Int) (i : Int)) R := by
  intro d
  induction d with
  | zero =>
    intro i o h _ h0
    refine Evn.step ?_
    have h1 : ¬ (i : Int) < (E.length : Int) := by omega
    simp only [impl_stepsFrom.l0, if_neg h1]
    rw [List.drop_eq_nil_of_le (by omega)] at h0
    exact h0
  | succ d ih =>
    intro i o h ho h0
    refine Evn.step ?_
    have h1 : (i : Int) < (E.length : Int) := by omega
    have h2 : 0 ≤ (i : Int) := by omega
    have hs := hE _ (getD_mem17 E i (by omega))
    have h3 : 0 ≤ E.getD i 0 := hs.1
    have h4 : E.getD i 0 < (o.length : Int) := by have := hs.2; omega
    rw [getD_drop E i 0 (by omega)] at h0
    simp only [impl_stepsFrom.l0, if_pos h1, if_pos h2, rd, Int.toNat_natCast, if_pos h3, if_pos h4, wrap_succ (show i < 4611686018427387904 by omega)]
    exact ih (i + 1) _ (by omega) (by rw [List.length_set]; exact ho) h0
theorem im_steps_l2 (L : List S32) (hL : ∀ x ∈ L, inSt x) {u : Int} (hu : st7 u) (n : Nat) (hn : n ≤ 4096) (X : List Int) (hX : ∀ v ∈ X, 0 ≤ v ∧ v < (L.length : Int)) (hXu : ∀ x ∈ X.map (fun v => L.getD v.toNat z32), x.f0 = u ∨ x.f1 = u) (hXl : X.length ≤ 4096) (R : List Int) : ∀ (d j : Nat) (o Q : List Int), j + d = X.length → o.length = 8 → Q.length ≤ 8 + j → n < Q.length → Q.getD n 0 = u → (∀ s, st7 s → -1 ≤ vAt o s ∧ vAt o s ≤ 8 + (j : Int)) →
    Evn (fun k => impl_stepsFrom.l1 k L (((X.drop j).map (fun v => L.getD v.toNat z32)).foldl (bfsStep u) (o, Q)).1 (((X.drop j).map (fun v => L.getD v.toNat z32)).foldl (bfsStep u) (o, Q)).2 ((n + 1 : Nat) : Int)) R → Evn (fun k => impl_stepsFrom.l2 k L o Q (n : Int) X (X.length : Int) (j : Int)) R := by
  intro d
  induction d with
  | zero =>
    intro j o Q h _ _ _ _ _ h0
    refine Evn.step ?_
    have h1 : ¬ (j : Int) < (X.length : Int) := by omega
    simp only [impl_stepsFrom.l2, if_neg h1, wrap_succ (show n < 4611686018427387904 by omega)]
    rw [List.drop_eq_nil_of_le (by omega)] at h0
    exact h0
  | succ d ih =>
    intro j o Q h ho hQ hnQ hq hb h0
    refine Evn.step ?_
    have h1 : (j : Int) < (X.length : Int) := by omega
    have h2 : 0 ≤ (j : Int) := by omega
    have hm := getD_mem17 X j (by omega)
    have hv := hX _ hm
    have hxu := hXu _ (List.mem_map_of_mem hm)
    rw [getD_drop X j 0 (by omega), List.map_cons, List.foldl_cons] at h0
    generalize hvd : X.getD j 0 = v at hv hxu h0
    have h3 : 0 ≤ v := hv.1
    have h4 : v < (L.length : Int) := hv.2
    have hx : L.getD v.toNat z32 ∈ L := by rw [List.getD_eq_getElem?_getD, List.getElem?_eq_getElem (show v.toNat < L.length by omega)]; exact List.getElem_mem _
    have hin := hL _ hx
    generalize hxd : L.getD v.toNat z32 = x at hxu h0 hx hin
    have h5 : 0 ≤ (n : Int) := by omega
    have h6 : (n : Int) < (Q.length : Int) := by omega
    have i0 := hin.1
    have i1 := hin.2
    have u0 := hu.1
    have u7 := hu.2
    have ht : st7 (x.f0 + x.f1 - u) := by
      rcases hxu with e | e
      · rw [show x.f0 + x.f1 - u = x.f1 by omega]; exact i1
      · rw [show x.f0 + x.f1 - u = x.f0 by omega]; exact i0
    have hw : wrap64 (wrap64 (x.f0 + x.f1) - u) = x.f0 + x.f1 - u := by
      rw [wrap_id (x := x.f0 + x.f1) (by omega) (by omega)]
      exact wrap_id (by omega) (by omega)
    have h7 : 0 ≤ x.f0 + x.f1 - u := ht.1
    have h8 : x.f0 + x.f1 - u < (o.length : Int) := by have := ht.2; omega
    have h9 : u < (o.length : Int) := by omega
    have h10 : Q.length < 17592186044416 := by omega
    have hbu := hb u hu
    have hvo : o.getD u.toNat 0 = vAt o u := rfl
    have hw2 : wrap64 (vAt o u + 1) = vAt o u + 1 := wrap_id (by omega) (by omega)
    simp only [impl_stepsFrom.l2, if_pos h1, if_pos h2, rd, rd_T32, Int.toNat_natCast, hvd, if_pos h3, if_pos h4, hxd, if_pos h5, if_pos h6, hq, hw, if_pos h7, if_pos h8, if_pos hu.1, if_pos h9, if_pos h10, hvo, hw2, wrap_succ (show j < 4611686018427387904 by omega)]
    clear hw hw2
    refine Evn.ite (fun c => ?_) (fun c => ?_)
    · have e : bfsStep u (o, Q) x = (o.set (x.f0 + x.f1 - u).toNat (vAt o u + 1), Q ++ [x.f0 + x.f1 - u]) := by unfold bfsStep; rw [if_pos (show vAt (o, Q).1 (x.f0 + x.f1 - u) < 0 from c)]
      rw [e] at h0
      refine ih (j + 1) _ _ (by omega) (by rw [List.length_set]; exact ho) (by simp only [List.length_append, List.length_singleton]; omega) (by rw [List.length_append]; omega) (by rw [getD_app17 _ _ _ hnQ]; exact hq) ?_ h0
      intro s hs
      rw [vAt_set s ht.1 hs.1 (by omega)]
      have := hb s hs
      split <;> omega
    · have e : bfsStep u (o, Q) x = (o, Q) := by unfold bfsStep; rw [if_neg (show ¬ vAt (o, Q).1 (x.f0 + x.f1 - u) < 0 from c)]
      rw [e] at h0
      refine ih (j + 1) _ _ (by omega) ho (by omega) hnQ hq ?_ h0
      intro s hs
      have := hb s hs
      omega
theorem im_steps_l1 (L : List S32) (E : List Int) (hA : Ask L E) : ∀ (D n : Nat) (o Q : List Int), n + D = 9 → Bf L E n o Q → (∀ s ∈ Q, n < Q.length → vAt o s ≤ vAt o (Q.getD n 0) + 1) →
    Evn (fun k => impl_stepsFrom.l1 k L o Q (n : Int)) (stepsM L E) := by
  have fin : ∀ (n : Nat) (o Q : List Int), Bf L E n o Q → Q.length ≤ n → Evn (fun k => impl_stepsFrom.l1 k L o Q (n : Int)) (stepsM L E) := by
    intro n o Q hb hn
    refine Evn.step ?_
    have h1 : ¬ (n : Int) < (Q.length : Int) := by omega
    simp only [impl_stepsFrom.l1, if_neg h1]
    exact (Evn.done _).eq_ (dist_uniq (bf_dist hA.inn hb hn) (stepsM_dist E hA.inn))
  intro D
  induction D with
  | zero =>
    intro n o Q h hb _
    have := bf_len hb
    exact fin n o Q hb (by omega)
  | succ D ih =>
    intro n o Q h hb ht
    by_cases c : n < Q.length
    · refine Evn.step ?_
      have h1 : (n : Int) < (Q.length : Int) := by omega
      have h2 : 0 ≤ (n : Int) := by omega
      have h8 := bf_len hb
      have hlen := hA.len
      have hu := hb.rng _ (getD_in17 Q n c)
      have ha := atIdx_ok (Q.getD n 0) L L.length 0 (by omega)
      rw [List.drop_zero] at ha
      obtain ⟨a1, a2, a3⟩ := ha
      simp only [impl_stepsFrom.l1, if_pos h1, if_pos h2, rd, Int.toNat_natCast]
      refine Evn.bind (im_legsAt (Q.getD n 0) L (by omega)) ?_
      have hr := bfsRound_ok hA.inn hb c (fun s hs => ht s hs c)
      refine im_steps_l2 L hA.inn hu n (by omega) (atIdx (Q.getD n 0) L 0) a1 (fun x hx => by rw [show ((0 : Nat) : Int) = 0 from rfl] at a2; rw [a2] at hx; exact ((mem_incM _ _ _).1 hx).2) (by rw [show ((0 : Nat) : Int) = 0 from rfl] at a3; omega) _ (atIdx (Q.getD n 0) L 0).length 0 o Q (by omega) hb.len (by omega) c rfl (fun s hs => ⟨hb.low s hs, by have := low8 hb.len hb.back s hs; omega⟩) ?_
      rw [List.drop_zero]
      rw [show ((0 : Nat) : Int) = 0 from rfl] at a2
      rw [a2]
      exact ih (n + 1) _ _ (by omega) hr.1 hr.2
    · exact fin n o Q hb (by omega)
theorem im_stepsFrom (L : List S32) (E : List Int) (hA : Ask L E) : Evn (fun k => impl_stepsFrom.f k L E) (stepsM L E) := by
  have h8 := hA.elen
  simp only [impl_stepsFrom.f, li_Repeat8, li_CloneInts E (by omega), Option.bind_some]
  refine im_steps_l0 L hA.st (by omega) _ E.length 0 _ (by omega) List.length_replicate ?_
  rw [List.drop_zero, mark_start hA.st]
  refine im_steps_l1 L E hA 9 0 _ _ rfl (start_bf L E hA.st hA.nd) ?_
  intro s hs hl
  have z := (start_lv L E).zero
  rw [(z s (hA.st s hs)).2 hs, (z _ (hA.st _ (getD_in17 E 0 hl))).2 (getD_in17 E 0 hl)]
  omega

theorem im_StepsFrom (L : List S32) (E : List Int) (hL : L.length ≤ 4194304) (hE : E.length ≤ 4194304) : Evn (fun k => impl_StepsFrom.f k L E) (stepsT L E) := by
  unfold impl_StepsFrom.f stepsT
  refine Evn.bind (im_areEntrances L E hL hE) ?_
  refine Evn.ite (fun c => ?_) (fun c => ?_)
  · rw [if_pos c]; exact Evn.bind (im_stepsFrom L E (ask_ok c)) (Evn.done _)
  · rw [if_neg c]; exact Evn.done _

theorem ev_vInts_l0 (xs ys : List Int) (e : xs = ys) : ∀ (D i : Nat), i + D = xs.length → xs.length ≤ 4611686018427387904 → Evn (fun k => laws_vInts.l0 k xs ys (i : Int)) true := by
  subst e
  intro D
  induction D with
  | zero =>
    intro i h hx
    refine Evn.step ?_
    have h1 : ¬ (i : Int) < (xs.length : Int) := by omega
    simp only [laws_vInts.l0, if_neg h1]
    exact Evn.done _
  | succ D ih =>
    intro i h hx
    refine Evn.step ?_
    have h1 : (i : Int) < (xs.length : Int) := by omega
    have h2 : 0 ≤ (i : Int) := by omega
    simp only [laws_vInts.l0, if_pos h1, if_pos h2, if_true, wrap_succ (show i < 4611686018427387904 by omega)]
    exact ih (i + 1) (by omega) hx
theorem ev_vInts (xs : List Int) (hx : xs.length ≤ 4611686018427387904) : Evn (fun k => laws_vInts.f k xs xs) true := by
  unfold laws_vInts.f
  simp only [if_true]
  exact ev_vInts_l0 xs xs rfl xs.length 0 (by omega) hx

theorem ev_vFar (x : Int) (h0 : -1 ≤ x) (h1 : x ≤ 1) : ∃ r, laws_vFar.f x = some r ∧ r ≤ 1 := by
  unfold laws_vFar.f
  by_cases c : x < 0
  · rw [if_pos c]
    refine ⟨_, rfl, ?_⟩
    rw [wrap_id (by omega) (by omega)]; omega
  · rw [if_neg c]
    exact ⟨_, rfl, h1⟩

theorem ev_vHas_l0 (xs : List Int) (x : Int) : ∀ (D i : Nat), i + D = xs.length → xs.length ≤ 4611686018427387904 → Evn (fun k => laws_vHas.l0 k xs x (i : Int)) ((xs.drop i).contains x) := by
  intro D
  induction D with
  | zero =>
    intro i h hx
    refine Evn.step ?_
    have h1 : ¬ (i : Int) < (xs.length : Int) := by omega
    simp only [laws_vHas.l0, if_neg h1]
    rw [List.drop_eq_nil_of_le (by omega)]
    exact Evn.done _
  | succ D ih =>
    intro i h hx
    refine Evn.step ?_
    have h1 : (i : Int) < (xs.length : Int) := by omega
    have h2 : 0 ≤ (i : Int) := by omega
    simp only [laws_vHas.l0, if_pos h1, if_pos h2, wrap_succ (show i < 4611686018427387904 by omega)]
    have e : rd xs (i : Int) = xs.getD i 0 := rfl
    rw [getD_drop xs i 0 (by omega), e, List.contains_cons]
    refine Evn.ite (fun c => ?_) (fun c => ?_)
    · rw [c, beq_self_eq_true, Bool.true_or]; exact Evn.done _
    · rw [beq_eq_false_iff_ne.mpr (Ne.symm c), Bool.false_or]; exact ih (i + 1) (by omega) hx
theorem ev_vHas (xs : List Int) (x : Int) (hx : xs.length ≤ 4611686018427387904) : Evn (fun k => laws_vHas.f k xs x) (xs.contains x) := by
  have h := ev_vHas_l0 xs x xs.length 0 (by omega) hx
  rw [List.drop_zero] at h
  exact h

theorem im_Rem_l0 (o : List Int) (ho : o.length = 8) : ∀ (d i b : Nat), i + d = 8 → b < 8 → Evn (fun k => impl_RemotestStation.l0 k (b : Int) (o.getD b 0) o (o.length : Int) (i : Int)) ((bestI o d i b : Nat), o.getD (bestI o d i b) 0, true) := by
  intro d
  induction d with
  | zero =>
    intro i b h _
    refine Evn.step ?_
    have h1 : ¬ (i : Int) < (o.length : Int) := by omega
    simp only [impl_RemotestStation.l0, if_neg h1, bestI]
    exact Evn.done _
  | succ d ih =>
    intro i b h hb
    refine Evn.step ?_
    have h1 : (i : Int) < (o.length : Int) := by omega
    have h2 : 0 ≤ (i : Int) := by omega
    simp only [impl_RemotestStation.l0, if_pos h1, if_pos h2, rd, Int.toNat_natCast, wrap_succ (show i < 4611686018427387904 by omega), bestI]
    refine Evn.ite (fun c => ?_) (fun c => ?_)
    · simp only [if_pos c]; exact ih (i + 1) i (by omega) (by omega)
    · simp only [if_neg c]; exact ih (i + 1) b (by omega) hb
theorem im_RemotestStation (L : List S32) (E : List Int) (hL : L.length ≤ 4194304) (hE : E.length ≤ 4194304) : Evn (fun k => impl_RemotestStation.f k L E) (remM L E) := by
  unfold impl_RemotestStation.f remM
  refine Evn.bind (im_areEntrances L E hL hE) ?_
  refine Evn.ite (fun c => ?_) (fun c => ?_)
  · refine Evn.step ?_
    simp only [impl_RemotestStation.j0]
    refine Evn.ite (fun c2 => ?_) (fun c2 => ?_)
    · have c3 : ¬ (askM L E = true ∧ E.length ≠ 0) := fun h => h.2 (by have := eq_of_beq c2; omega)
      rw [if_neg c3]; exact Evn.done _
    · have c3 : askM L E = true ∧ E.length ≠ 0 := ⟨c, fun h => c2 (by rw [h]; rfl)⟩
      rw [if_pos c3]
      refine Evn.bind (im_stepsFrom L E (ask_ok c)) ?_
      have hd := ask_dist c
      generalize stepsM L E = o at hd ⊢
      refine Evn.step ?_
      have ho := hd.len
      have h1 : (0 : Int) < (o.length : Int) := by omega
      have hlow : -1 ≤ o.getD 0 0 := hd.low 0 ⟨by omega, by omega⟩
      have h := im_Rem_l0 o ho 7 1 0 (by omega) (by omega)
      simp only [impl_RemotestStation.l0, if_pos h1, if_pos (show (0 : Int) ≤ 0 by decide), rd, show (0 : Int).toNat = 0 from rfl, show wrap64 (0 + 1) = 1 by unfold wrap64; omega]
      refine Evn.ite (fun c4 => ?_) (fun c4 => ?_)
      · exact h
      · have e : o.getD 0 0 = -1 := by omega
        rw [e] at h
        exact h
  · rw [if_neg (fun h => c h.1)]
    refine Evn.step ?_
    simp only [impl_RemotestStation.j0, if_true]
    exact Evn.done _

def idxI (xs : List Int) (v : Int) : Nat → Int → Int
  | 0, _ => -1
  | d + 1, i => if v = xs.getD i.toNat 0 then i else idxI xs v d (i + 1)
theorem idxI_has (xs : List Int) (v : Int) : ∀ (d i : Nat), i + d = xs.length → decide (idxI xs v d (i : Int) ≥ 0) = (xs.drop i).contains v := by
  intro d
  induction d with
  | zero => intro i h; rw [List.drop_eq_nil_of_le (by omega)]; simp [idxI]
  | succ d ih =>
    intro i h
    rw [getD_drop xs i 0 (by omega), List.contains_cons]
    unfold idxI
    rw [Int.toNat_natCast]
    by_cases c : v = xs.getD i 0
    · rw [if_pos c, ← c]; simp
    · rw [if_neg c, show (v == xs.getD i 0) = false from by simpa using c, Bool.false_or]
      exact ih (i + 1) (by omega)
theorem li_Index_l0 (xs : List Int) (v : Int) (hx : xs.length ≤ 4194304) : ∀ (d i : Nat), i + d = xs.length → Evn (fun k => slices_Index_int_int.l0 k xs v (xs.length : Int) (i : Int)) (idxI xs v d (i : Int)) := by
  intro d
  induction d with
  | zero =>
    intro i h
    refine Evn.step ?_
    have h1 : ¬ (i : Int) < (xs.length : Int) := by omega
    simp only [slices_Index_int_int.l0, if_neg h1]
    exact Evn.done _
  | succ d ih =>
    intro i h
    refine Evn.step ?_
    have h1 : (i : Int) < (xs.length : Int) := by omega
    have h2 : 0 ≤ (i : Int) := by omega
    simp only [slices_Index_int_int.l0, if_pos h1, if_pos h2, rd, wrap_succ (show i < 4611686018427387904 by omega), idxI]
    refine Evn.ite (fun c => (Evn.done _).eq_ ?_) (fun c => (ih (i + 1) (by omega)).eq_ ?_)
    · rw [if_pos c]
    · rw [if_neg c]; rfl

theorem im_has (xs : List Int) (v : Int) (hx : xs.length ≤ 4194304) : Evn (fun k => impl_has.f k xs v) (xs.contains v) := by
  unfold impl_has.f slices_Contains_int_int.f slices_Index_int_int.f
  refine Evn.bind (Evn.bind (li_Index_l0 xs v hx xs.length 0 (by omega)) (Evn.done _)) ?_
  refine (Evn.done _).eq_ ?_
  have h := idxI_has xs v xs.length 0 (by omega)
  simpa using h

theorem rd_zero (n i : Nat) : rd (List.replicate n 0) (i : Int) ≥ 0 := by
  unfold rd
  rw [List.getD_eq_getElem?_getD, Int.toNat_natCast, List.getElem?_replicate]
  split <;> simp
theorem im_reach_l1 {L : List S32} (hL : ∀ x ∈ L, inSt x) (hn : L.length ≤ 4096) (i : Int) (R : List Bool) : ∀ (d j : Nat) (S : List Bool), j + d = L.length → S.length = 8 →
    Evn (fun k => impl_reach.l0 k L (List.replicate L.length 0) 0 ((L.drop j).foldl stepR S) (L.length : Int) (wrap64 (i + 1))) R → Evn (fun k => impl_reach.l1 k L (List.replicate L.length 0) 0 S (L.length : Int) i L (L.length : Int) (j : Int)) R := by
  intro d
  induction d with
  | zero =>
    intro j S h _ h0
    refine Evn.step ?_
    have h1 : ¬ (j : Int) < (L.length : Int) := by omega
    simp only [impl_reach.l1, if_neg h1]
    rw [List.drop_eq_nil_of_le (by omega)] at h0
    exact h0
  | succ d ih =>
    intro j S h hS h0
    refine Evn.step ?_
    have h1 : (j : Int) < (L.length : Int) := by omega
    have h2 : 0 ≤ (j : Int) := by omega
    have h3 : (j : Int) < ((List.replicate L.length (0 : Int)).length : Int) := by rw [List.length_replicate]; exact h1
    have h4 := rd_zero L.length j
    have hx : L.getD j z32 ∈ L := by rw [List.getD_eq_getElem?_getD, List.getElem?_eq_getElem (show j < L.length by omega)]; exact List.getElem_mem _
    obtain ⟨⟨a0, a1⟩, b0, b1⟩ := hL _ hx
    have a2 : (L.getD j z32).f0 < (S.length : Int) := by omega
    have b2 : (L.getD j z32).f1 < (S.length : Int) := by omega
    rw [getD_drop L j z32 (by omega), List.foldl_cons] at h0
    simp only [impl_reach.l1, if_pos h1, if_pos h2, if_pos h3, if_pos h4, rd_T32, Int.toNat_natCast, if_pos a0, if_pos a2, if_pos b0, if_pos b2, wrap_succ (show j < 4611686018427387904 by omega)]
    refine Evn.ite (fun c => ?_) (fun c => ?_)
    · have e : stepR S (L.getD j z32) = (S.set (L.getD j z32).f0.toNat true).set (L.getD j z32).f1.toNat true := by
        unfold stepR sAt
        rw [if_neg]
        intro h'
        simp only [rdOf] at c
        rw [h'] at c
        simp at c
      rw [e] at h0
      exact ih (j + 1) _ (by omega) (by simp [hS]) h0
    · have e : stepR S (L.getD j z32) = S := by
        unfold stepR sAt
        rw [if_pos]
        simp only [rdOf] at c
        simpa using c
      rw [e] at h0
      exact ih (j + 1) _ (by omega) hS h0
theorem im_reach_l0 {L : List S32} (hL : ∀ x ∈ L, inSt x) (hn : L.length ≤ 4096) : ∀ (d i : Nat) (S : List Bool), i + d = L.length → S.length = 8 →
    Evn (fun k => impl_reach.l0 k L (List.replicate L.length 0) 0 S (L.length : Int) (i : Int)) (roundsR L d S) := by
  intro d
  induction d with
  | zero =>
    intro i S h _
    refine Evn.step ?_
    have h1 : ¬ (i : Int) < (L.length : Int) := by omega
    simp only [impl_reach.l0, if_neg h1]
    exact Evn.done _
  | succ d ih =>
    intro i S h hS
    refine Evn.step ?_
    have h1 : (i : Int) < (L.length : Int) := by omega
    simp only [impl_reach.l0, if_pos h1]
    refine im_reach_l1 hL hn (i : Int) _ L.length 0 S (by omega) hS ?_
    rw [List.drop_zero, wrap_succ (show i < 4611686018427387904 by omega)]
    exact ih (i + 1) _ (by omega) (by rw [show L.foldl stepR S = roundR L S from rfl, roundR_len, hS])
theorem im_reach {L : List S32} (a : Int) (hL : ∀ x ∈ L, inSt x) (hn : L.length ≤ 4096) (ha : 0 ≤ a ∧ a ≤ 7) : Evn (fun k => impl_reach.f k L (List.replicate L.length 0) a 0) (reachM L a) := by
  have h8 : a < ((List.replicate 8 false).length : Int) := by simp; omega
  simp only [impl_reach.f, Option.bind_some, if_pos ha.1, if_pos h8]
  exact im_reach_l0 hL hn L.length 0 (startR a) (by omega) (startR_len a)

theorem im_xReach {L : List S32} (a : Int) (hL : ∀ x ∈ L, inSt x) (hn : L.length ≤ 4096) (ha : 0 ≤ a ∧ a ≤ 7) : Evn (fun k => impl_xReach.f k L (List.replicate L.length 0) a 0) (bitsM (reachM L a)) := by
  unfold impl_xReach.f
  refine Evn.bind (im_reach a hL hn ha) ?_
  rw [if_pos (reachM_len L a)]
  exact Evn.done _
theorem pick_all : ∀ b0 b1 b2 b3 b4 b5 b6 b7 : Bool, ∀ i : Fin 8, decide (bitsM [b0, b1, b2, b3, b4, b5, b6, b7] / 2 ^ i.val % 2 = 1) = [b0, b1, b2, b3, b4, b5, b6, b7].getD i.val false := by decide +kernel
theorem list8p {α : Type} (l : List α) (h : l.length = 8) : ∃ a b c d e f g i, l = [a, b, c, d, e, f, g, i] := by
  match l, h with
  | [a, b, c, d, e, f, g, i], _ => exact ⟨a, b, c, d, e, f, g, i, rfl⟩
theorem im_xPick (S : List Bool) (hS : S.length = 8) (i : Int) (hi : 0 ≤ i ∧ i ≤ 7) : impl_xPick.f (bitsM S) i = some (sAt S i) := by
  obtain ⟨b0, b1, b2, b3, b4, b5, b6, b7, rfl⟩ := list8p S hS
  unfold impl_xPick.f sAt
  rw [if_pos (by omega)]
  have h := pick_all b0 b1 b2 b3 b4 b5 b6 b7 ⟨i.toNat, by omega⟩
  rw [h]

def idxC (s : Int) : List (List Int) → Int → Int
  | [], _ => -1
  | c :: l, i => if c.contains s = true then i else idxC s l (i + 1)
theorem idxC_any (s : Int) : ∀ (l : List (List Int)) (i : Int), 0 ≤ i → decide (0 ≤ idxC s l i) = l.any (fun c => c.contains s)
  | [], _, _ => by simp [idxC]
  | c :: l, i, hi => by
    unfold idxC
    rw [List.any_cons]
    by_cases h : c.contains s = true
    · rw [if_pos h, h]; simp [hi]
    · rw [if_neg h, Bool.eq_false_iff.2 h, Bool.false_or]; exact idxC_any s l (i + 1) (by omega)
theorem im_inCave (s : Int) : ∀ (l : List (List Int)) (i : Int), (∀ c ∈ l, c.length ≤ 8) → Evn (fun k => inCave k s l i) (idxC s l i)
  | [], i, _ => Evn.done _
  | c :: l, i, h => by
    unfold inCave idxC
    refine Evn.bind (im_has c s (by have := h c List.mem_cons_self; omega)) ?_
    exact Evn.ite (fun e => (Evn.done _).eq_ (by rw [if_pos e])) (fun e => (im_inCave s l (i + 1) (fun d hd => h d (List.mem_cons_of_mem _ hd))).eq_ (by rw [if_neg e]))
theorem im_xInCave (s : Int) (l : List (List Int)) (h : ∀ c ∈ l, c.length ≤ 8) : Evn (fun k => impl_xInCave.f k l s) (l.any (fun c => c.contains s)) := by
  unfold impl_xInCave.f
  refine Evn.bind (im_inCave s l 0 h) ?_
  rw [idxC_any s l 0 (Int.le_refl 0)]
  exact Evn.done _

theorem im_caves_l1 {L : List S32} (S : List Bool) (hS : S.length = 8) (s : Int) (all : List (List Int)) (hal : all.length ≤ 8) (R : List (List Int)) : ∀ (d o : Nat) (zs : List Int), o + d = 8 → zs.length ≤ o →
    Evn (fun k => impl_caves.l0 k L (all ++ [zs ++ (st8.drop o).filter (fun b => sAt S b)]) (wrap64 (s + 1))) R → Evn (fun k => impl_caves.l1 k L all zs s (bitsM S) (o : Int)) R := by
  intro d
  induction d with
  | zero =>
    intro o zs h hz h0
    refine Evn.step ?_
    have h1 : ¬ (o : Int) < 8 := by omega
    have h2 : all.length < 5864062014805 := by omega
    simp only [impl_caves.l1, if_neg h1, if_pos h2]
    rw [show o = 8 by omega] at h0
    simpa [st8] using h0
  | succ d ih =>
    intro o zs h hz h0
    refine Evn.step ?_
    have h1 : (o : Int) < 8 := by omega
    have h2 : zs.length < 17592186044416 := by omega
    simp only [impl_caves.l1, if_pos h1, im_xPick S hS (o : Int) (by omega), Option.bind_some, if_pos h2, wrap_succ (show o < 4611686018427387904 by omega)]
    rw [st8_drop o (by omega), List.filter_cons] at h0
    refine Evn.ite (fun c => ?_) (fun c => ?_)
    · rw [if_pos c] at h0
      refine ih (o + 1) (zs ++ [(o : Int)]) (by omega) (by simp; omega) ?_
      rw [List.append_assoc]
      exact h0
    · rw [if_neg c] at h0
      exact ih (o + 1) zs (by omega) (by omega) h0
theorem im_caves_l0 {L : List S32} (hL : ∀ x ∈ L, inSt x) (hn : L.length ≤ 4096) : ∀ (d s : Nat) (all : List (List Int)), s + d = 8 → all.length ≤ s → (∀ c ∈ all, c.length ≤ 8) →
    Evn (fun k => impl_caves.l0 k L all (s : Int)) ((st8.drop s).foldl (addCave L) all) := by
  intro d
  induction d with
  | zero =>
    intro s all h _ _
    refine Evn.step ?_
    have h1 : ¬ (s : Int) < 8 := by omega
    simp only [impl_caves.l0, if_neg h1]
    rw [show s = 8 by omega]
    exact Evn.done _
  | succ d ih =>
    intro s all h ha hc
    refine Evn.step ?_
    have h1 : (s : Int) < 8 := by omega
    have hs : 0 ≤ (s : Int) ∧ (s : Int) ≤ 7 := by omega
    simp only [impl_caves.l0, if_pos h1]
    refine Evn.bind (im_legsAt (s : Int) L (by omega)) ?_
    rw [st8_drop s (by omega), List.foldl_cons]
    have hskip : (noLeg L s || all.any (fun c => c.contains (s : Int))) = true → Evn (fun k => impl_caves.j1 k L all (s : Int) (s : Int) true) ((st8.drop (s + 1)).foldl (addCave L) (addCave L all s)) := by
      intro e
      refine Evn.step ?_
      simp only [impl_caves.j1, if_true, wrap_succ (show s < 4611686018427387904 by omega)]
      unfold addCave
      rw [if_pos e]
      exact ih (s + 1) all (by omega) (by omega) hc
    have hnew : (noLeg L s || all.any (fun c => c.contains (s : Int))) = false → Evn (fun k => impl_caves.j1 k L all (s : Int) (s : Int) false) ((st8.drop (s + 1)).foldl (addCave L) (addCave L all s)) := by
      intro e
      refine Evn.step ?_
      have h2 : 0 ≤ (L.length : Int) := by omega
      have h3 : (L.length : Int).toNat ≤ 35184372088832 := by omega
      have h4 : L.length ≤ 35184372088832 := by omega
      simp only [impl_caves.j1, Bool.false_eq_true, if_false, if_pos h2, if_pos h3, if_pos h4, Int.toNat_natCast]
      refine Evn.bind (im_xReach (s : Int) hL hn hs) ?_
      refine im_caves_l1 _ (reachM_len L s) (s : Int) all (by omega) _ 8 0 [] (by omega) (by simp) ?_
      rw [List.drop_zero, List.nil_append, wrap_succ (show s < 4611686018427387904 by omega)]
      have e2 : addCave L all s = all ++ [caveM L s] := by unfold addCave; rw [e, if_neg (by decide)]
      rw [e2]
      refine ih (s + 1) (all ++ [caveM L s]) (by omega) (by simp; omega) ?_
      intro c hcm
      rcases List.mem_append.1 hcm with h | h
      · exact hc c h
      · rw [List.mem_singleton] at h; rw [h]; exact caveM_len L s
    refine Evn.ite (fun c => ?_) (fun c => ?_)
    · exact hskip (by rw [(atIdx_none (s : Int) L 0).1 c]; rfl)
    · have hno : noLeg L s = false := Bool.eq_false_iff.2 fun h => c ((atIdx_none (s : Int) L 0).2 h)
      refine Evn.bind (im_xInCave (s : Int) all hc) ?_
      rw [hno, Bool.false_or] at hskip hnew
      cases e : all.any (fun c => c.contains (s : Int))
      · exact hnew e
      · exact hskip e
theorem im_caves {L : List S32} (hL : ∀ x ∈ L, inSt x) (hn : L.length ≤ 4096) : Evn (fun k => impl_caves.f k L) (cavesM L) := by
  have h := im_caves_l0 hL hn 8 0 [] (by omega) (by simp) (by simp)
  simpa [impl_caves.f, cavesM] using h

theorem idx17 (p : S32 → Bool) : ∀ (l : List S32) (i : Nat), (idxP32 p l (i : Int) = -1 ∧ ∀ x ∈ l, p x = false) ∨ ∃ j : Nat, j < l.length ∧ idxP32 p l (i : Int) = ((i + j : Nat) : Int) ∧ (∀ x ∈ l.take j, p x = false) ∧ p (l.getD j z32) = true
  | [], i => Or.inl ⟨rfl, by simp⟩
  | x :: l, i => by
    rw [idxP32]
    by_cases c : p x = true
    · rw [if_pos c]
      exact Or.inr ⟨0, by simp, by simp, by simp, by simpa using c⟩
    · rw [if_neg c]
      have e : ((i : Int) + 1) = ((i + 1 : Nat) : Int) := by omega
      rw [e]
      have hx : p x = false := Bool.eq_false_iff.2 c
      rcases idx17 p l (i + 1) with ⟨h1, h2⟩ | ⟨j, h1, h2, h3, h4⟩
      · refine Or.inl ⟨h1, fun y hy => ?_⟩
        rcases List.mem_cons.1 hy with rfl | hy
        · exact hx
        · exact h2 y hy
      · refine Or.inr ⟨j + 1, by simp; omega, by rw [h2]; congr 1; omega, fun y hy => ?_, by simpa using h4⟩
        rw [List.take_succ_cons] at hy
        rcases List.mem_cons.1 hy with rfl | hy
        · exact hx
        · exact h3 y hy
theorem take_getL17 (l : List S32) (i : Nat) (h : i < l.length) : l.take (i + 1) = l.take i ++ [l.getD i z32] := by
  rw [List.take_add_one, List.getD_eq_getElem?_getD, List.getElem?_eq_getElem h]; rfl
theorem im_rest_l0 (s : Int) (L : List S32) (hn : L.length ≤ 4096) : ∀ (d j i : Nat) (X : List S32), j + d = L.length → i ≤ j → X.length = L.length → X.take i = (L.take j).filter (notAt s) → X.drop j = L.drop j →
    Evn (fun k => impl_Leg_49.l0 k X s (i : Int) (j : Int)) (restM L s) := by
  intro d
  induction d with
  | zero =>
    intro j i X h hij hX hi hj
    refine Evn.step ?_
    have h1 : ¬ (j : Int) < (X.length : Int) := by omega
    have h2 : 0 ≤ (i : Int) := by omega
    have h3 : (i : Int) ≤ (X.length : Int) := by omega
    simp only [impl_Leg_49.l0, if_neg h1, if_pos h2, if_pos h3, Int.toNat_natCast]
    refine (Evn.done _).eq_ ?_
    rw [hi, List.take_of_length_le (by omega)]
    rfl
  | succ d ih =>
    intro j i X h hij hX hi hj
    refine Evn.step ?_
    have h1 : (j : Int) < (X.length : Int) := by omega
    have h2 : 0 ≤ (j : Int) := by omega
    have h3 : 0 ≤ (i : Int) := by omega
    have h4 : (i : Int) < (X.length : Int) := by omega
    have hx : X.getD j z32 = L.getD j z32 := by
      have e := congrArg (fun l => l.getD 0 z32) hj
      simpa [List.getD_eq_getElem?_getD, List.getElem?_drop] using e
    have hj' : X.drop (j + 1) = L.drop (j + 1) := by
      have e := congrArg (fun l => l.drop 1) hj
      simpa [List.drop_drop] using e
    have ht := take_getL17 L j (by omega)
    simp only [impl_Leg_49.l0, if_pos h1, if_pos h2, if_pos h3, if_pos h4, impl_xAtSt.f, Option.bind_some, rd_T32, Int.toNat_natCast, wrap_succ (show j < 4611686018427387904 by omega), wrap_succ (show i < 4611686018427387904 by omega)]
    refine Evn.ite (fun c => ?_) (fun c => ?_)
    · refine ih (j + 1) i X (by omega) (by omega) hX ?_ hj'
      rw [ht, List.filter_append, hi]
      have e : notAt s (L.getD j z32) = false := by
        rw [← hx]
        simp only [Bool.or_eq_true] at c
        have c' : (X.getD j z32).f0 = s ∨ (X.getD j z32).f1 = s := c.imp (fun h => of_decide_eq_true h) (fun h => of_decide_eq_true h)
        clear c
        generalize X.getD j z32 = y at c' ⊢
        unfold notAt
        rcases c' with c | c <;> simp [c]
      simp only [List.filter_cons, e, Bool.false_eq_true, if_false, List.filter_nil, List.append_nil]
    · refine ih (j + 1) (i + 1) _ (by omega) (by omega) (by rw [List.length_set, hX]) ?_ ?_
      · have e : notAt s (L.getD j z32) = true := by
          rw [← hx]
          simp only [Bool.or_eq_true, not_or] at c
          have c1 : ¬ (X.getD j z32).f0 = s := fun h => c.1 (decide_eq_true h)
          have c2 : ¬ (X.getD j z32).f1 = s := fun h => c.2 (decide_eq_true h)
          clear c
          generalize X.getD j z32 = y at c1 c2 ⊢
          simp [notAt, c1, c2]
        rw [ht, List.filter_append, ← hi]
        simp only [List.filter_cons, e, if_true, List.filter_nil]
        rw [take_getL17 _ i (by rw [List.length_set]; omega), List.take_set_of_le (Nat.le_refl _)]
        congr 1
        rw [List.getD_eq_getElem?_getD, List.getElem?_set_self (by omega), ← hx]
        rfl
      · rw [List.drop_set_of_lt (by omega)]
        exact hj'
theorem im_rest (s : Int) (L : List S32) (hn : L.length ≤ 4096) : Evn (fun k => impl_Leg_49.f k L s) (restM L s) := by
  simp only [impl_Leg_49.f, impl_xIdxSt.f, Option.bind_some]
  have hp : ∀ x : S32, (decide (x.f0 = s) || decide (x.f1 = s)) = false → notAt s x = true := fun x h => by unfold notAt; rw [h]; rfl
  have hp' : ∀ x : S32, (decide (x.f0 = s) || decide (x.f1 = s)) = true → notAt s x = false := fun x h => by unfold notAt; rw [h]; rfl
  rcases idx17 (fun x => decide (x.f0 = s) || decide (x.f1 = s)) L 0 with ⟨h1, h2⟩ | ⟨j, h1, h2, h3, h4⟩
  · have h1' : idxP32 (fun x => decide (x.f0 = s) || decide (x.f1 = s)) L 0 = -1 := h1
    rw [h1']
    refine Evn.ite (fun _ => (Evn.done _).eq_ ?_) (fun c => absurd rfl c)
    unfold restM
    rw [List.filter_eq_self.2 fun x hx => hp x (h2 x hx)]
  · have h2' : idxP32 (fun x => decide (x.f0 = s) || decide (x.f1 = s)) L 0 = (j : Int) := by rw [Nat.zero_add] at h2; exact h2
    rw [h2']
    refine Evn.ite (fun c => absurd c (by omega)) (fun _ => ?_)
    rw [wrap_succ (show j < 4611686018427387904 by omega)]
    refine im_rest_l0 s L hn (L.length - (j + 1)) (j + 1) j L (by omega) (by omega) rfl ?_ rfl
    rw [take_getL17 L j h1, List.filter_append, List.filter_eq_self.2 fun x hx => hp x (h3 x hx)]
    simp only [List.filter_cons, hp' _ h4, Bool.false_eq_true, if_false, List.filter_nil, List.append_nil]

theorem im_CloneLegs (xs : List S32) (hx : xs.length ≤ 4194304) : impl_Leg_50.f xs = some xs := by
  unfold impl_Leg_50.f
  rw [if_pos (by omega)]

theorem im_together {L : List S32} (a b : Int) (hL : ∀ x ∈ L, inSt x) (hn : L.length ≤ 4096) (ha : 0 ≤ a ∧ a ≤ 7) (hb : 0 ≤ b ∧ b ≤ 7) : Evn (fun k => impl_together.f k L a b) (sAt (reachM L a) b) := by
  have h2 : 0 ≤ (L.length : Int) := by omega
  have h3 : (L.length : Int).toNat ≤ 35184372088832 := by omega
  have h4 : L.length ≤ 35184372088832 := by omega
  simp only [impl_together.f, if_pos h2, if_pos h3, if_pos h4, Int.toNat_natCast]
  refine Evn.bind (im_xReach a hL hn ha) ?_
  simp only [im_xPick _ (reachM_len L a) b hb, Option.bind_some]
  exact Evn.done _

def restCut (R : List S32) : List Int → Bool
  | [] => false
  | f :: os => os.any (fun o => !sAt (reachM R f) o)
theorem im_isCut_some {R : List S32} (hR : ∀ x ∈ R, inSt x) (hn : R.length ≤ 4096) (s f : Int) (hf : 0 ≤ f ∧ f ≤ 7) (C : List Int) (hC : ∀ b ∈ C, 0 ≤ b ∧ b ≤ 7) (hl : C.length ≤ 8) : ∀ (d i : Nat), i + d = C.length →
    Evn (fun k => impl_isCut.l0 k s R f C (C.length : Int) (i : Int)) (((C.drop i).filter (fun o => decide (o ≠ s))).any (fun o => !sAt (reachM R f) o)) := by
  intro d
  induction d with
  | zero =>
    intro i h
    refine Evn.step ?_
    have h1 : ¬ (i : Int) < (C.length : Int) := by omega
    simp only [impl_isCut.l0, if_neg h1]
    rw [List.drop_eq_nil_of_le (by omega)]
    exact Evn.done _
  | succ d ih =>
    intro i h
    refine Evn.step ?_
    have h1 : (i : Int) < (C.length : Int) := by omega
    have h2 : 0 ≤ (i : Int) := by omega
    have h3 : ¬ f < 0 := by omega
    have hx := hC _ (getD_mem17 C i (by omega))
    rw [getD_drop C i 0 (by omega), List.filter_cons]
    simp only [impl_isCut.l0, if_pos h1, if_pos h2, if_neg h3, rd, Int.toNat_natCast, wrap_succ (show i < 4611686018427387904 by omega)]
    refine Evn.ite (fun c => ?_) (fun c => ?_)
    · rw [if_neg (by simpa using c)]
      exact ih (i + 1) (by omega)
    · rw [if_pos (by simpa using c), List.any_cons]
      refine Evn.bind (im_together f _ hR hn hf hx) ?_
      refine Evn.ite (fun e => ?_) (fun e => ?_)
      · rw [e]; exact ih (i + 1) (by omega)
      · rw [Bool.eq_false_iff.2 e]; exact Evn.done _
theorem im_isCut_none {R : List S32} (hR : ∀ x ∈ R, inSt x) (hn : R.length ≤ 4096) (s : Int) (C : List Int) (hC : ∀ b ∈ C, 0 ≤ b ∧ b ≤ 7) (hl : C.length ≤ 8) : ∀ (d i : Nat), i + d = C.length →
    Evn (fun k => impl_isCut.l0 k s R (-1) C (C.length : Int) (i : Int)) (restCut R ((C.drop i).filter (fun o => decide (o ≠ s)))) := by
  intro d
  induction d with
  | zero =>
    intro i h
    refine Evn.step ?_
    have h1 : ¬ (i : Int) < (C.length : Int) := by omega
    simp only [impl_isCut.l0, if_neg h1]
    rw [List.drop_eq_nil_of_le (by omega)]
    exact Evn.done _
  | succ d ih =>
    intro i h
    refine Evn.step ?_
    have h1 : (i : Int) < (C.length : Int) := by omega
    have h2 : 0 ≤ (i : Int) := by omega
    have h3 : (-1 : Int) < 0 := by omega
    have hx := hC _ (getD_mem17 C i (by omega))
    rw [getD_drop C i 0 (by omega), List.filter_cons]
    simp only [impl_isCut.l0, if_pos h1, if_pos h2, if_pos h3, rd, Int.toNat_natCast, wrap_succ (show i < 4611686018427387904 by omega)]
    refine Evn.ite (fun c => ?_) (fun c => ?_)
    · rw [if_neg (by simpa using c)]
      exact ih (i + 1) (by omega)
    · rw [if_pos (by simpa using c), restCut]
      exact im_isCut_some hR hn s _ hx C hC hl d (i + 1) (by omega)
theorem im_isCut {L : List S32} (hL : ∀ x ∈ L, inSt x) (hn : L.length ≤ 4096) (s : Int) (C : List Int) (hC : ∀ b ∈ C, 0 ≤ b ∧ b ≤ 7) (hl : C.length ≤ 8) : Evn (fun k => impl_isCut.f k L C s) (cutM L C s) := by
  simp only [impl_isCut.f, im_CloneLegs L (by omega), Option.bind_some]
  refine Evn.bind (im_rest s L hn) ?_
  have h := im_isCut_none (restM_in hL s) (Nat.le_trans (List.length_filter_le _ _) hn) s C hC hl C.length 0 (by omega)
  rw [List.drop_zero] at h
  refine Evn.eq_ h ?_
  unfold cutM restCut
  cases C.filter (fun o => decide (o ≠ s)) <;> rfl

theorem im_Cut_l1 {L : List S32} (hL : ∀ x ∈ L, inSt x) (hn : L.length ≤ 4096) (AC : List (List Int)) (i : Nat) (c : List Int) (hc : ∀ b ∈ c, 0 ≤ b ∧ b ≤ 7) (hl : c.length ≤ 8) (R : List Int × Bool) : ∀ (d j : Nat) (out : List Int), j + d = c.length → out.length ≤ 100000 + j →
    Evn (fun k => impl_CutStations.l0 k L (out ++ (c.drop j).filter (fun s => cutM L c s)) AC (AC.length : Int) (wrap64 ((i : Int) + 1))) R → Evn (fun k => impl_CutStations.l1 k L out c AC (AC.length : Int) (i : Int) c (c.length : Int) (j : Int)) R := by
  intro d
  induction d with
  | zero =>
    intro j out h _ h0
    refine Evn.step ?_
    have h1 : ¬ (j : Int) < (c.length : Int) := by omega
    simp only [impl_CutStations.l1, if_neg h1]
    rw [List.drop_eq_nil_of_le (by omega)] at h0
    simpa using h0
  | succ d ih =>
    intro j out h ho h0
    refine Evn.step ?_
    have h1 : (j : Int) < (c.length : Int) := by omega
    have h2 : 0 ≤ (j : Int) := by omega
    have h3 : out.length < 17592186044416 := by omega
    rw [getD_drop c j 0 (by omega), List.filter_cons] at h0
    simp only [impl_CutStations.l1, if_pos h1, if_pos h2, if_pos h3, rd, Int.toNat_natCast, wrap_succ (show j < 4611686018427387904 by omega)]
    refine Evn.bind (im_isCut hL hn _ c hc hl) ?_
    refine Evn.ite (fun e => ?_) (fun e => ?_)
    · rw [if_pos e] at h0
      refine ih (j + 1) _ (by omega) (by simp; omega) ?_
      rw [List.append_assoc]
      exact h0
    · rw [if_neg e] at h0
      exact ih (j + 1) out (by omega) (by omega) h0
theorem im_Cut_l0 {L : List S32} (hL : ∀ x ∈ L, inSt x) (hn : L.length ≤ 4096) (AC : List (List Int)) (hA : AC.length ≤ 8) (hAC : ∀ c ∈ AC, (∀ b ∈ c, 0 ≤ b ∧ b ≤ 7) ∧ c.length ≤ 8) : ∀ (d i : Nat) (out : List Int), i + d = AC.length → out.length ≤ 8 * i →
    Evn (fun k => impl_CutStations.l0 k L out AC (AC.length : Int) (i : Int)) ((((AC.drop i).foldl (fun out c => out ++ cutsOf L c) out).mergeSort fun x y => decide (x ≤ y)), true) := by
  intro d
  induction d with
  | zero =>
    intro i out h ho
    refine Evn.step ?_
    have h1 : ¬ (i : Int) < (AC.length : Int) := by omega
    have h2 : out.length < 4611686018427387904 := by omega
    simp only [impl_CutStations.l0, if_neg h1, slices_Sort_int_int.f, if_pos h2, Option.bind_some]
    rw [List.drop_eq_nil_of_le (by omega)]
    exact Evn.done _
  | succ d ih =>
    intro i out h ho
    refine Evn.step ?_
    have h1 : (i : Int) < (AC.length : Int) := by omega
    have h2 : 0 ≤ (i : Int) := by omega
    have hm : AC.getD i [] ∈ AC := by rw [List.getD_eq_getElem?_getD, List.getElem?_eq_getElem (show i < AC.length by omega)]; exact List.getElem_mem _
    obtain ⟨k1, k2⟩ := hAC _ hm
    rw [getD_drop AC i [] (by omega), List.foldl_cons]
    simp only [impl_CutStations.l0, if_pos h1, if_pos h2, rd_L4, Int.toNat_natCast]
    refine im_Cut_l1 hL hn AC i _ k1 k2 _ (AC.getD i []).length 0 out (by omega) (by omega) ?_
    rw [List.drop_zero, wrap_succ (show i < 4611686018427387904 by omega)]
    refine ih (i + 1) _ (by omega) ?_
    have h3 : ((AC.getD i []).filter (fun s => cutM L (AC.getD i []) s)).length ≤ (AC.getD i []).length := List.length_filter_le _ _
    rw [List.length_append]
    omega
theorem im_CutStations (L : List S32) (hx : L.length ≤ 4194304) : Evn (fun k => impl_CutStations.f k L) (cutTs L) := by
  unfold impl_CutStations.f
  refine Evn.bind (im_areLegs L hx) ?_
  unfold cutTs
  refine Evn.ite (fun c => ?_) (fun c => ?_)
  · rw [if_pos c]
    have hL := goodLegs_in c
    have hn : L.length ≤ 4096 := by have := goodLegs_len c; omega
    refine Evn.bind (im_caves hL hn) ?_
    have ok := cavesM_ok hL
    have h8 : (cavesM L).length ≤ 8 := cavesM_len L
    have h := im_Cut_l0 hL hn (cavesM L) h8 (fun c hc => by
      obtain ⟨t, ht, _, rfl⟩ := ok.are c hc
      exact ⟨fun b hb => conn_in hL ht ((mem_caveM hL ht b).1 hb), caveM_len L t⟩) (cavesM L).length 0 [] (by omega) (by simp)
    rw [List.drop_zero] at h
    have e : (((cavesM L).foldl (fun out c => out ++ cutsOf L c) []).mergeSort fun x y => decide (x ≤ y)) = cutsS L := sort_cuts hL
    rw [e] at h
    exact h
  · rw [if_neg c]
    exact Evn.done _

theorem im_CavesOf {L : List S32} (hg : goodLegs L = true) : Evn (fun k => impl_CavesOf.f k L) (cavesM L, true) := by
  unfold impl_CavesOf.f
  have hn := goodLegs_len hg
  have h := im_areLegs L (by omega)
  rw [hg] at h
  refine Evn.bind h ?_
  simp only [if_true]
  exact Evn.bind (im_caves (goodLegs_in hg) (by omega)) (Evn.done _)

theorem im_Length_l0 {L : List S32} (hL : ∀ x ∈ L, inSt x) (hT : ∀ x ∈ L, 1 ≤ x.f2 ∧ x.f2 ≤ 500) (hn : L.length ≤ 4096) (a : Int) : ∀ (d i : Nat) (m : Int), i + d = L.length → 0 ≤ m → m ≤ 500 * (i : Int) → Evn (fun k => impl_caveLength.l0 k (bitsM (reachM L a)) m L (L.length : Int) (i : Int)) (m + lenM (caveM L a) (L.drop i)) := by
  intro d
  induction d with
  | zero =>
    intro i m h _ _
    refine Evn.step ?_
    have h1 : ¬ (i : Int) < (L.length : Int) := by omega
    simp only [impl_caveLength.l0, if_neg h1]
    rw [List.drop_eq_nil_of_le (by omega)]
    exact (Evn.done _).eq_ (by simp [lenM])
  | succ d ih =>
    intro i m h h0 hm
    refine Evn.step ?_
    have h1 : (i : Int) < (L.length : Int) := by omega
    have h2 : 0 ≤ (i : Int) := by omega
    have hx : L.getD i z32 ∈ L := by rw [List.getD_eq_getElem?_getD, List.getElem?_eq_getElem (show i < L.length by omega)]; exact List.getElem_mem _
    have ht := hT _ hx
    have hi := (hL _ hx).1
    rw [getD_drop L i z32 (by omega), lenM, has_caveM L a hi]
    have hw : wrap64 (m + (L.getD i z32).f2) = m + (L.getD i z32).f2 := wrap_id (by omega) (by omega)
    simp only [impl_caveLength.l0, if_pos h1, if_pos h2, rd_T32, Int.toNat_natCast, wrap_succ (show i < 4611686018427387904 by omega), hw, im_xPick _ (reachM_len L a) _ hi, Option.bind_some]
    clear hw
    refine Evn.ite (fun c => (ih (i + 1) _ (by omega) (by omega) (by omega)).eq_ ?_) (fun c => (ih (i + 1) m (by omega) h0 (by omega)).eq_ ?_)
    · rw [if_pos c]; omega
    · rw [if_neg c]; omega
theorem im_caveLength {L : List S32} (hg : goodLegs L = true) (a : Int) (ha : 0 ≤ a ∧ a ≤ 7) : Evn (fun k => impl_caveLength.f k L a) (lenM (caveM L a) L) := by
  have hL := goodLegs_in hg
  have hn := goodLegs_len hg
  have h2 : 0 ≤ (L.length : Int) := by omega
  have h3 : L.length ≤ 35184372088832 := by omega
  simp only [impl_caveLength.f, if_pos h2, Int.toNat_natCast, if_pos h3]
  refine Evn.bind (im_xReach a hL (by omega) ha) ?_
  have h := im_Length_l0 hL (okLegs_tape hg) (by omega) a L.length 0 0 (by omega) (by omega) (by omega)
  rw [List.drop_zero, Int.zero_add] at h
  exact h

theorem im_Long_l0 {L : List S32} (hg : goodLegs L = true) : ∀ (d i : Nat) (b m : Int), i + d = (cavesM L).length → Evn (fun k => impl_LongestCave.l0 k L b m (cavesM L) ((cavesM L).length : Int) (i : Int)) ((longF (((cavesM L).drop i).map (headLen L)) b m).1, (longF (((cavesM L).drop i).map (headLen L)) b m).2, decide ((longF (((cavesM L).drop i).map (headLen L)) b m).2 > 0)) := by
  have h8 := cavesM_len L
  intro d
  induction d with
  | zero =>
    intro i b m h
    refine Evn.step ?_
    have h1 : ¬ (i : Int) < ((cavesM L).length : Int) := by omega
    simp only [impl_LongestCave.l0, if_neg h1]
    rw [List.drop_eq_nil_of_le (by omega)]
    exact Evn.done _
  | succ d ih =>
    intro i b m h
    refine Evn.step ?_
    have h1 : (i : Int) < ((cavesM L).length : Int) := by omega
    have h2 : 0 ≤ (i : Int) := by omega
    have hm : (cavesM L).getD i [] ∈ cavesM L := by rw [List.getD_eq_getElem?_getD, List.getElem?_eq_getElem (show i < (cavesM L).length by omega)]; exact List.getElem_mem _
    have hc := caves_are hg _ hm
    have h3 : (0 : Int) < (((cavesM L).getD i []).length : Int) := by have := hc.pos; omega
    rw [getD_drop (cavesM L) i [] (by omega), List.map_cons, longF]
    simp only [impl_LongestCave.l0, if_pos h1, if_pos h2, rd_L4, rd, Int.toNat_natCast, if_pos h3, wrap_succ (show i < 4611686018427387904 by omega), show (0 : Int).toNat = 0 from rfl]
    refine Evn.bind (im_caveLength hg _ hc.inn) ?_
    refine Evn.ite (fun c => ?_) (fun c => ?_)
    · have c' : (headLen L ((cavesM L).getD i [])).2 > m := c
      simp only [if_pos c']
      exact ih (i + 1) _ _ (by omega)
    · have c' : ¬ (headLen L ((cavesM L).getD i [])).2 > m := c
      simp only [if_neg c']
      exact ih (i + 1) _ _ (by omega)
theorem im_LongestCave (L : List S32) (hx : L.length ≤ 4194304) : Evn (fun k => impl_LongestCave.f k L) (longT L) := by
  unfold impl_LongestCave.f longT
  refine Evn.bind (im_areLegs L hx) ?_
  refine Evn.ite (fun c => ?_) (fun c => ?_)
  · refine Evn.bind (im_caves (goodLegs_in c) (by have := goodLegs_len c; omega)) ?_
    have h := im_Long_l0 c (cavesM L).length 0 0 0 (by omega)
    rw [List.drop_zero] at h
    refine h.eq_ ?_
    by_cases hl : L.length = 0
    · rw [if_neg (fun h => h.2 hl)]
      have e : (cavesM L).map (headLen L) = [] := long_none hl
      rw [e]; rfl
    · rw [if_pos ⟨c, hl⟩]
      have h2 := (long_one c hl).2
      have e : (cavesM L).map (headLen L) = longV L := rfl
      rw [e, decide_eq_true h2]
  · rw [if_neg (fun h => c h.1)]; exact Evn.done _

theorem byts_of {l : List Int} (h : ∀ x ∈ l, (Lit.int .u8 x).wf = true) : Byts l := by
  intro x hx
  have h1 := h x hx
  simp [Lit.wf, IntKind.min, IntKind.max, IntKind.signed, IntKind.bits] at h1
  omega

/-! A cut station divides its cave. -/
def sumLen (l : List (List Int)) : Nat := (l.map List.length).sum
theorem sumLen_flat : ∀ l : List (List Int), (l.flatMap id).length = sumLen l
  | [] => rfl
  | c :: l => by rw [List.flatMap_cons, List.length_append, sumLen_flat l]; simp [sumLen]
def usedL (L : List S32) : List Int := st8.filter (fun s => !noLeg L s)
theorem mem_usedL (L : List S32) (s : Int) : s ∈ usedL L ↔ (0 ≤ s ∧ s ≤ 7) ∧ noLeg L s = false := by
  unfold usedL
  rw [List.mem_filter, mem_st8]
  simp
theorem usedL_nodup (L : List S32) : (usedL L).Nodup := rising_nodup (List.Pairwise.filter _ rising_st8)
theorem sum_caves {L : List S32} (hL : ∀ x ∈ L, inSt x) : sumLen (cavesM L) = (usedL L).length := by
  have ok := cavesM_ok hL
  have hnd : ((cavesM L).flatMap id).Nodup := nodup_flat id (fun c x h => h) _ (fun c hc => by
    obtain ⟨t, _, _, rfl⟩ := ok.are c hc
    exact rising_nodup (rising_caveM L t)) ok.apart
  have h1 : ∀ x ∈ (cavesM L).flatMap id, x ∈ usedL L := by
    intro x hx
    obtain ⟨c, hc, hxc⟩ := List.mem_flatMap.1 hx
    obtain ⟨t, ht, hnt, rfl⟩ := ok.are c hc
    have h2 := (mem_caveM hL ht x).1 hxc
    refine (mem_usedL L x).2 ⟨conn_in hL ht h2, ?_⟩
    cases hq : noLeg L x
    · rfl
    · have := conn_alone hq h2.symm
      rw [this] at hnt; rw [hnt] at hq; cases hq
  have h2 : ∀ x ∈ usedL L, x ∈ (cavesM L).flatMap id := by
    intro x hx
    obtain ⟨hx1, hx2⟩ := (mem_usedL L x).1 hx
    obtain ⟨c, hc, h3⟩ := ok.has x ((mem_st8 x).2 hx1) hx2
    exact List.mem_flatMap.2 ⟨c, hc, h3⟩
  rw [← sumLen_flat]
  exact Nat.le_antisymm (nodup_sub _ _ hnd h1) (nodup_sub _ _ (usedL_nodup L) h2)
theorem caves_len_heads {L : List S32} (hL : ∀ x ∈ L, inSt x) : (cavesM L).length = (st8.filter (headIs L)).length := by
  rw [caves_same hL]; simp [cavesS]
theorem rest_used {L : List S32} {c s : Int} (h : noLeg (restM L c) s = false) : noLeg L s = false ∧ s ≠ c := by
  have h1 : ¬ noLeg (restM L c) s = true := by rw [h]; decide
  have h2 : ∃ x ∈ restM L c, notAt s x = false := by
    apply Classical.byContradiction
    intro hn
    apply h1
    unfold noLeg
    rw [List.all_eq_true]
    intro x hx
    cases e : notAt s x
    · exact absurd ⟨x, hx, e⟩ hn
    · rfl
  obtain ⟨x, hx, e⟩ := h2
  have hx' := List.mem_filter.1 hx
  have e1 : x.f0 = s ∨ x.f1 = s := by
    unfold notAt at e
    simp only [Bool.not_eq_false', Bool.or_eq_true, decide_eq_true_eq] at e
    exact e
  have e2 : x.f0 ≠ c ∧ x.f1 ≠ c := by
    have := hx'.2
    unfold notAt at this
    simpa using this
  refine ⟨?_, by rcases e1 with e1 | e1 <;> rw [← e1]; exact e2.1; exact e2.2⟩
  cases hq : noLeg L s
  · rfl
  · have h3 := List.all_eq_true.1 hq x hx'.1
    rw [h3] at e; cases e
theorem cut_divides {L : List S32} (hL : ∀ x ∈ L, inSt x) {c : Int} (hc : c ∈ cutsS L) :
    ((cavesM L).length : Int) < ((cavesM (restM L c)).length : Int) + ((sumLen (cavesM L) : Int) - 1 - (sumLen (cavesM (restM L c)) : Int)) := by
  have hcs := (mem_st8 c).1 (List.mem_filter.1 hc).1
  have hcut := (List.mem_filter.1 hc).2
  rw [← cut_same hL hcs] at hcut
  have hR := restM_in hL c
  obtain ⟨f, o, hf, ho, hno⟩ : ∃ f o, (f ∈ caveM L c ∧ f ≠ c) ∧ (o ∈ caveM L c ∧ o ≠ c) ∧ ¬ Conn (restM L c) f o := by
    unfold cutM at hcut
    generalize hF : (caveM L c).filter (fun o => decide (o ≠ c)) = F at hcut
    match F, hF with
    | [], _ => cases hcut
    | f :: os, hF =>
      obtain ⟨o, ho, h1⟩ := List.any_eq_true.1 hcut
      have hmf : ∀ x ∈ f :: os, x ∈ caveM L c ∧ x ≠ c := fun x hx => by
        rw [← hF] at hx
        have := List.mem_filter.1 hx
        exact ⟨this.1, by simpa using this.2⟩
      have hf := hmf f List.mem_cons_self
      have ho' := hmf o (List.mem_cons_of_mem _ ho)
      have hfi := conn_in hL hcs ((mem_caveM hL hcs f).1 hf.1)
      have hoi := conn_in hL hcs ((mem_caveM hL hcs o).1 ho'.1)
      refine ⟨f, o, hf, ho', fun hcn => ?_⟩
      rw [(reach_conn hR hfi o hoi.1).2 hcn] at h1
      cases h1
  have hcf := (mem_caveM hL hcs f).1 hf.1
  have hco := (mem_caveM hL hcs o).1 ho.1
  have hfi := conn_in hL hcs hcf
  have hoi := conn_in hL hcs hco
  rw [sum_caves hL, sum_caves hR, caves_len_heads hL, caves_len_heads hR]
  -- the representatives behind the cut: those of caves, and the stations left alone
  have hcU : c ∈ usedL L := (mem_usedL L c).2 ⟨hcs, by
    cases hq : noLeg L c
    · rfl
    · exact absurd (conn_alone hq hcf) hf.2⟩
  let B := (usedL L).filter (fun s => decide (s ≠ c) && decide ((caveM (restM L c) s).getD 0 0 = s))
  have hB : ∀ s, s ∈ B ↔ s ∈ usedL L ∧ s ≠ c ∧ (caveM (restM L c) s).getD 0 0 = s := fun s => by
    show s ∈ (usedL L).filter _ ↔ _
    rw [List.mem_filter]; simp
  have hBn : B.Nodup := List.Nodup.sublist List.filter_sublist (usedL_nodup L)
  -- how many they are
  have hcount : B.length + (usedL (restM L c)).length + 1 ≤ (st8.filter (headIs (restM L c))).length + (usedL L).length := by
    -- B without heads of the rest, the rest's used ones, and c: all apart, all used
    let A := B.filter (fun s => noLeg (restM L c) s)
    have hA : ∀ s, s ∈ A ↔ s ∈ B ∧ noLeg (restM L c) s = true := fun s => List.mem_filter
    have h1 : B.length ≤ A.length + (st8.filter (headIs (restM L c))).length := by
      have h2 := nodup_sub B (A ++ st8.filter (headIs (restM L c))) hBn (fun s hs => by
        have hs' := (hB s).1 hs
        cases hq : noLeg (restM L c) s
        · refine List.mem_append_right _ (List.mem_filter.2 ⟨(mem_st8 s).2 ((mem_usedL L s).1 hs'.1).1, ?_⟩)
          unfold headIs
          rw [hq, decide_eq_true hs'.2.2]; rfl
        · exact List.mem_append_left _ ((hA s).2 ⟨hs, hq⟩))
      rw [List.length_append] at h2
      exact h2
    have h3 : A.length + (usedL (restM L c)).length + 1 ≤ (usedL L).length := by
      have h4 := nodup_sub (c :: (A ++ usedL (restM L c))) (usedL L) (List.nodup_cons.2 ⟨fun h => by
        rcases List.mem_append.1 h with h | h
        · exact ((hB c).1 ((hA c).1 h).1).2.1 rfl
        · exact (rest_used ((mem_usedL _ _).1 h).2).2 rfl, List.nodup_append.2 ⟨List.Nodup.sublist List.filter_sublist hBn, usedL_nodup _, fun a ha b hb e => by
          have h5 := ((hA a).1 ha).2
          have h6 := ((mem_usedL _ _).1 hb).2
          rw [e] at h5; rw [h5] at h6; cases h6⟩⟩) (fun s hs => by
        rcases List.mem_cons.1 hs with rfl | hs
        · exact hcU
        · rcases List.mem_append.1 hs with h | h
          · exact ((hB s).1 ((hA s).1 h).1).1
          · have h7 := (mem_usedL _ _).1 h
            exact (mem_usedL L s).2 ⟨h7.1, (rest_used h7.2).1⟩)
      rw [List.length_cons, List.length_append] at h4
      omega
    omega
  -- two more than the others
  have hm1 := head_min hR hfi
  have hm2 := head_min hR hoi
  generalize he1 : (caveM (restM L c) f).getD 0 0 = m1 at hm1
  generalize he2 : (caveM (restM L c) o).getD 0 0 = m2 at hm2
  have c1 := (mem_caveM hR hfi m1).1 hm1.1
  have c2 := (mem_caveM hR hoi m2).1 hm2.1
  have inB : ∀ {g m : Int}, g ≠ c → Conn L c g → (0 ≤ g ∧ g ≤ 7) → Conn (restM L c) g m → (∀ b ∈ caveM (restM L c) g, m ≤ b) → m ∈ B ∧ Conn L c m := by
    intro g m hg hcg hgi hcm hmin
    have r := rest_conn hg hcm
    have hmi := conn_in hR hgi hcm
    refine ⟨(hB m).2 ⟨(mem_usedL L m).2 ⟨hmi, ?_⟩, r.2, ?_⟩, hcg.trans r.1⟩
    · cases hq : noLeg L m
      · rfl
      · exact absurd (conn_alone hq ((hcg.trans r.1).symm)) (fun e => r.2 e.symm)
    · rw [← caveM_conn hR hgi ((mem_caveM hR hgi m).2 hcm)]
      have h := head_min hR hgi
      have h8 := h.2 m ((mem_caveM hR hgi m).2 hcm)
      have h9 := hmin _ h.1
      omega
  obtain ⟨b1, l1⟩ := inB hf.2 hcf hfi c1 hm1.2
  obtain ⟨b2, l2⟩ := inB ho.2 hco hoi c2 hm2.2
  have hne : m1 ≠ m2 := fun e => hno (c1.trans (e ▸ c2.symm))
  have hH : ∀ s ∈ st8.filter (headIs L), (0 ≤ s ∧ s ≤ 7) ∧ noLeg L s = false ∧ ∀ b, Conn L s b → s ≤ b := fun s hs => by
    have h := List.mem_filter.1 hs
    have hi := (mem_st8 s).1 h.1
    exact ⟨hi, (headIs_iff hL hi).1 h.2⟩
  have hHn : (st8.filter (headIs L)).Nodup := rising_nodup (List.Pairwise.filter _ rising_st8)
  have hr0 := head_min hL hcs
  generalize (caveM L c).getD 0 0 = r0 at hr0
  have notc : ∀ s ∈ (st8.filter (headIs L)).erase r0, ¬ Conn L c s := by
    intro s hs hcn
    have h1 := hH s (List.mem_of_mem_erase hs)
    have h2 := hr0.2 s ((mem_caveM hL hcs s).2 hcn)
    have h3 := h1.2.2 r0 (hcn.symm.trans ((mem_caveM hL hcs r0).1 hr0.1))
    have h4 : s = r0 := by omega
    subst h4
    exact (List.Nodup.not_mem_erase hHn) hs
  have hfin := nodup_sub (m1 :: m2 :: (st8.filter (headIs L)).erase r0) B (List.nodup_cons.2 ⟨fun h => by
      rcases List.mem_cons.1 h with h | h
      · exact hne h
      · exact notc _ h l1, List.nodup_cons.2 ⟨fun h => notc _ h l2, List.Nodup.sublist List.erase_sublist hHn⟩⟩) (fun s hs => by
    rcases List.mem_cons.1 hs with rfl | hs
    · exact b1
    · rcases List.mem_cons.1 hs with rfl | hs
      · exact b2
      · have h1 := hH s (List.mem_of_mem_erase hs)
        have h2 := notc s hs
        have hsc : s ≠ c := fun e => h2 (e ▸ Conn.refl)
        refine (hB s).2 ⟨(mem_usedL L s).2 ⟨h1.1, h1.2.1⟩, hsc, ?_⟩
        have h := head_min hR h1.1
        have h3 := (mem_caveM hR h1.1 _).1 h.1
        have h4 := h1.2.2 _ (rest_conn hsc h3).1
        have h5 := h.2 s ((mem_caveM hR h1.1 s).2 Conn.refl)
        omega)
  have hel : (st8.filter (headIs L)).length - 1 ≤ ((st8.filter (headIs L)).erase r0).length := by
    rw [List.length_erase]; split <;> omega
  rw [List.length_cons, List.length_cons] at hfin
  omega

theorem goodLegs_rest {L : List S32} (h : goodLegs L = true) (c : Int) : goodLegs (restM L c) = true := by
  have hl := goodLegs_len h
  have h2 : (restM L c).length ≤ L.length := List.length_filter_le _ _
  simp only [goodLegs, Bool.and_eq_true, List.all_eq_true, decide_eq_true_eq] at h ⊢
  exact ⟨fun x hx => h.1 x (List.mem_filter.1 hx).1, by omega⟩
theorem caves_len8 {L : List S32} (hL : ∀ x ∈ L, inSt x) : ∀ c ∈ cavesM L, c.length ≤ 8 := by
  intro c hc
  obtain ⟨t, _, _, rfl⟩ := (cavesM_ok hL).are c hc
  exact caveM_len L t
theorem sumLen_cons (c : List Int) (l : List (List Int)) : sumLen (c :: l) = c.length + sumLen l := by simp [sumLen]
theorem cutsS_len (L : List S32) : (cutsS L).length ≤ 8 := List.length_filter_le _ _
theorem law17_l5 (l : List Int) (z : List S32) (cu : List Int) (be : List (List Int)) (ci : Int) (af : List (List Int)) (h8 : af.length ≤ 8) (hA : ∀ c ∈ af, c.length ≤ 8) (st : Int) (R : Bool) : ∀ (d j : Nat) (m : Int), j + d = af.length → 0 ≤ m → m ≤ 8 * (j : Int) →
    Evn (fun k => if wrap64 ((af.length : Int) + wrap64 (wrap64 (st - 1) - (m + (sumLen (af.drop j) : Int)))) ≤ (be.length : Int) then some false else laws_FnSteps.l2 k l z cu be true (wrap64 (ci + 1))) R → Evn (fun k => laws_FnSteps.l5 k l z cu be true ci af true st m (j : Int)) R := by
  intro d
  induction d with
  | zero =>
    intro j m h _ _ h0
    refine Evn.step ?_
    have h1 : ¬ (j : Int) < (af.length : Int) := by omega
    simp only [laws_FnSteps.l5, if_neg h1, if_true]
    rw [List.drop_eq_nil_of_le (by omega), show (sumLen ([] : List (List Int)) : Int) = 0 from rfl, Int.add_zero] at h0
    exact h0
  | succ d ih =>
    intro j m h hm hm2 h0
    refine Evn.step ?_
    have h1 : (j : Int) < (af.length : Int) := by omega
    have h2 : 0 ≤ (j : Int) := by omega
    have hc : af.getD j [] ∈ af := by rw [List.getD_eq_getElem?_getD, List.getElem?_eq_getElem (show j < af.length by omega)]; exact List.getElem_mem _
    have hc8 := hA _ hc
    rw [getD_drop af j [] (by omega), sumLen_cons] at h0
    have hw : wrap64 (m + ((af.getD j []).length : Int)) = m + ((af.getD j []).length : Int) := wrap_id (by omega) (by omega)
    simp only [laws_FnSteps.l5, if_pos h1, if_pos h2, rd_L4, Int.toNat_natCast, wrap_succ (show j < 4611686018427387904 by omega), hw]
    clear hw
    refine ih (j + 1) _ (by omega) (by omega) (by omega) ?_
    rw [show m + ((af.getD j []).length : Int) + (sumLen (af.drop (j + 1)) : Int) = m + (((af.getD j []).length + sumLen (af.drop (j + 1)) : Nat) : Int) by omega]
    exact h0
theorem law17_l4 (l : List Int) (z : List S32) (cu : List Int) (be : List (List Int)) (h8 : be.length ≤ 8) (hA : ∀ c ∈ be, c.length ≤ 8) (ci : Int) (af : List (List Int)) (R : Bool) : ∀ (d j : Nat) (m : Int), j + d = be.length → 0 ≤ m → m ≤ 8 * (j : Int) →
    Evn (fun k => laws_FnSteps.l5 k l z cu be true ci af true (m + (sumLen (be.drop j) : Int)) 0 0) R → Evn (fun k => laws_FnSteps.l4 k l z cu be true ci af true m 0 (j : Int)) R := by
  intro d
  induction d with
  | zero =>
    intro j m h _ _ h0
    refine Evn.step ?_
    have h1 : ¬ (j : Int) < (be.length : Int) := by omega
    simp only [laws_FnSteps.l4, if_neg h1]
    rw [List.drop_eq_nil_of_le (by omega), show (sumLen ([] : List (List Int)) : Int) = 0 from rfl, Int.add_zero] at h0
    exact h0
  | succ d ih =>
    intro j m h hm hm2 h0
    refine Evn.step ?_
    have h1 : (j : Int) < (be.length : Int) := by omega
    have h2 : 0 ≤ (j : Int) := by omega
    have hc : be.getD j [] ∈ be := by rw [List.getD_eq_getElem?_getD, List.getElem?_eq_getElem (show j < be.length by omega)]; exact List.getElem_mem _
    have hc8 := hA _ hc
    rw [getD_drop be j [] (by omega), sumLen_cons] at h0
    have hw : wrap64 (m + ((be.getD j []).length : Int)) = m + ((be.getD j []).length : Int) := wrap_id (by omega) (by omega)
    simp only [laws_FnSteps.l4, if_pos h1, if_pos h2, rd_L4, Int.toNat_natCast, wrap_succ (show j < 4611686018427387904 by omega), hw]
    clear hw
    refine ih (j + 1) _ (by omega) (by omega) (by omega) ?_
    rw [show m + ((be.getD j []).length : Int) + (sumLen (be.drop (j + 1)) : Int) = m + (((be.getD j []).length + sumLen (be.drop (j + 1)) : Nat) : Int) by omega]
    exact h0
theorem law17_l3 (l : List Int) (z : List S32) (hz : z.length ≤ 4096) (cu : List Int) (be : List (List Int)) (i : Nat) (hi : i < cu.length) (R : Bool) : ∀ (d j : Nat) (less : List S32), j + d = z.length → less.length ≤ j →
    Evn (fun k => (impl_CavesOf.f k (less ++ restM (z.drop j) (cu.getD i 0))).bind fun bt => (laws_FnSteps.l4 k l z cu be true (i : Int) bt.1 bt.2 0 0 0)) R → Evn (fun k => laws_FnSteps.l3 k l z cu be true (i : Int) less (j : Int)) R := by
  intro d
  induction d with
  | zero =>
    intro j less h _ h0
    refine Evn.step ?_
    have h1 : ¬ (j : Int) < (z.length : Int) := by omega
    simp only [laws_FnSteps.l3, if_neg h1]
    rw [List.drop_eq_nil_of_le (by omega), show restM ([] : List S32) (cu.getD i 0) = [] from rfl, List.append_nil] at h0
    exact h0
  | succ d ih =>
    intro j less h hless h0
    refine Evn.step ?_
    have h1 : (j : Int) < (z.length : Int) := by omega
    have h2 : 0 ≤ (j : Int) := by omega
    have h3 : 0 ≤ (i : Int) := by omega
    have h4 : (i : Int) < (cu.length : Int) := by omega
    have h5 : less.length < 3518437208883 := by omega
    rw [getD_drop z j z32 (by omega)] at h0
    unfold restM at h0 ih
    rw [List.filter_cons] at h0
    simp only [laws_FnSteps.l3, if_pos h1, if_pos h2, if_pos h3, if_pos h4, if_pos h5, rd, rd_T32, Int.toNat_natCast, wrap_succ (show j < 4611686018427387904 by omega)]
    refine Evn.ite (fun c => ?_) (fun c => Evn.ite (fun c2 => ?_) (fun c2 => ?_))
    · rw [if_neg (by simp only [notAt, c]; simp)] at h0
      exact ih (j + 1) less (by omega) (by omega) h0
    · rw [if_neg (by simp only [notAt, c2]; simp)] at h0
      exact ih (j + 1) less (by omega) (by omega) h0
    · rw [if_pos (by simp only [notAt, c, c2]; simp)] at h0
      refine ih (j + 1) _ (by omega) (by rw [List.length_append, List.length_singleton]; omega) ?_
      rw [List.append_assoc]
      exact h0
theorem FnSteps : laws_FnSteps.Pure := by
  intro l hl _ hb
  apply Evn.get
  have hB : Byts l := byts_of hb
  have last : Evn (fun k => (spec_DrawLongestCave.f k l).bind fun t757 => ((impl_LongestCave.f k t757).bind fun bt760 => ((spec_LongestCave.f k t757).bind fun bt763 => (if bt760.1 = bt763.1 then (if bt760.2.1 = bt763.2.1 then (some (bt760.2.2 == bt763.2.2)) else (some false)) else (some false))))) true := by
    obtain ⟨t, ht, t1⟩ := dw_DrawLongestCave hB
    refine Evn.bind ht (Evn.bind (im_LongestCave t (by omega)) (Evn.bind (sp_LongestCave t (by omega)) ?_))
    simp only [if_true, beq_self_eq_true]
    exact Evn.done _
  have l2 : ∀ z : List S32, goodLegs z = true → ∀ d i : Nat, i + d = (cutsS z).length → Evn (fun k => laws_FnSteps.l2 k l z (cutsS z) (cavesM z) true (i : Int)) true := by
    intro z hz d
    have hzl := goodLegs_len hz
    have hzi := goodLegs_in hz
    have h8 := cutsS_len z
    induction d with
    | zero =>
      intro i h
      refine Evn.step ?_
      have h1 : ¬ (i : Int) < ((cutsS z).length : Int) := by omega
      simp only [laws_FnSteps.l2, if_neg h1]
      exact last
    | succ d ih =>
      intro i h
      refine Evn.step ?_
      have h1 : (i : Int) < ((cutsS z).length : Int) := by omega
      simp only [laws_FnSteps.l2, if_pos h1]
      refine law17_l3 l z (by omega) (cutsS z) (cavesM z) i (by omega) true z.length 0 [] (by omega) (by simp) ?_
      rw [List.drop_zero, List.nil_append]
      have hc := getD_mem17 (cutsS z) i (by omega)
      generalize (cutsS z).getD i 0 = c at hc
      have hr := goodLegs_rest hz c
      have hri := goodLegs_in hr
      refine Evn.bind (im_CavesOf hr) ?_
      refine law17_l4 l z (cutsS z) (cavesM z) (cavesM_len z) (caves_len8 hzi) (i : Int) (cavesM (restM z c)) true (cavesM z).length 0 0 (by omega) (by omega) (by omega) ?_
      rw [List.drop_zero, Int.zero_add]
      refine law17_l5 l z (cutsS z) (cavesM z) (i : Int) (cavesM (restM z c)) (cavesM_len _) (caves_len8 hri) _ true (cavesM (restM z c)).length 0 0 (by omega) (by omega) (by omega) ?_
      rw [List.drop_zero, Int.zero_add]
      have hd := cut_divides hzi hc
      have s1 : sumLen (cavesM z) ≤ 8 := by rw [sum_caves hzi]; exact List.length_filter_le _ _
      have s2 : sumLen (cavesM (restM z c)) ≤ 8 := by rw [sum_caves hri]; exact List.length_filter_le _ _
      have s3 := cavesM_len (restM z c)
      have hw : wrap64 (((cavesM (restM z c)).length : Int) + wrap64 (wrap64 ((sumLen (cavesM z) : Int) - 1) - (sumLen (cavesM (restM z c)) : Int))) = ((cavesM (restM z c)).length : Int) + (((sumLen (cavesM z) : Int) - 1) - (sumLen (cavesM (restM z c)) : Int)) := by
        rw [wrap_id (x := (sumLen (cavesM z) : Int) - 1) (by omega) (by omega), wrap_id (x := (sumLen (cavesM z) : Int) - 1 - (sumLen (cavesM (restM z c)) : Int)) (by omega) (by omega)]
        exact wrap_id (by omega) (by omega)
      simp only [hw, wrap_succ (show i < 4611686018427387904 by omega)]
      clear hw
      refine Evn.ite (fun hle => absurd hle (by omega)) (fun _ => ih (i + 1) (by omega))
  have j5 : ∀ z : List S32, Evn (fun k => laws_FnSteps.j5 k l z (cutTs z).1 (cutTs z).2 false) true := by
    intro z
    refine Evn.step ?_
    simp only [laws_FnSteps.j5, Bool.false_eq_true, if_false]
    unfold cutTs
    by_cases hg : goodLegs z = true
    · simp only [if_pos hg, if_true]
      refine Evn.bind (im_CavesOf hg) ?_
      exact l2 z hg (cutsS z).length 0 (by omega)
    · simp only [if_neg hg, Bool.false_eq_true, if_false]
      exact last
  have j4 : Evn (fun k => laws_FnSteps.j4 k l false) true := by
    refine Evn.step ?_
    simp only [laws_FnSteps.j4, Bool.false_eq_true, if_false]
    obtain ⟨z, hz, z1⟩ := dw_DrawCutStations hB
    have hr : (cutTs z).1.length ≤ 8 := by
      unfold cutTs
      split
      · exact cutsS_len z
      · exact Nat.zero_le _
    refine Evn.bind hz (Evn.bind (im_CutStations z (by omega)) (Evn.bind (sp_CutStations z (by omega)) ?_))
    simp only [bne_self_eq_false, Bool.false_eq_true, if_false]
    refine Evn.bind (ev_vInts _ (by omega)) ?_
    simp only [Bool.not_true]
    exact j5 z
  have j3 : Evn (fun k => laws_FnSteps.j3 k l) true := by
    refine Evn.step ?_
    simp only [laws_FnSteps.j3]
    obtain ⟨t, ht, t1, t2⟩ := dw_DrawRemotestStation hB
    refine Evn.bind ht (Evn.bind (im_RemotestStation t.1 t.2 (by omega) (by omega)) (Evn.bind (sp_RemotestStation t.1 t.2 (by omega) (by omega)) ?_))
    simp only [bne_self_eq_false, if_true]
    exact j4
  have l1 : ∀ (L : List S32) (E o : List Int), Dist L E o → E.length ≤ 8 → ∀ d i : Nat, i + d = 8 → Evn (fun k => laws_FnSteps.l1 k l E o (i : Int)) true := by
    intro L E o hd hE d
    have ho := hd.len
    induction d with
    | zero =>
      intro i h
      refine Evn.step ?_
      have h1 : ¬ (i : Int) < (o.length : Int) := by omega
      simp only [laws_FnSteps.l1, if_neg h1]
      exact j3
    | succ d ih =>
      intro i h
      refine Evn.step ?_
      have h1 : (i : Int) < (o.length : Int) := by omega
      have h2 : 0 ≤ (i : Int) := by omega
      simp only [laws_FnSteps.l1, if_pos h1, if_pos h2, wrap_succ (show i < 4611686018427387904 by omega)]
      refine Evn.bind (ev_vHas E (i : Int) (by omega)) ?_
      have hz : (rd o (i : Int) == 0) = E.contains (i : Int) := by
        have h3 := hd.zero (i : Int) ⟨by omega, by omega⟩
        rw [Bool.eq_iff_iff, beq_iff_eq, List.contains_iff_mem]
        exact h3
      simp only [hz, bne_self_eq_false, Bool.false_eq_true, if_false]
      exact ih (i + 1) (by omega)
  have l0 : ∀ (L : List S32) (E o : List Int), Dist L E o → (∀ x ∈ L, inSt x) → E.length ≤ 8 → L.length ≤ 4096 → ∀ d i : Nat, i + d = L.length → Evn (fun k => laws_FnSteps.l0 k l L E o (i : Int)) true := by
    intro L E o hd hL hE hn d
    have ho := hd.len
    induction d with
    | zero =>
      intro i h
      refine Evn.step ?_
      have h1 : ¬ (i : Int) < (L.length : Int) := by omega
      simp only [laws_FnSteps.l0, if_neg h1]
      exact l1 L E o hd hE 8 0 (by omega)
    | succ d ih =>
      intro i h
      refine Evn.step ?_
      have h1 : (i : Int) < (L.length : Int) := by omega
      have h2 : 0 ≤ (i : Int) := by omega
      have hx : rd_T32 L (i : Int) ∈ L := by unfold rd_T32; rw [Int.toNat_natCast, List.getD_eq_getElem?_getD, List.getElem?_eq_getElem (show i < L.length by omega)]; exact List.getElem_mem _
      have hin := hL _ hx
      have hnr := hd.near _ hx
      have a0 := hin.1.1
      have b0 := hin.2.1
      have a8 : (rd_T32 L (i : Int)).f0 < (o.length : Int) := by have := hin.1.2; omega
      have b8 : (rd_T32 L (i : Int)).f1 < (o.length : Int) := by have := hin.2.2; omega
      have la : -1 ≤ rd o (rd_T32 L (i : Int)).f0 := hd.low _ hin.1
      have lb : -1 ≤ rd o (rd_T32 L (i : Int)).f1 := hd.low _ hin.2
      have ua : rd o (rd_T32 L (i : Int)).f0 < 8 := hd.high _ hin.1
      have ub : rd o (rd_T32 L (i : Int)).f1 < 8 := hd.high _ hin.2
      have n1 : 0 ≤ rd o (rd_T32 L (i : Int)).f0 → 0 ≤ rd o (rd_T32 L (i : Int)).f1 ∧ rd o (rd_T32 L (i : Int)).f1 ≤ rd o (rd_T32 L (i : Int)).f0 + 1 := hnr.1
      have n2 : 0 ≤ rd o (rd_T32 L (i : Int)).f1 → 0 ≤ rd o (rd_T32 L (i : Int)).f0 ∧ rd o (rd_T32 L (i : Int)).f0 ≤ rd o (rd_T32 L (i : Int)).f1 + 1 := hnr.2
      simp only [laws_FnSteps.l0, if_pos h1, if_pos h2, if_pos a0, if_pos b0, if_pos a8, if_pos b8, wrap_succ (show i < 4611686018427387904 by omega)]
      generalize rd o (rd_T32 L (i : Int)).f0 = a at la ua n1 n2
      generalize rd o (rd_T32 L (i : Int)).f1 = b at lb ub n1 n2
      have hne : (decide (a < 0) != decide (b < 0)) = false := by
        have : decide (a < 0) = decide (b < 0) := decide_eq_decide.2 ⟨fun h => by omega, fun h => by omega⟩
        rw [this, bne_self_eq_false]
      obtain ⟨r, hr, r1⟩ := ev_vFar (a - b) (by omega) (by omega)
      have hw : wrap64 (a - b) = a - b := wrap_id (by omega) (by omega)
      have hr1 : ¬ r > 1 := by omega
      simp only [hne, Bool.false_eq_true, if_false, hw, hr, Option.bind_some, if_neg hr1]
      exact ih (i + 1) (by omega)
  unfold laws_FnSteps.f laws_vBig.f
  simp only [Option.bind_some]
  refine Evn.ite (fun _ => Evn.done _) (fun _ => ?_)
  obtain ⟨t, ht, t1, t2⟩ := dw_DrawStepsFrom hB
  refine Evn.bind ht ?_
  obtain ⟨L, E⟩ := t
  dsimp only at t1 t2 ⊢
  refine Evn.bind (im_StepsFrom L E (by omega) (by omega)) (Evn.bind (sp_StepsFrom L E (by omega) (by omega)) ?_)
  simp only [bne_self_eq_false, Bool.false_eq_true, if_false]
  have hlen : (stepsT L E).1.length ≤ 8 := by
    unfold stepsT
    split
    · rename_i c
      have := (ask_dist c).len
      dsimp only
      omega
    · exact Nat.zero_le _
  refine Evn.bind (ev_vInts _ (by omega)) ?_
  simp only [Bool.not_true]
  refine Evn.step ?_
  simp only [laws_FnSteps.j0, Bool.false_eq_true, if_false]
  unfold stepsT
  by_cases c : askM L E = true
  · simp only [if_pos c, if_true]
    exact l0 L E _ (ask_dist c) (ask_ok c).inn t2 (by omega) L.length 0 (by omega)
  · simp only [if_neg c, Bool.false_eq_true, if_false]
    exact j3

end Go.Proofs.YtmfidodcpbochaaGreat.Pure
