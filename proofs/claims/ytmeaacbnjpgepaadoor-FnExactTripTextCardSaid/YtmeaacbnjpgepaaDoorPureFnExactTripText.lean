/- The plain statement of FnExactTripText: its plain function returns true at every input. No condition beyond the arguments' own bounds. -/
import Derived.Test.YtmeaacbnjpgepaaDoorQFnExactTripTextx4
import Derived.Test.YtmeaacbnjpgepaaDoorAid
namespace Go.Proofs.YtmeaacbnjpgepaaDoor.Pure
open Go.RowKit Go.Proofs.YtmeaacbnjpgepaaDoorW.PrintWords Go.Proofs.YtmeaacbnjpgepaaDoorW.PrintLast Go.Proofs.YtmeaacbnjpgepaaDoor.Aid Go.Proofs.YtmeaacbnjpgepaaDoor.QFnExactTripText
set_option linter.unusedVariables false
set_option linter.unusedSimpArgs false

theorem sp_l1In (x y z : Int) : spec_l1In.f x y z = some (decide (y ≤ x ∧ x ≤ z)) := by
  unfold spec_l1In.f
  by_cases h : x ≥ y <;> simp [h] <;> omega

/-! A trip's rules. -/
def goodT (a b c d e : Int) : Bool := (decide (0 ≤ a ∧ a ≤ 5) && (decide (1 ≤ b ∧ b ≤ 12) && (decide (0 ≤ d ∧ d ≤ 999) && decide (0 ≤ e ∧ e ≤ 999)))) && (if 1 ≤ a ∧ a ≤ 3 then decide (1 ≤ c ∧ c ≤ b) && ((a == 1) == decide (e ≤ d)) else c == 0)

theorem sp_l21In (x : Int) : spec_l21In.f x = some (decide (1 ≤ x ∧ x ≤ 3)) := by
  simp only [spec_l21In.f, sp_l1In, Option.bind_some]
theorem sp_l21Time (x : Int) : spec_l21Time.f x = some (decide (0 ≤ x ∧ x ≤ 999)) := by
  simp only [spec_l21Time.f, sp_l1In, Option.bind_some]
theorem sp_l21Good (a b c d e : Int) : Evn (fun k => spec_l21Good.f k a b c d e) (goodT a b c d e) := by
  refine Evn.step ?_
  refine Evn.of fun k => ?_
  unfold goodT
  simp only [spec_l21Good.f, spec_l21Good.j0, sp_l21In, sp_l21Time, sp_l1In, Option.bind_some, ite_and]
  by_cases h1 : 0 ≤ a ∧ a ≤ 5
  · by_cases h2 : 1 ≤ b ∧ b ≤ 12
    · by_cases h3 : 0 ≤ d ∧ d ≤ 999
      · by_cases h4 : 0 ≤ e ∧ e ≤ 999
        · by_cases h5 : 1 ≤ a ∧ a ≤ 3
          · simp [h1, h2, h3, h4, h5]
          · simp [h1, h2, h3, h4, h5]
        · simp [h1, h2, h3, h4]
      · simp [h1, h2, h3]
    · simp [h1, h2]
  · simp [h1]

/-- A whole number's decimal text. -/
def numT (n : Int) : ByteArray := ⟨(Lib.itoa n).toArray⟩
theorem dg_ext (n : Nat) (h : n < 10) : (⟨#[48, 49, 50, 51, 52, 53, 54, 55, 56, 57]⟩ : ByteArray).extract n (n + 1) = ⟨#[UInt8.ofNat (48 + n)]⟩ := by
  have h2 : n = 0 ∨ n = 1 ∨ n = 2 ∨ n = 3 ∨ n = 4 ∨ n = 5 ∨ n = 6 ∨ n = 7 ∨ n = 8 ∨ n = 9 := by omega
  rcases h2 with rfl | rfl | rfl | rfl | rfl | rfl | rfl | rfl | rfl | rfl <;> rfl
theorem numT_small (n : Nat) (h : n < 10) : numT n = ⟨#[UInt8.ofNat (48 + n)]⟩ := by
  unfold numT
  rw [Lib.itoa_nonneg, Lib.decDigits, dif_pos h]
theorem numT_big (n : Nat) (h : ¬ n < 10) : numT n = numT ((n / 10 : Nat) : Int) ++ ⟨#[UInt8.ofNat (48 + n % 10)]⟩ := by
  unfold numT
  rw [Lib.itoa_nonneg, Lib.itoa_nonneg, Lib.decDigits, dif_neg h]
  apply ByteArray.ext
  simp
theorem numT_size : ∀ (k n : Nat), n < 10 ^ (k + 1) → (numT n).size ≤ k + 1
  | 0, n, h => by
    rw [numT_small n (by simpa using h)]
    exact Nat.le_refl 1
  | k + 1, n, h => by
    by_cases h1 : n < 10
    · rw [numT_small n h1]
      show 1 ≤ _
      omega
    · rw [numT_big n h1, ByteArray.size_append]
      have h2 := numT_size k (n / 10) (by rw [Nat.pow_succ] at h; omega)
      show _ + 1 ≤ _
      omega
theorem Evn.pos {α : Type} {r : α} {c : Prop} [Decidable c] {g g' : Nat → Option α} (h : c) (h' : Evn g r) : Evn (fun k => if c then g k else g' k) r := Evn.ite (fun _ => h') (fun hn => absurd h hn)
theorem sz1 (a : UInt8) : (⟨#[a]⟩ : ByteArray).size = 1 := rfl
theorem sz4 (a b c d : UInt8) : (⟨#[a, b, c, d]⟩ : ByteArray).size = 4 := rfl
theorem sz5 (a b c d e : UInt8) : (⟨#[a, b, c, d, e]⟩ : ByteArray).size = 5 := rfl
theorem sz6 (a b c d e f : UInt8) : (⟨#[a, b, c, d, e, f]⟩ : ByteArray).size = 6 := rfl
theorem sz7 (a b c d e f g : UInt8) : (⟨#[a, b, c, d, e, f, g]⟩ : ByteArray).size = 7 := rfl

theorem sp_l1Num : ∀ (n : Nat), n < 1000000 → Evn (fun k => spec_l1Num.f k (n : Int)) (numT n) := by
  intro n
  induction n using Nat.strongRecOn with
  | _ n ih =>
    intro h
    refine Evn.step ?_
    have h0 : ¬ (n : Int) < 0 := by omega
    by_cases h1 : n < 10
    · have h2 : (n : Int) < 10 := by omega
      have h3 : 0 ≤ (n : Int) := by omega
      have h4 : (n : Int) ≤ ((n + 1 : Nat) : Int) := by omega
      have h5 : ((n + 1 : Nat) : Int) ≤ 10 := by omega
      simp only [spec_l1Num.f, if_neg h0, if_pos h2, if_pos h3, wrap_succ (show n < 4611686018427387904 by omega), if_pos h4, if_pos h5, Int.toNat_natCast]
      rw [dg_ext n h1, ← numT_small n h1]
      exact Evn.done _
    · have h2 : ¬ (n : Int) < 10 := by omega
      have hd : Int.tdiv (n : Int) 10 = ((n / 10 : Nat) : Int) := rfl
      have hm : Int.tmod (n : Int) 10 = ((n % 10 : Nat) : Int) := rfl
      have hw : wrap64 ((n / 10 : Nat) : Int) = ((n / 10 : Nat) : Int) := wrap_id (by omega) (by omega)
      have hb := ih (n / 10) (by omega) (by omega)
      have hz := numT_size 5 (n / 10) (by have : (10 : Nat) ^ (5 + 1) = 1000000 := rfl; omega)
      have hq : n % 10 < 10 := by omega
      simp only [spec_l1Num.f, if_neg h0, if_neg h2, hd, hm, hw]
      refine Evn.bind hb ?_
      have g1 : 0 ≤ ((n % 10 : Nat) : Int) := by omega
      have g2 : ((n % 10 : Nat) : Int) ≤ ((n % 10 + 1 : Nat) : Int) := by omega
      have g3 : ((n % 10 + 1 : Nat) : Int) ≤ 10 := by omega
      have hx := dg_ext (n % 10) hq
      simp only [if_pos g1, wrap_succ (show n % 10 < 4611686018427387904 by omega), if_pos g2, if_pos g3, Int.toNat_natCast, hx]
      refine Evn.pos (by rw [sz1]; omega) ?_
      rw [← numT_big n h1]
      exact Evn.done _

/-- A trip's text. -/
def tripT (a b c d e : Int) : ByteArray := ((((((((stW a ++ (⟨#[32]⟩ : ByteArray)) ++ numT c) ++ (⟨#[47]⟩ : ByteArray)) ++ numT b) ++ (⟨#[32, 100, 117, 101, 32]⟩ : ByteArray)) ++ numT d) ++ (⟨#[32, 97, 116, 32]⟩ : ByteArray)) ++ numT e)
theorem stW_size6 (e : Int) (h : 0 ≤ e) (h' : e < 6) : (stW e).size ≤ 8 := by
  have h2 : e = 0 ∨ e = 1 ∨ e = 2 ∨ e = 3 ∨ e = 4 ∨ e = 5 := by omega
  rcases h2 with rfl | rfl | rfl | rfl | rfl | rfl <;> decide

theorem sp_l21Text (a : Int) (b c d e : Nat) (hb : b < 1000) (hc : c < 1000) (hd : d < 1000) (he : e < 1000) (h0 : 0 ≤ a) (h4 : a < 6) : Evn (fun k => spec_l21Text.f k a b c d e) (tripT a b c d e) := by
  have zb := numT_size 2 b hb
  have zc := numT_size 2 c hc
  have zd := numT_size 2 d hd
  have ze := numT_size 2 e he
  have za := stW_size6 a h0 h4
  have hr : ∀ y, spec_l21Words.f = some y → rdOf ByteArray.empty y a = stW a := by
    intro y hy
    obtain rfl := Option.some.inj hy
    rfl
  unfold spec_l21Text.f tripT
  refine Evn.bind (Evn.done _) ?_
  refine Evn.pos h0 ?_
  refine Evn.pos h4 ?_
  rw [hr _ rfl]
  refine Evn.pos (by first | omega | (simp only [ByteArray.size_append, sz1, sz4, sz5]; omega)) ?_
  refine Evn.bind (sp_l1Num c (by omega)) ?_
  refine Evn.pos (by first | omega | (simp only [ByteArray.size_append, sz1, sz4, sz5]; omega)) ?_
  refine Evn.pos (by first | omega | (simp only [ByteArray.size_append, sz1, sz4, sz5]; omega)) ?_
  refine Evn.bind (sp_l1Num b (by omega)) ?_
  refine Evn.pos (by first | omega | (simp only [ByteArray.size_append, sz1, sz4, sz5]; omega)) ?_
  refine Evn.pos (by first | omega | (simp only [ByteArray.size_append, sz1, sz4, sz5]; omega)) ?_
  refine Evn.bind (sp_l1Num d (by omega)) ?_
  refine Evn.pos (by first | omega | (simp only [ByteArray.size_append, sz1, sz4, sz5]; omega)) ?_
  refine Evn.pos (by first | omega | (simp only [ByteArray.size_append, sz1, sz4, sz5]; omega)) ?_
  refine Evn.bind (sp_l1Num e (by omega)) ?_
  refine Evn.pos (by first | omega | (simp only [ByteArray.size_append, sz1, sz4, sz5]; omega)) ?_
  exact Evn.done _

-- laws_toTrip: as it stands

theorem im_within (x y z : Int) : impl_within.f x y z = some (decide (y ≤ x ∧ x ≤ z)) := by
  unfold impl_within.f
  by_cases h : x ≥ y <;> simp [h] <;> omega

theorem im_isTime (x : Int) : impl_isTime.f x = some (decide (0 ≤ x ∧ x ≤ 999)) := by
  simp only [impl_isTime.f, im_within, Option.bind_some]
theorem im_IsTrip_j1 (k : Nat) (p b c d e : Int) (q : Bool) (hq : q = decide (p = 0 ∨ p = 4 ∨ p = 5)) : impl_IsTrip.j1 (k + 1) p q p b c d e = some (decide (0 ≤ p ∧ p ≤ 5) && (if 1 ≤ p ∧ p ≤ 3 then decide (1 ≤ c ∧ c ≤ b) && ((p == 1) == decide (e ≤ d)) else c == 0)) := by
  subst hq
  simp only [impl_IsTrip.j1, im_within, Option.bind_some, ite_and]
  by_cases h0 : p = 0
  · subst h0; simp
  by_cases h4 : p = 4
  · subst h4; simp
  by_cases h5 : p = 5
  · subst h5; simp
  by_cases h1 : p = 1
  · subst h1; simp
  have hn : decide (d < e) = !decide (e ≤ d) := by by_cases h : e ≤ d <;> simp [h] <;> omega
  by_cases h2 : p = 2
  · subst h2; simp [hn]
  by_cases h3 : p = 3
  · subst h3; simp [hn]
  have : ¬ (0 ≤ p ∧ p ≤ 5) := by omega
  simp [h0, h1, h2, h3, h4, h5, this]
theorem im_IsTrip (a b c d e : Int) : Evn (fun k => impl_IsTrip.f k a b c d e) (goodT a b c d e) := by
  refine Evn.step (Evn.step ?_)
  refine Evn.of fun k => ?_
  unfold goodT
  simp only [impl_IsTrip.f, impl_IsTrip.j0, im_isTime, im_within, Option.bind_some]
  have e0 : impl_IsTrip.j1 (k + 1) a (a == 0) a b c d e = impl_IsTrip.j1 (k + 1) a (a == 0) a b c d e := rfl
  by_cases h2 : 1 ≤ b ∧ b ≤ 12
  · by_cases h3 : 0 ≤ d ∧ d ≤ 999
    · by_cases h4 : 0 ≤ e ∧ e ≤ 999
      · by_cases g0 : a = 0
        · rw [if_pos (decide_eq_true h2), if_pos (decide_eq_true h3), decide_eq_true h4, if_neg (by decide), if_pos g0, im_IsTrip_j1 k a b c d e _ (by simp [g0])]
          simp [h2, h3]
        · by_cases g4 : a = 4
          · rw [if_pos (decide_eq_true h2), if_pos (decide_eq_true h3), decide_eq_true h4, if_neg (by decide), if_neg g0, if_pos g4, im_IsTrip_j1 k a b c d e _ (by simp [g4])]
            simp [h2, h3]
          · rw [if_pos (decide_eq_true h2), if_pos (decide_eq_true h3), decide_eq_true h4, if_neg (by decide), if_neg g0, if_neg g4, im_IsTrip_j1 k a b c d e _ (by by_cases g5 : a = 5 <;> simp [g0, g4, g5])]
            simp [h2, h3]
      · simp [h2, h3, h4]
    · simp [h2, h3]
  · simp [h2]

theorem im_decimal (n : Nat) (h : n < 1000000) : impl_decimal.f (n : Int) = some (numT n) := by
  unfold impl_decimal.f
  rw [if_pos ⟨by omega, by omega⟩]
  rfl

theorem im_tripText (a : Int) (b c d e : Nat) (hb : b < 1000) (hc : c < 1000) (hd : d < 1000) (he : e < 1000) (h0 : 0 ≤ a) (h4 : a < 6) : impl_tripText.f a b c d e = some (tripT a b c d e) := by
  have zb := numT_size 2 b hb
  have zc := numT_size 2 c hc
  have zd := numT_size 2 d hd
  have ze := numT_size 2 e he
  have za := stW_size6 a h0 h4
  unfold impl_tripText.f tripT
  rw [if_pos ⟨h0, h4⟩]
  simp only [im_decimal b (by omega), im_decimal c (by omega), im_decimal d (by omega), im_decimal e (by omega), Option.bind_some]
  repeat rw [if_pos (by first | omega | (simp only [ByteArray.size_append, sz1, sz4, sz5]; omega))]

theorem FnExactTripText : ∀ (a0_0 : Int) (a0_1 : Int) (a0_2 : Int) (a0_3 : Int) (a0_4 : Int), (Lit.int .i64 a0_0).wf = true → (Lit.int .i64 a0_1).wf = true → (Lit.int .i64 a0_2).wf = true → (Lit.int .i64 a0_3).wf = true → (Lit.int .i64 a0_4).wf = true → ∃ k, laws_FnExactTripText.f k a0_0 a0_1 a0_2 a0_3 a0_4 = some true := by
  intro a b c d e _ _ _ _ _
  apply Evn.get
  simp only [laws_FnExactTripText.f, laws_toTrip.f, Option.bind_some, spec_TripText.f, impl_TripText.f]
  have hs := sp_l21Good a b c d e
  have hi := im_IsTrip a b c d e
  by_cases h : goodT a b c d e = true
  · rw [h] at hs hi
    have hb : 0 ≤ a ∧ a ≤ 5 ∧ 1 ≤ b ∧ b ≤ 12 ∧ 0 ≤ c ∧ c ≤ 12 ∧ 0 ≤ d ∧ d ≤ 999 ∧ 0 ≤ e ∧ e ≤ 999 := by
      unfold goodT at h
      split at h <;> simp only [Bool.and_eq_true, decide_eq_true_eq, beq_iff_eq] at h <;> omega
    obtain ⟨b, rfl⟩ : ∃ n : Nat, b = n := ⟨b.toNat, by omega⟩
    obtain ⟨c, rfl⟩ : ∃ n : Nat, c = n := ⟨c.toNat, by omega⟩
    obtain ⟨d, rfl⟩ : ∃ n : Nat, d = n := ⟨d.toNat, by omega⟩
    obtain ⟨e, rfl⟩ : ∃ n : Nat, e = n := ⟨e.toNat, by omega⟩
    refine Evn.bind (Evn.bind hs (b := (tripT a b c d e, true)) ?_) ?_
    · simp only [if_true]
      exact Evn.bind (sp_l21Text a b c d e (by omega) (by omega) (by omega) (by omega) (by omega) (by omega)) (Evn.done _)
    refine Evn.bind (Evn.bind hi (b := (tripT a b c d e, true)) ?_) ?_
    · simp only [if_true, im_tripText a b c d e (by omega) (by omega) (by omega) (by omega) (by omega) (by omega), Option.bind_some]
      exact Evn.done _
    simp only [if_true, bne_self_eq_false, Bool.false_eq_true, if_false]
    exact Evn.done _
  · rw [Bool.not_eq_true] at h
    rw [h] at hs hi
    refine Evn.bind (Evn.bind hs (b := (⟨#[]⟩, false)) ?_) ?_
    · simp only [Bool.false_eq_true, if_false]
      exact Evn.done _
    refine Evn.bind (Evn.bind hi (b := (⟨#[]⟩, false)) ?_) ?_
    · simp only [Bool.false_eq_true, if_false]
      exact Evn.done _
    simp only [if_true, bne_self_eq_false, Bool.false_eq_true, if_false]
    exact Evn.done _

end Go.Proofs.YtmeaacbnjpgepaaDoor.Pure
