/- The plain statement of FnExactLeadText: its plain function returns true at every input. No condition beyond the arguments' own bounds. -/
import Derived.Test.YtldgjibimolcdaaDoorQFnExactLeadTextx3
import Derived.Test.YtldgjibimolcdaaDoorAid
namespace Go.Proofs.YtldgjibimolcdaaDoor.Pure
open Go.RowKit Go.Proofs.YtldgjibimolcdaaDoorW.PrintWords Go.Proofs.YtldgjibimolcdaaDoorW.PrintLast Go.Proofs.YtldgjibimolcdaaDoor.Aid Go.Proofs.YtldgjibimolcdaaDoor.QFnExactLeadText
set_option linter.unusedVariables false
set_option linter.unusedSimpArgs false

theorem sp_l1In (x y z : Int) : spec_l1In.f x y z = some (decide (y ≤ x ∧ x ≤ z)) := by
  unfold spec_l1In.f
  by_cases h : x ≥ y <;> simp [h] <;> omega

theorem sp_l4Station (x : Int) : spec_l4Station.f x = some (decide (0 ≤ x ∧ x ≤ 7)) := by
  simp only [spec_l4Station.f, sp_l1In, Option.bind_some]

/-- A whole number's decimal text. -/
def numT (n : Int) : ByteArray := ⟨(Lib.itoa n).toArray⟩
theorem dg_ext (n : Nat) (h : n < 10) : (⟨#[48, 49, 50, 51, 52, 53, 54, 55, 56, 57]⟩ : ByteArray).extract n (n + 1) = ⟨#[UInt8.ofNat (48 + n)]⟩ := by
  have h2 : n = 0 ∨ n = 1 ∨ n = 2 ∨ n = 3 ∨ n = 4 ∨ n = 5 ∨ n = 6 ∨ n = 7 ∨ n = 8 ∨ n = 9 := by omega
  rcases h2 with rfl | rfl | rfl | rfl | rfl | rfl | rfl | rfl | rfl | rfl <;> rfl
theorem numT_small (n : Nat) (h : n < 10) : numT n = ⟨#[UInt8.ofNat (48 + n)]⟩ := by
  unfold numT
  rw [Lib.itoa_nonneg, Lib.decDigits, dif_pos h]
theorem numT_big (n : Nat) (h : ¬ n < 10) : numT n = numT ((n / 10 : Nat) : Int) ++ ⟨#[UInt8.ofNat (48 + n % 10)]⟩ := by
  unfold numT
  rw [Lib.itoa_nonneg, Lib.itoa_nonneg, Lib.decDigits, dif_neg h]
  apply ByteArray.ext
  simp
theorem numT_size : ∀ (k n : Nat), n < 10 ^ (k + 1) → (numT n).size ≤ k + 1
  | 0, n, h => by
    rw [numT_small n (by simpa using h)]
    exact Nat.le_refl 1
  | k + 1, n, h => by
    by_cases h1 : n < 10
    · rw [numT_small n h1]
      show 1 ≤ _
      omega
    · rw [numT_big n h1, ByteArray.size_append]
      have h2 := numT_size k (n / 10) (by rw [Nat.pow_succ] at h; omega)
      show _ + 1 ≤ _
      omega
theorem Evn.pos {α : Type} {r : α} {c : Prop} [Decidable c] {g g' : Nat → Option α} (h : c) (h' : Evn g r) : Evn (fun k => if c then g k else g' k) r := Evn.ite (fun _ => h') (fun hn => absurd h hn)
theorem sz1 (a : UInt8) : (⟨#[a]⟩ : ByteArray).size = 1 := rfl
theorem sz4 (a b c d : UInt8) : (⟨#[a, b, c, d]⟩ : ByteArray).size = 4 := rfl
theorem sz5 (a b c d e : UInt8) : (⟨#[a, b, c, d, e]⟩ : ByteArray).size = 5 := rfl
theorem sz6 (a b c d e f : UInt8) : (⟨#[a, b, c, d, e, f]⟩ : ByteArray).size = 6 := rfl
theorem sz7 (a b c d e f g : UInt8) : (⟨#[a, b, c, d, e, f, g]⟩ : ByteArray).size = 7 := rfl

def okL5 (a b c d e : Int) : Bool := decide (1 ≤ a ∧ a ≤ 99) && (decide (0 ≤ b ∧ b ≤ 7) && (decide (1 ≤ c ∧ c ≤ 9) && (decide (1 ≤ d ∧ d ≤ 9) && decide (0 ≤ e ∧ e ≤ 3))))
/-- A lead's text. -/
def leadT (a b c d e : Int) : ByteArray := (((((((((⟨#[108, 101, 97, 100, 32]⟩ : ByteArray) ++ numT a) ++ (⟨#[32, 97, 116, 32]⟩ : ByteArray)) ++ numT b) ++ (⟨#[58, 32, 115, 105, 122, 101, 32]⟩ : ByteArray)) ++ numT c) ++ (⟨#[32, 101, 97, 115, 101, 32]⟩ : ByteArray)) ++ numT d) ++ (⟨#[32]⟩ : ByteArray)) ++ stW e
theorem stW_size (e : Int) (h : 0 ≤ e) (h' : e < 4) : (stW e).size ≤ 5 := by
  have h2 : e = 0 ∨ e = 1 ∨ e = 2 ∨ e = 3 := by omega
  rcases h2 with rfl | rfl | rfl | rfl <;> decide

theorem sp_l18One5 (a b c d e : Int) : spec_l18One.f a b c d e = some (okL5 a b c d e) := by
  simp only [spec_l18One.f, sp_l4Station, spec_l18State.f, sp_l1In, Option.bind_some, ite_and, okL5]

theorem sp_l1Num : ∀ (n : Nat), n < 1000000 → Evn (fun k => spec_l1Num.f k (n : Int)) (numT n) := by
  intro n
  induction n using Nat.strongRecOn with
  | _ n ih =>
    intro h
    refine Evn.step ?_
    have h0 : ¬ (n : Int) < 0 := by omega
    by_cases h1 : n < 10
    · have h2 : (n : Int) < 10 := by omega
      have h3 : 0 ≤ (n : Int) := by omega
      have h4 : (n : Int) ≤ ((n + 1 : Nat) : Int) := by omega
      have h5 : ((n + 1 : Nat) : Int) ≤ 10 := by omega
      simp only [spec_l1Num.f, if_neg h0, if_pos h2, if_pos h3, wrap_succ (show n < 4611686018427387904 by omega), if_pos h4, if_pos h5, Int.toNat_natCast]
      rw [dg_ext n h1, ← numT_small n h1]
      exact Evn.done _
    · have h2 : ¬ (n : Int) < 10 := by omega
      have hd : Int.tdiv (n : Int) 10 = ((n / 10 : Nat) : Int) := rfl
      have hm : Int.tmod (n : Int) 10 = ((n % 10 : Nat) : Int) := rfl
      have hw : wrap64 ((n / 10 : Nat) : Int) = ((n / 10 : Nat) : Int) := wrap_id (by omega) (by omega)
      have hb := ih (n / 10) (by omega) (by omega)
      have hz := numT_size 5 (n / 10) (by have : (10 : Nat) ^ (5 + 1) = 1000000 := rfl; omega)
      have hq : n % 10 < 10 := by omega
      simp only [spec_l1Num.f, if_neg h0, if_neg h2, hd, hm, hw]
      refine Evn.bind hb ?_
      have g1 : 0 ≤ ((n % 10 : Nat) : Int) := by omega
      have g2 : ((n % 10 : Nat) : Int) ≤ ((n % 10 + 1 : Nat) : Int) := by omega
      have g3 : ((n % 10 + 1 : Nat) : Int) ≤ 10 := by omega
      have hx := dg_ext (n % 10) hq
      simp only [if_pos g1, wrap_succ (show n % 10 < 4611686018427387904 by omega), if_pos g2, if_pos g3, Int.toNat_natCast, hx]
      refine Evn.pos (by rw [sz1]; omega) ?_
      rw [← numT_big n h1]
      exact Evn.done _

theorem sp_l18Text (a b c d : Nat) (e : Int) (ha : a < 1000) (hb : b < 1000) (hc : c < 1000) (hd : d < 1000) (h0 : 0 ≤ e) (h4 : e < 4) : Evn (fun k => spec_l18Text.f k a b c d e) (leadT a b c d e) := by
  have za := numT_size 2 a ha
  have zb := numT_size 2 b hb
  have zc := numT_size 2 c hc
  have zd := numT_size 2 d hd
  have ze := stW_size e h0 h4
  unfold spec_l18Text.f leadT
  refine Evn.bind (sp_l1Num a (by omega)) ?_
  refine Evn.pos (by first | omega | (simp only [ByteArray.size_append, sz1, sz4, sz5, sz6, sz7]; omega)) ?_
  refine Evn.pos (by first | omega | (simp only [ByteArray.size_append, sz1, sz4, sz5, sz6, sz7]; omega)) ?_
  refine Evn.bind (sp_l1Num b (by omega)) ?_
  refine Evn.pos (by first | omega | (simp only [ByteArray.size_append, sz1, sz4, sz5, sz6, sz7]; omega)) ?_
  refine Evn.pos (by first | omega | (simp only [ByteArray.size_append, sz1, sz4, sz5, sz6, sz7]; omega)) ?_
  refine Evn.bind (sp_l1Num c (by omega)) ?_
  refine Evn.pos (by first | omega | (simp only [ByteArray.size_append, sz1, sz4, sz5, sz6, sz7]; omega)) ?_
  refine Evn.pos (by first | omega | (simp only [ByteArray.size_append, sz1, sz4, sz5, sz6, sz7]; omega)) ?_
  refine Evn.bind (sp_l1Num d (by omega)) ?_
  refine Evn.pos (by first | omega | (simp only [ByteArray.size_append, sz1, sz4, sz5, sz6, sz7]; omega)) ?_
  refine Evn.pos (by first | omega | (simp only [ByteArray.size_append, sz1, sz4, sz5, sz6, sz7]; omega)) ?_
  refine Evn.bind (Evn.done _) ?_
  refine Evn.pos h0 ?_
  refine Evn.pos h4 ?_
  change Evn (fun _ => if _ + (stW e).size ≤ 9223372036854775807 then some (_ ++ stW e) else none) _
  refine Evn.pos (by simp only [ByteArray.size_append, sz1, sz4, sz5, sz6, sz7]; omega) ?_
  exact Evn.done _

-- laws_toLead: as it stands

theorem im_within (x y z : Int) : impl_within.f x y z = some (decide (y ≤ x ∧ x ≤ z)) := by
  unfold impl_within.f
  by_cases h : x ≥ y <;> simp [h] <;> omega

theorem im_isStation (x : Int) : impl_isStation.f x = some (decide (0 ≤ x ∧ x ≤ 7)) := by
  simp only [impl_isStation.f, im_within, Option.bind_some]

theorem im_IsLead5 (a b c d e : Int) : impl_IsLead.f a b c d e = some (okL5 a b c d e) := by
  simp only [impl_IsLead.f, impl_isId.f, im_isStation, impl_isGrade.f, impl_isState.f, im_within, Option.bind_some, ite_and, okL5]

theorem im_decimal (n : Nat) (h : n < 1000000) : impl_decimal.f (n : Int) = some (numT n) := by
  unfold impl_decimal.f
  rw [if_pos ⟨by omega, by omega⟩]
  rfl

theorem im_leadText (a b c d : Nat) (e : Int) (ha : a < 1000) (hb : b < 1000) (hc : c < 1000) (hd : d < 1000) (h0 : 0 ≤ e) (h4 : e < 4) : impl_leadText.f a b c d e = some (leadT a b c d e) := by
  have za := numT_size 2 a ha
  have zb := numT_size 2 b hb
  have zc := numT_size 2 c hc
  have zd := numT_size 2 d hd
  have ze := stW_size e h0 h4
  unfold impl_leadText.f leadT
  rw [if_pos ⟨h0, h4⟩]
  simp only [im_decimal a (by omega), im_decimal b (by omega), im_decimal c (by omega), im_decimal d (by omega), Option.bind_some]
  repeat rw [if_pos (by first | omega | (simp only [ByteArray.size_append, sz1, sz4, sz5, sz6, sz7]; omega))]

theorem FnExactLeadText : ∀ (a0_0 : Int) (a0_1 : Int) (a0_2 : Int) (a0_3 : Int) (a0_4 : Int), (Lit.int .i64 a0_0).wf = true → (Lit.int .i64 a0_1).wf = true → (Lit.int .i64 a0_2).wf = true → (Lit.int .i64 a0_3).wf = true → (Lit.int .i64 a0_4).wf = true → ∃ k, laws_FnExactLeadText.f k a0_0 a0_1 a0_2 a0_3 a0_4 = some true := by
  intro a b c d e _ _ _ _ _
  apply Evn.get
  simp only [laws_FnExactLeadText.f, laws_toLead.f, Option.bind_some, spec_LeadText.f, impl_LeadText.f, sp_l18One5, im_IsLead5]
  by_cases h : okL5 a b c d e = true
  · simp only [h, if_true]
    simp only [okL5, Bool.and_eq_true, decide_eq_true_eq] at h
    obtain ⟨a, rfl⟩ : ∃ n : Nat, a = n := ⟨a.toNat, by omega⟩
    obtain ⟨b, rfl⟩ : ∃ n : Nat, b = n := ⟨b.toNat, by omega⟩
    obtain ⟨c, rfl⟩ : ∃ n : Nat, c = n := ⟨c.toNat, by omega⟩
    obtain ⟨d, rfl⟩ : ∃ n : Nat, d = n := ⟨d.toNat, by omega⟩
    refine Evn.bind (Evn.bind (sp_l18Text a b c d e (by omega) (by omega) (by omega) (by omega) (by omega) (by omega)) (Evn.done _)) ?_
    simp only [im_leadText a b c d e (by omega) (by omega) (by omega) (by omega) (by omega) (by omega), Option.bind_some, if_true, bne_self_eq_false, Bool.false_eq_true, if_false]
    exact Evn.done _
  · simp only [if_neg h, Option.bind_some, if_true, bne_self_eq_false, Bool.false_eq_true, if_false]
    exact Evn.done _

end Go.Proofs.YtldgjibimolcdaaDoor.Pure
