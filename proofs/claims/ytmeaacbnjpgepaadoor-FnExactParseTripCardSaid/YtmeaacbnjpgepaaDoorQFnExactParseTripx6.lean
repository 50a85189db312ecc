/- Contracts of Go functions that FnExactParseTrip reaches: the call computes what the plain function says. No condition. -/
import Derived.Test.YtmeaacbnjpgepaaDoorQFnExactParseTripx0
import Derived.Test.YtmeaacbnjpgepaaDoorQFnExactParseTripx4
import Derived.Test.YtmeaacbnjpgepaaDoorQFnExactParseTripx5
namespace Go.Proofs.YtmeaacbnjpgepaaDoor.QFnExactParseTrip
open Go.RowKit Go.Proofs.YtmeaacbnjpgepaaDoorW.PrintWords Go.Proofs.YtmeaacbnjpgepaaDoorW.PrintLast Go.Proofs.YtmeaacbnjpgepaaDoorW.PrintMore
attribute [local go_sem] max2_int min2_int max_two min_two max_three min_three max_four min_four   -- for this text's walks alone
set_option linter.unusedVariables false
set_option linter.unusedSimpArgs false

/-! ### impl_tripText: function 14 -/
def impl_tripText.f (a0_0 : Int) (a0_1 : Int) (a0_2 : Int) (a0_3 : Int) (a0_4 : Int) : Option (ByteArray) := if 0 ≤ a0_0 ∧ a0_0 < 6 then (if (stW a0_0).size + 1 ≤ 9223372036854775807 then ((impl_decimal.f a0_2).bind fun t168 => (if ((stW a0_0) ++ (⟨#[32]⟩ : ByteArray)).size + t168.size ≤ 9223372036854775807 then (if (((stW a0_0) ++ (⟨#[32]⟩ : ByteArray)) ++ t168).size + 1 ≤ 9223372036854775807 then ((impl_decimal.f a0_1).bind fun t169 => (if ((((stW a0_0) ++ (⟨#[32]⟩ : ByteArray)) ++ t168) ++ (⟨#[47]⟩ : ByteArray)).size + t169.size ≤ 9223372036854775807 then (if (((((stW a0_0) ++ (⟨#[32]⟩ : ByteArray)) ++ t168) ++ (⟨#[47]⟩ : ByteArray)) ++ t169).size + 5 ≤ 9223372036854775807 then ((impl_decimal.f a0_3).bind fun t170 => (if ((((((stW a0_0) ++ (⟨#[32]⟩ : ByteArray)) ++ t168) ++ (⟨#[47]⟩ : ByteArray)) ++ t169) ++ (⟨#[32, 100, 117, 101, 32]⟩ : ByteArray)).size + t170.size ≤ 9223372036854775807 then (if (((((((stW a0_0) ++ (⟨#[32]⟩ : ByteArray)) ++ t168) ++ (⟨#[47]⟩ : ByteArray)) ++ t169) ++ (⟨#[32, 100, 117, 101, 32]⟩ : ByteArray)) ++ t170).size + 4 ≤ 9223372036854775807 then ((impl_decimal.f a0_4).bind fun t171 => (if ((((((((stW a0_0) ++ (⟨#[32]⟩ : ByteArray)) ++ t168) ++ (⟨#[47]⟩ : ByteArray)) ++ t169) ++ (⟨#[32, 100, 117, 101, 32]⟩ : ByteArray)) ++ t170) ++ (⟨#[32, 97, 116, 32]⟩ : ByteArray)).size + t171.size ≤ 9223372036854775807 then (some (((((((((stW a0_0) ++ (⟨#[32]⟩ : ByteArray)) ++ t168) ++ (⟨#[47]⟩ : ByteArray)) ++ t169) ++ (⟨#[32, 100, 117, 101, 32]⟩ : ByteArray)) ++ t170) ++ (⟨#[32, 97, 116, 32]⟩ : ByteArray)) ++ t171)) else (none))) else (none)) else (none))) else (none)) else (none))) else (none)) else (none))) else (none)) else none
def impl_tripText.T1 : Bool × List (List Nat × List Nat) := (true, [([], []), ([0], [0]), ([1], [1]), ([2], [2]), ([3], [3]), ([], []), ([5], [5]), ([6], [6]), ([4, 7], [4, 7]), ([8], [8]), ([], []), ([10], [10]), ([11, 7], [11]), ([9, 12], [9, 12]), ([13], [13]), ([], []), ([15], [15]), ([16, 12], [16]), ([14, 17], [14, 17]), ([18], [18]), ([], []), ([20], [20]), ([21, 17], [21]), ([19, 22], [19, 22]), ([23, 22, 0, 1, 2, 3, 4, 5, 6, 7, 8, 9, 10, 11, 12, 13, 14, 15, 16, 17, 18, 19, 20, 21, 22, 23], [23])])
def impl_tripText.B1 : List Nat := [0, 1, 3, 7, 15, 0, 32, 96, 255, 511, 0, 1024, 3296, 8191, 16383, 0, 32768, 105696, 262143, 524287, 0, 1048576, 3382496, 8388607, 16777215]
theorem impl_tripText.tab1 : rtab .any (opsOf Tryd.f14 1) = impl_tripText.T1 := by kernel_rfl
theorem impl_tripText.bits1 : waitsOk impl_tripText.T1.2 impl_tripText.B1 = true := by kernel_rfl
set_option maxHeartbeats 8000000 in
set_option maxRecDepth 100000 in
theorem impl_tripText.calls (a0_0 : Int) (a0_1 : Int) (a0_2 : Int) (a0_3 : Int) (a0_4 : Int) (r : ByteArray) (w : World) (h : impl_tripText.f a0_0 a0_1 a0_2 a0_3 a0_4 = some r) (hTW : TabW w) :
    Calls Tryd.prog 14 #[.agg #[.int .i64 a0_0, .int .i64 a0_1, .int .i64 a0_2, .int .i64 a0_3, .int .i64 a0_4]] w fun e w' => e = .returned (.string r) ∧ Below w.heap.size w w' := by
  have hu26 := Tryd.underlying26
  have HB := Aside0.mk (Below.refl w.heap.size w)
  obtain ⟨⟨hg0_, hg1_⟩, h⟩ := guard_some h
  have pi_ : (0 ≤ a0_0) = True := eq_true hg0_
  have qi_ : (a0_0 < 6) = True := eq_true hg1_
  have H : (if (stW a0_0).size + 1 ≤ 9223372036854775807 then ((impl_decimal.f a0_2).bind fun t168 => (if ((stW a0_0) ++ (⟨#[32]⟩ : ByteArray)).size + t168.size ≤ 9223372036854775807 then (if (((stW a0_0) ++ (⟨#[32]⟩ : ByteArray)) ++ t168).size + 1 ≤ 9223372036854775807 then ((impl_decimal.f a0_1).bind fun t169 => (if ((((stW a0_0) ++ (⟨#[32]⟩ : ByteArray)) ++ t168) ++ (⟨#[47]⟩ : ByteArray)).size + t169.size ≤ 9223372036854775807 then (if (((((stW a0_0) ++ (⟨#[32]⟩ : ByteArray)) ++ t168) ++ (⟨#[47]⟩ : ByteArray)) ++ t169).size + 5 ≤ 9223372036854775807 then ((impl_decimal.f a0_3).bind fun t170 => (if ((((((stW a0_0) ++ (⟨#[32]⟩ : ByteArray)) ++ t168) ++ (⟨#[47]⟩ : ByteArray)) ++ t169) ++ (⟨#[32, 100, 117, 101, 32]⟩ : ByteArray)).size + t170.size ≤ 9223372036854775807 then (if (((((((stW a0_0) ++ (⟨#[32]⟩ : ByteArray)) ++ t168) ++ (⟨#[47]⟩ : ByteArray)) ++ t169) ++ (⟨#[32, 100, 117, 101, 32]⟩ : ByteArray)) ++ t170).size + 4 ≤ 9223372036854775807 then ((impl_decimal.f a0_4).bind fun t171 => (if ((((((((stW a0_0) ++ (⟨#[32]⟩ : ByteArray)) ++ t168) ++ (⟨#[47]⟩ : ByteArray)) ++ t169) ++ (⟨#[32, 100, 117, 101, 32]⟩ : ByteArray)) ++ t170) ++ (⟨#[32, 97, 116, 32]⟩ : ByteArray)).size + t171.size ≤ 9223372036854775807 then (some (((((((((stW a0_0) ++ (⟨#[32]⟩ : ByteArray)) ++ t168) ++ (⟨#[47]⟩ : ByteArray)) ++ t169) ++ (⟨#[32, 100, 117, 101, 32]⟩ : ByteArray)) ++ t170) ++ (⟨#[32, 97, 116, 32]⟩ : ByteArray)) ++ t171)) else (none))) else (none)) else (none))) else (none)) else (none))) else (none)) else (none))) else (none)) = some r := h
  clear h
  by_cases c2 : (stW a0_0).size + 1 ≤ 9223372036854775807
  · rw [if_pos c2] at H
    have c2b0 := eq_true c2
    have c2b1 : decide ((stW a0_0).size + 1 ≤ 9223372036854775807) = true := decide_eq_true c2
    try have c2b2 : (9223372036854775807 < (stW a0_0).size + 1) = False := eq_false (Nat.not_lt.2 c2)
    replace H := Option.bind_eq_some_iff.mp H
    obtain ⟨t168, A30, H⟩ := H
    replace H : (if ((stW a0_0) ++ (⟨#[32]⟩ : ByteArray)).size + t168.size ≤ 9223372036854775807 then (if (((stW a0_0) ++ (⟨#[32]⟩ : ByteArray)) ++ t168).size + 1 ≤ 9223372036854775807 then ((impl_decimal.f a0_1).bind fun t169 => (if ((((stW a0_0) ++ (⟨#[32]⟩ : ByteArray)) ++ t168) ++ (⟨#[47]⟩ : ByteArray)).size + t169.size ≤ 9223372036854775807 then (if (((((stW a0_0) ++ (⟨#[32]⟩ : ByteArray)) ++ t168) ++ (⟨#[47]⟩ : ByteArray)) ++ t169).size + 5 ≤ 9223372036854775807 then ((impl_decimal.f a0_3).bind fun t170 => (if ((((((stW a0_0) ++ (⟨#[32]⟩ : ByteArray)) ++ t168) ++ (⟨#[47]⟩ : ByteArray)) ++ t169) ++ (⟨#[32, 100, 117, 101, 32]⟩ : ByteArray)).size + t170.size ≤ 9223372036854775807 then (if (((((((stW a0_0) ++ (⟨#[32]⟩ : ByteArray)) ++ t168) ++ (⟨#[47]⟩ : ByteArray)) ++ t169) ++ (⟨#[32, 100, 117, 101, 32]⟩ : ByteArray)) ++ t170).size + 4 ≤ 9223372036854775807 then ((impl_decimal.f a0_4).bind fun t171 => (if ((((((((stW a0_0) ++ (⟨#[32]⟩ : ByteArray)) ++ t168) ++ (⟨#[47]⟩ : ByteArray)) ++ t169) ++ (⟨#[32, 100, 117, 101, 32]⟩ : ByteArray)) ++ t170) ++ (⟨#[32, 97, 116, 32]⟩ : ByteArray)).size + t171.size ≤ 9223372036854775807 then (some (((((((((stW a0_0) ++ (⟨#[32]⟩ : ByteArray)) ++ t168) ++ (⟨#[47]⟩ : ByteArray)) ++ t169) ++ (⟨#[32, 100, 117, 101, 32]⟩ : ByteArray)) ++ t170) ++ (⟨#[32, 97, 116, 32]⟩ : ByteArray)) ++ t171)) else (none))) else (none)) else (none))) else (none)) else (none))) else (none)) else (none)) = some r := H
    have A3 := Aside0.mk A30
    clear A30
    by_cases c4 : ((stW a0_0) ++ (⟨#[32]⟩ : ByteArray)).size + t168.size ≤ 9223372036854775807
    · rw [if_pos c4] at H
      have c4b0 := eq_true c4
      have c4b1 : decide (((stW a0_0) ++ (⟨#[32]⟩ : ByteArray)).size + t168.size ≤ 9223372036854775807) = true := decide_eq_true c4
      try have c4b2 : (9223372036854775807 < ((stW a0_0) ++ (⟨#[32]⟩ : ByteArray)).size + t168.size) = False := eq_false (Nat.not_lt.2 c4)
      have c4b3 : (9223372036854775807 < (stW a0_0).size + 1 + t168.size) = False := by have e_ := c4; simp only [ByteArray.size_append, show (⟨#[32]⟩ : ByteArray).size = 1 from rfl] at e_; exact eq_false (by omega)
      by_cases c5 : (((stW a0_0) ++ (⟨#[32]⟩ : ByteArray)) ++ t168).size + 1 ≤ 9223372036854775807
      · rw [if_pos c5] at H
        have c5b0 := eq_true c5
        have c5b1 : decide ((((stW a0_0) ++ (⟨#[32]⟩ : ByteArray)) ++ t168).size + 1 ≤ 9223372036854775807) = true := decide_eq_true c5
        try have c5b2 : (9223372036854775807 < (((stW a0_0) ++ (⟨#[32]⟩ : ByteArray)) ++ t168).size + 1) = False := eq_false (Nat.not_lt.2 c5)
        have c5b3 : (9223372036854775807 < (stW a0_0).size + 1 + t168.size + 1) = False := by have e_ := c5; simp only [ByteArray.size_append, show (⟨#[32]⟩ : ByteArray).size = 1 from rfl] at e_; exact eq_false (by omega)
        replace H := Option.bind_eq_some_iff.mp H
        obtain ⟨t169, A60, H⟩ := H
        replace H : (if ((((stW a0_0) ++ (⟨#[32]⟩ : ByteArray)) ++ t168) ++ (⟨#[47]⟩ : ByteArray)).size + t169.size ≤ 9223372036854775807 then (if (((((stW a0_0) ++ (⟨#[32]⟩ : ByteArray)) ++ t168) ++ (⟨#[47]⟩ : ByteArray)) ++ t169).size + 5 ≤ 9223372036854775807 then ((impl_decimal.f a0_3).bind fun t170 => (if ((((((stW a0_0) ++ (⟨#[32]⟩ : ByteArray)) ++ t168) ++ (⟨#[47]⟩ : ByteArray)) ++ t169) ++ (⟨#[32, 100, 117, 101, 32]⟩ : ByteArray)).size + t170.size ≤ 9223372036854775807 then (if (((((((stW a0_0) ++ (⟨#[32]⟩ : ByteArray)) ++ t168) ++ (⟨#[47]⟩ : ByteArray)) ++ t169) ++ (⟨#[32, 100, 117, 101, 32]⟩ : ByteArray)) ++ t170).size + 4 ≤ 9223372036854775807 then ((impl_decimal.f a0_4).bind fun t171 => (if ((((((((stW a0_0) ++ (⟨#[32]⟩ : ByteArray)) ++ t168) ++ (⟨#[47]⟩ : ByteArray)) ++ t169) ++ (⟨#[32, 100, 117, 101, 32]⟩ : ByteArray)) ++ t170) ++ (⟨#[32, 97, 116, 32]⟩ : ByteArray)).size + t171.size ≤ 9223372036854775807 then (some (((((((((stW a0_0) ++ (⟨#[32]⟩ : ByteArray)) ++ t168) ++ (⟨#[47]⟩ : ByteArray)) ++ t169) ++ (⟨#[32, 100, 117, 101, 32]⟩ : ByteArray)) ++ t170) ++ (⟨#[32, 97, 116, 32]⟩ : ByteArray)) ++ t171)) else (none))) else (none)) else (none))) else (none)) else (none)) = some r := H
        have A6 := Aside0.mk A60
        clear A60
        by_cases c7 : ((((stW a0_0) ++ (⟨#[32]⟩ : ByteArray)) ++ t168) ++ (⟨#[47]⟩ : ByteArray)).size + t169.size ≤ 9223372036854775807
        · rw [if_pos c7] at H
          have c7b0 := eq_true c7
          have c7b1 : decide (((((stW a0_0) ++ (⟨#[32]⟩ : ByteArray)) ++ t168) ++ (⟨#[47]⟩ : ByteArray)).size + t169.size ≤ 9223372036854775807) = true := decide_eq_true c7
          try have c7b2 : (9223372036854775807 < ((((stW a0_0) ++ (⟨#[32]⟩ : ByteArray)) ++ t168) ++ (⟨#[47]⟩ : ByteArray)).size + t169.size) = False := eq_false (Nat.not_lt.2 c7)
          have c7b3 : (9223372036854775807 < (stW a0_0).size + 1 + t168.size + 1 + t169.size) = False := by have e_ := c7; simp only [ByteArray.size_append, show (⟨#[32]⟩ : ByteArray).size = 1 from rfl, show (⟨#[47]⟩ : ByteArray).size = 1 from rfl] at e_; exact eq_false (by omega)
          by_cases c8 : (((((stW a0_0) ++ (⟨#[32]⟩ : ByteArray)) ++ t168) ++ (⟨#[47]⟩ : ByteArray)) ++ t169).size + 5 ≤ 9223372036854775807
          · rw [if_pos c8] at H
            have c8b0 := eq_true c8
            have c8b1 : decide ((((((stW a0_0) ++ (⟨#[32]⟩ : ByteArray)) ++ t168) ++ (⟨#[47]⟩ : ByteArray)) ++ t169).size + 5 ≤ 9223372036854775807) = true := decide_eq_true c8
            try have c8b2 : (9223372036854775807 < (((((stW a0_0) ++ (⟨#[32]⟩ : ByteArray)) ++ t168) ++ (⟨#[47]⟩ : ByteArray)) ++ t169).size + 5) = False := eq_false (Nat.not_lt.2 c8)
            have c8b3 : (9223372036854775807 < (stW a0_0).size + 1 + t168.size + 1 + t169.size + 5) = False := by have e_ := c8; simp only [ByteArray.size_append, show (⟨#[32]⟩ : ByteArray).size = 1 from rfl, show (⟨#[47]⟩ : ByteArray).size = 1 from rfl] at e_; exact eq_false (by omega)
            replace H := Option.bind_eq_some_iff.mp H
            obtain ⟨t170, A90, H⟩ := H
            replace H : (if ((((((stW a0_0) ++ (⟨#[32]⟩ : ByteArray)) ++ t168) ++ (⟨#[47]⟩ : ByteArray)) ++ t169) ++ (⟨#[32, 100, 117, 101, 32]⟩ : ByteArray)).size + t170.size ≤ 9223372036854775807 then (if (((((((stW a0_0) ++ (⟨#[32]⟩ : ByteArray)) ++ t168) ++ (⟨#[47]⟩ : ByteArray)) ++ t169) ++ (⟨#[32, 100, 117, 101, 32]⟩ : ByteArray)) ++ t170).size + 4 ≤ 9223372036854775807 then ((impl_decimal.f a0_4).bind fun t171 => (if ((((((((stW a0_0) ++ (⟨#[32]⟩ : ByteArray)) ++ t168) ++ (⟨#[47]⟩ : ByteArray)) ++ t169) ++ (⟨#[32, 100, 117, 101, 32]⟩ : ByteArray)) ++ t170) ++ (⟨#[32, 97, 116, 32]⟩ : ByteArray)).size + t171.size ≤ 9223372036854775807 then (some (((((((((stW a0_0) ++ (⟨#[32]⟩ : ByteArray)) ++ t168) ++ (⟨#[47]⟩ : ByteArray)) ++ t169) ++ (⟨#[32, 100, 117, 101, 32]⟩ : ByteArray)) ++ t170) ++ (⟨#[32, 97, 116, 32]⟩ : ByteArray)) ++ t171)) else (none))) else (none)) else (none)) = some r := H
            have A9 := Aside0.mk A90
            clear A90
            by_cases c10 : ((((((stW a0_0) ++ (⟨#[32]⟩ : ByteArray)) ++ t168) ++ (⟨#[47]⟩ : ByteArray)) ++ t169) ++ (⟨#[32, 100, 117, 101, 32]⟩ : ByteArray)).size + t170.size ≤ 9223372036854775807
            · rw [if_pos c10] at H
              have c10b0 := eq_true c10
              have c10b1 : decide (((((((stW a0_0) ++ (⟨#[32]⟩ : ByteArray)) ++ t168) ++ (⟨#[47]⟩ : ByteArray)) ++ t169) ++ (⟨#[32, 100, 117, 101, 32]⟩ : ByteArray)).size + t170.size ≤ 9223372036854775807) = true := decide_eq_true c10
              try have c10b2 : (9223372036854775807 < ((((((stW a0_0) ++ (⟨#[32]⟩ : ByteArray)) ++ t168) ++ (⟨#[47]⟩ : ByteArray)) ++ t169) ++ (⟨#[32, 100, 117, 101, 32]⟩ : ByteArray)).size + t170.size) = False := eq_false (Nat.not_lt.2 c10)
              have c10b3 : (9223372036854775807 < (stW a0_0).size + 1 + t168.size + 1 + t169.size + 5 + t170.size) = False := by have e_ := c10; simp only [ByteArray.size_append, show (⟨#[32]⟩ : ByteArray).size = 1 from rfl, show (⟨#[47]⟩ : ByteArray).size = 1 from rfl, show (⟨#[32, 100, 117, 101, 32]⟩ : ByteArray).size = 5 from rfl] at e_; exact eq_false (by omega)
              by_cases c11 : (((((((stW a0_0) ++ (⟨#[32]⟩ : ByteArray)) ++ t168) ++ (⟨#[47]⟩ : ByteArray)) ++ t169) ++ (⟨#[32, 100, 117, 101, 32]⟩ : ByteArray)) ++ t170).size + 4 ≤ 9223372036854775807
              · rw [if_pos c11] at H
                have c11b0 := eq_true c11
                have c11b1 : decide ((((((((stW a0_0) ++ (⟨#[32]⟩ : ByteArray)) ++ t168) ++ (⟨#[47]⟩ : ByteArray)) ++ t169) ++ (⟨#[32, 100, 117, 101, 32]⟩ : ByteArray)) ++ t170).size + 4 ≤ 9223372036854775807) = true := decide_eq_true c11
                try have c11b2 : (9223372036854775807 < (((((((stW a0_0) ++ (⟨#[32]⟩ : ByteArray)) ++ t168) ++ (⟨#[47]⟩ : ByteArray)) ++ t169) ++ (⟨#[32, 100, 117, 101, 32]⟩ : ByteArray)) ++ t170).size + 4) = False := eq_false (Nat.not_lt.2 c11)
                have c11b3 : (9223372036854775807 < (stW a0_0).size + 1 + t168.size + 1 + t169.size + 5 + t170.size + 4) = False := by have e_ := c11; simp only [ByteArray.size_append, show (⟨#[32]⟩ : ByteArray).size = 1 from rfl, show (⟨#[47]⟩ : ByteArray).size = 1 from rfl, show (⟨#[32, 100, 117, 101, 32]⟩ : ByteArray).size = 5 from rfl] at e_; exact eq_false (by omega)
                replace H := Option.bind_eq_some_iff.mp H
                obtain ⟨t171, A120, H⟩ := H
                replace H : (if ((((((((stW a0_0) ++ (⟨#[32]⟩ : ByteArray)) ++ t168) ++ (⟨#[47]⟩ : ByteArray)) ++ t169) ++ (⟨#[32, 100, 117, 101, 32]⟩ : ByteArray)) ++ t170) ++ (⟨#[32, 97, 116, 32]⟩ : ByteArray)).size + t171.size ≤ 9223372036854775807 then (some (((((((((stW a0_0) ++ (⟨#[32]⟩ : ByteArray)) ++ t168) ++ (⟨#[47]⟩ : ByteArray)) ++ t169) ++ (⟨#[32, 100, 117, 101, 32]⟩ : ByteArray)) ++ t170) ++ (⟨#[32, 97, 116, 32]⟩ : ByteArray)) ++ t171)) else (none)) = some r := H
                have A12 := Aside0.mk A120
                clear A120
                by_cases c13 : ((((((((stW a0_0) ++ (⟨#[32]⟩ : ByteArray)) ++ t168) ++ (⟨#[47]⟩ : ByteArray)) ++ t169) ++ (⟨#[32, 100, 117, 101, 32]⟩ : ByteArray)) ++ t170) ++ (⟨#[32, 97, 116, 32]⟩ : ByteArray)).size + t171.size ≤ 9223372036854775807
                · rw [if_pos c13] at H
                  have c13b0 := eq_true c13
                  have c13b1 : decide (((((((((stW a0_0) ++ (⟨#[32]⟩ : ByteArray)) ++ t168) ++ (⟨#[47]⟩ : ByteArray)) ++ t169) ++ (⟨#[32, 100, 117, 101, 32]⟩ : ByteArray)) ++ t170) ++ (⟨#[32, 97, 116, 32]⟩ : ByteArray)).size + t171.size ≤ 9223372036854775807) = true := decide_eq_true c13
                  try have c13b2 : (9223372036854775807 < ((((((((stW a0_0) ++ (⟨#[32]⟩ : ByteArray)) ++ t168) ++ (⟨#[47]⟩ : ByteArray)) ++ t169) ++ (⟨#[32, 100, 117, 101, 32]⟩ : ByteArray)) ++ t170) ++ (⟨#[32, 97, 116, 32]⟩ : ByteArray)).size + t171.size) = False := eq_false (Nat.not_lt.2 c13)
                  have c13b3 : (9223372036854775807 < (stW a0_0).size + 1 + t168.size + 1 + t169.size + 5 + t170.size + 4 + t171.size) = False := by have e_ := c13; simp only [ByteArray.size_append, show (⟨#[32]⟩ : ByteArray).size = 1 from rfl, show (⟨#[47]⟩ : ByteArray).size = 1 from rfl, show (⟨#[32, 100, 117, 101, 32]⟩ : ByteArray).size = 5 from rfl, show (⟨#[32, 97, 116, 32]⟩ : ByteArray).size = 4 from rfl] at e_; exact eq_false (by omega)
                  obtain rfl := Option.some.inj H
                  go_enter Tryd.func14, Tryd.ntmps14
                  try go_wp2_with (first | ((with_reducible refine gate_dst (N := 1) rfl ?_); refine box_event ?hg (N := 1) ?hd (cs := #[.int .i64 a0_0, .int .i64 a0_1, .int .i64 a0_2, .int .i64 a0_3, .int .i64 a0_4]) (t := 26) ?hr ?_; (case hd => rfl); (case hg => rfl); (case hr => first | (go_simp; done) | (go_simp; rfl)); intro gb167 hg w14 hbox hb; have n0_ := Aside0.mk (below_step (by repeat (first | (with_reducible first | exact HB.out | apply below_alloc | apply pw_below_drewN | apply below_drew1) | exact HB.out)) hb); have n1_ := Aside0.mk (hbox); have n2_ := Aside0.mk ((by rw [hg]; exact (below_size (by repeat (first | (with_reducible first | exact HB.out | apply below_alloc | apply pw_below_drewN | apply below_drew1) | exact HB.out))) : w.heap.size ≤ gb167)); have n3_ := Aside0.mk ((by rw [hg]; exact (below_size (by repeat (first | (with_reducible first | exact HB.out | apply below_alloc | apply pw_below_drewN | apply below_drew1) | exact HB.out))) : w.heap.size ≤ gb167)); clear HB; have HB := n0_; have BK167 := n1_; have GW167 := n2_; have GE167 := n3_; clear n0_ n1_ n2_ n3_; clear hb hbox hg))
                  have n0_ := Aside0.mk (blk_drew BK167.out)
                  have n1_ := Aside0.mk (below_drew1 HB.out)
                  clear BK167
                  clear HB
                  have BK167 := n0_
                  have HB := n1_
                  clear n0_ n1_
                  refine start_ (n := 25) (S := fun w' => w'.cell? ⟨gb167, 0, none⟩ = some (.int .i64 a0_0) ∧ w'.cell? ⟨gb167, 1, none⟩ = some (.int .i64 a0_1) ∧ w'.cell? ⟨gb167, 2, none⟩ = some (.int .i64 a0_2) ∧ w'.cell? ⟨gb167, 3, none⟩ = some (.int .i64 a0_3) ∧ w'.cell? ⟨gb167, 4, none⟩ = some (.int .i64 a0_4) ∧ w'.cell? ⟨0, a0_0.toNat, none⟩ = some (.string (stW a0_0))) (ds := []) #[false, false, false, false, false, false, false, false, false, false, false, false, false, false, false, false, false, false, false, false, false, false, false, false, false] (by kernel_rfl) rfl rfl ⟨(blk_cell BK167.out 0).trans rfl, (blk_cell BK167.out 1).trans rfl, (blk_cell BK167.out 2).trans rfl, (blk_cell BK167.out 3).trans rfl, (blk_cell BK167.out 4).trans rfl, TabW.word hTW HB.out hg0_ hg1_⟩ (fun hHeld => ?_); refine with_tabW impl_tripText.tab1 impl_tripText.bits1 (fun HT_ HW_ => ?_)
                  generalize w14.drew = w15 at BK167 HB hHeld ⊢
                  refine pure_ (i := 0) (N := some 3) (v := ?_) (a' := ?_) #[true, false, false, false, false, false, false, false, false, false, false, false, false, false, false, false, false, false, false, false, false, false, false, false, false] rfl rfl (any_of HT_.out (by kernel_rfl)) (fun _ _ _ h => h) (Or.inl ⟨by rfl, ?_⟩) ?_ ?_
                  rotate_left
                  · intro w'
                    go_simp
                    with_reducible rfl
                  rotate_left
                  · simp only [Act.put, List.setIfInBounds_toArray, List.set_cons_zero, List.set_cons_succ, i64_w, i32_w]
                    rfl
                  refine pure_ (i := 5) (N := some 8) (v := ?_) (a' := ?_) #[true, false, false, false, false, true, false, false, false, false, false, false, false, false, false, false, false, false, false, false, false, false, false, false, false] rfl rfl (any_of HT_.out (by kernel_rfl)) (fun _ _ _ h => h) (Or.inl ⟨by rfl, ?_⟩) ?_ ?_
                  rotate_left
                  · intro w'
                    go_simp
                    with_reducible rfl
                  rotate_left
                  · simp only [Act.put, List.setIfInBounds_toArray, List.set_cons_zero, List.set_cons_succ, i64_w, i32_w]
                    rfl
                  refine pure_ (i := 10) (N := some 13) (v := ?_) (a' := ?_) #[true, false, false, false, false, true, false, false, false, false, true, false, false, false, false, false, false, false, false, false, false, false, false, false, false] rfl rfl (any_of HT_.out (by kernel_rfl)) (fun _ _ _ h => h) (Or.inl ⟨by rfl, ?_⟩) ?_ ?_
                  rotate_left
                  · intro w'
                    go_simp
                    with_reducible rfl
                  rotate_left
                  · simp only [Act.put, List.setIfInBounds_toArray, List.set_cons_zero, List.set_cons_succ, i64_w, i32_w]
                    rfl
                  refine pure_ (i := 15) (N := some 18) (v := ?_) (a' := ?_) #[true, false, false, false, false, true, false, false, false, false, true, false, false, false, false, true, false, false, false, false, false, false, false, false, false] rfl rfl (any_of HT_.out (by kernel_rfl)) (fun _ _ _ h => h) (Or.inl ⟨by rfl, ?_⟩) ?_ ?_
                  rotate_left
                  · intro w'
                    go_simp
                    with_reducible rfl
                  rotate_left
                  · simp only [Act.put, List.setIfInBounds_toArray, List.set_cons_zero, List.set_cons_succ, i64_w, i32_w]
                    rfl
                  refine pure_ (i := 20) (N := some 23) (v := ?_) (a' := ?_) #[true, false, false, false, false, true, false, false, false, false, true, false, false, false, false, true, false, false, false, false, true, false, false, false, false] rfl rfl (any_of HT_.out (by kernel_rfl)) (fun _ _ _ h => h) (Or.inl ⟨by rfl, ?_⟩) ?_ ?_
                  rotate_left
                  · intro w'
                    go_simp
                    with_reducible rfl
                  rotate_left
                  · simp only [Act.put, List.setIfInBounds_toArray, List.set_cons_zero, List.set_cons_succ, i64_w, i32_w]
                    rfl
                  refine take_ (i := 1) (N := some 4) (v := ?_) (a' := ?_) #[true, true, false, false, false, true, false, false, false, false, true, false, false, false, false, true, false, false, false, false, true, false, false, false, false] rfl rfl (take_ofW HT_.out HW_.out (by kernel_rfl)) (fun _ _ _ h => h) (Or.inl ⟨by rfl, ?_⟩) hHeld ?_ ?_
                  rotate_left
                  · rintro w' ⟨s0, s1, s2, s3, s4, s5⟩
                    go_simp
                    with_reducible rfl
                  rotate_left
                  · simp only [Act.put, List.setIfInBounds_toArray, List.set_cons_zero, List.set_cons_succ, i64_w, i32_w]
                    rfl
                  refine pure_ (i := 2) (N := some 5) (v := ?_) (a' := ?_) #[true, true, true, false, false, true, false, false, false, false, true, false, false, false, false, true, false, false, false, false, true, false, false, false, false] rfl rfl (any_of HT_.out (by kernel_rfl)) (fun _ _ _ h => h) (Or.inl ⟨by rfl, ?_⟩) ?_ ?_
                  rotate_left
                  · intro w'
                    go_simp
                    with_reducible rfl
                  rotate_left
                  · simp only [Act.put, List.setIfInBounds_toArray, List.set_cons_zero, List.set_cons_succ, i64_w, i32_w]
                    rfl
                  refine take_ (i := 3) (N := some 6) (v := ?_) (a' := ?_) #[true, true, true, true, false, true, false, false, false, false, true, false, false, false, false, true, false, false, false, false, true, false, false, false, false] rfl rfl (take_ofW HT_.out HW_.out (by kernel_rfl)) (fun _ _ _ h => h) (Or.inl ⟨by rfl, ?_⟩) hHeld ?_ ?_
                  rotate_left
                  · rintro w' ⟨s0, s1, s2, s3, s4, s5⟩
                    go_simp
                    with_reducible rfl
                  rotate_left
                  · simp only [Act.put, List.setIfInBounds_toArray, List.set_cons_zero, List.set_cons_succ, i64_w, i32_w]
                    rfl
                  refine pure_ (i := 4) (N := some 7) (v := ?_) (a' := ?_) #[true, true, true, true, true, true, false, false, false, false, true, false, false, false, false, true, false, false, false, false, true, false, false, false, false] rfl rfl (any_of HT_.out (by kernel_rfl)) (fun _ _ _ h => h) (Or.inl ⟨by rfl, ?_⟩) ?_ ?_
                  rotate_left
                  · intro w'
                    go_simp
                    with_reducible rfl
                  rotate_left
                  · simp only [Act.put, List.setIfInBounds_toArray, List.set_cons_zero, List.set_cons_succ, i64_w, i32_w]
                    rfl
                  refine take_ (i := 6) (N := some 9) (v := ?_) (a' := ?_) #[true, true, true, true, true, true, true, false, false, false, true, false, false, false, false, true, false, false, false, false, true, false, false, false, false] rfl rfl (take_ofW HT_.out HW_.out (by kernel_rfl)) (fun _ _ _ h => h) (Or.inl ⟨by rfl, ?_⟩) hHeld ?_ ?_
                  rotate_left
                  · rintro w' ⟨s0, s1, s2, s3, s4, s5⟩
                    go_simp
                    with_reducible rfl
                  rotate_left
                  · simp only [Act.put, List.setIfInBounds_toArray, List.set_cons_zero, List.set_cons_succ, i64_w, i32_w]
                    rfl
                  refine take_ (i := 11) (N := some 14) (v := ?_) (a' := ?_) #[true, true, true, true, true, true, true, false, false, false, true, true, false, false, false, true, false, false, false, false, true, false, false, false, false] rfl rfl (take_ofW HT_.out HW_.out (by kernel_rfl)) (fun _ _ _ h => h) (Or.inl ⟨by rfl, ?_⟩) hHeld ?_ ?_
                  rotate_left
                  · rintro w' ⟨s0, s1, s2, s3, s4, s5⟩
                    go_simp
                    with_reducible rfl
                  rotate_left
                  · simp only [Act.put, List.setIfInBounds_toArray, List.set_cons_zero, List.set_cons_succ, i64_w, i32_w]
                    rfl
                  refine take_ (i := 16) (N := some 19) (v := ?_) (a' := ?_) #[true, true, true, true, true, true, true, false, false, false, true, true, false, false, false, true, true, false, false, false, true, false, false, false, false] rfl rfl (take_ofW HT_.out HW_.out (by kernel_rfl)) (fun _ _ _ h => h) (Or.inl ⟨by rfl, ?_⟩) hHeld ?_ ?_
                  rotate_left
                  · rintro w' ⟨s0, s1, s2, s3, s4, s5⟩
                    go_simp
                    with_reducible rfl
                  rotate_left
                  · simp only [Act.put, List.setIfInBounds_toArray, List.set_cons_zero, List.set_cons_succ, i64_w, i32_w]
                    rfl
                  refine take_ (i := 21) (N := some 24) (v := ?_) (a' := ?_) #[true, true, true, true, true, true, true, false, false, false, true, true, false, false, false, true, true, false, false, false, true, true, false, false, false] rfl rfl (take_ofW HT_.out HW_.out (by kernel_rfl)) (fun _ _ _ h => h) (Or.inl ⟨by rfl, ?_⟩) hHeld ?_ ?_
                  rotate_left
                  · rintro w' ⟨s0, s1, s2, s3, s4, s5⟩
                    go_simp
                    with_reducible rfl
                  rotate_left
                  · simp only [Act.put, List.setIfInBounds_toArray, List.set_cons_zero, List.set_cons_succ, i64_w, i32_w]
                    rfl
                  refine one_ (i := 7) (N := some 10) #[true, true, true, true, true, true, true, true, false, false, true, true, false, false, false, true, true, false, false, false, true, true, false, false, false] rfl rfl (one_of HT_.out (by kernel_rfl)) (by decide) (fun K hK => ?_)
                  refine goes_ Tryd.func28 (by kernel_rfl) rfl #[.int .i64 a0_2] (by rfl) rfl rfl (by (try simp only [List.map_toArray, List.map_cons, List.map_nil]); first | done | rfl | (simp only [List.length_drop, List.length_take]; rfl)) ?_
                  with_reducible refine (impl_decimal.calls a0_2 t168 _ A3.out (TabW.up2 hTW HB.out)).mono ?_
                  rintro e w16 ⟨rfl, hb⟩
                  refine ⟨_, rfl, ?_⟩
                  have n0_ := Aside0.mk (blk_below (g := gb167) (o := .cells #[.int .i64 a0_0, .int .i64 a0_1, .int .i64 a0_2, .int .i64 a0_3, .int .i64 a0_4] 26 (0, 0)) (by (with_reducible repeat (first | refine blk_drewN ?_ _ | refine blk_drew ?_ | refine blk_alloc ?_ _)); exact BK167.out) hb)
                  have n1_ := Aside0.mk (below_step (by repeat (first | (with_reducible first | exact HB.out | apply below_alloc | apply pw_below_drewN | apply below_drew1 | refine below_set ?_ GE167.out) | exact HB.out)) hb)
                  clear BK167
                  clear HB
                  have BK167 := n0_
                  have HB := n1_
                  clear n0_ n1_
                  (try clear hb)
                  (try clear hb2)
                  (try clear hk)
                  (try clear hi)
                  refine hK.out _ _ ⟨(blk_cell BK167.out 0).trans rfl, (blk_cell BK167.out 1).trans rfl, (blk_cell BK167.out 2).trans rfl, (blk_cell BK167.out 3).trans rfl, (blk_cell BK167.out 4).trans rfl, TabW.word hTW HB.out hg0_ hg1_⟩ (fun hHeld => ?_)
                  clear hK K
                  refine norm_ (a' := ?_) ?_ ?_
                  rotate_left
                  · show Act.put _ (some 10) _ = _
                    simp only [Act.put, List.setIfInBounds_toArray, List.set_cons_zero, List.set_cons_succ, i64_w, i32_w]
                    rfl
                  refine pure_ (i := 8) (N := some 11) (v := ?_) (a' := ?_) #[true, true, true, true, true, true, true, true, true, false, true, true, false, false, false, true, true, false, false, false, true, true, false, false, false] rfl rfl (any_of HT_.out (by kernel_rfl)) (fun _ _ _ h => h) (Or.inl ⟨by rfl, ?_⟩) ?_ ?_
                  rotate_left
                  · intro w'
                    go_simp
                    with_reducible rfl
                  rotate_left
                  · simp only [Act.put, List.setIfInBounds_toArray, List.set_cons_zero, List.set_cons_succ, i64_w, i32_w]
                    rfl
                  refine pure_ (i := 9) (N := some 12) (v := ?_) (a' := ?_) #[true, true, true, true, true, true, true, true, true, true, true, true, false, false, false, true, true, false, false, false, true, true, false, false, false] rfl rfl (any_of HT_.out (by kernel_rfl)) (fun _ _ _ h => h) (Or.inl ⟨by rfl, ?_⟩) ?_ ?_
                  rotate_left
                  · intro w'
                    go_simp
                    with_reducible rfl
                  rotate_left
                  · simp only [Act.put, List.setIfInBounds_toArray, List.set_cons_zero, List.set_cons_succ, i64_w, i32_w]
                    rfl
                  refine one_ (i := 12) (N := some 15) #[true, true, true, true, true, true, true, true, true, true, true, true, true, false, false, true, true, false, false, false, true, true, false, false, false] rfl rfl (one_of HT_.out (by kernel_rfl)) (by decide) (fun K hK => ?_)
                  refine goes_ Tryd.func28 (by kernel_rfl) rfl #[.int .i64 a0_1] (by rfl) rfl rfl (by (try simp only [List.map_toArray, List.map_cons, List.map_nil]); first | done | rfl | (simp only [List.length_drop, List.length_take]; rfl)) ?_
                  with_reducible refine (impl_decimal.calls a0_1 t169 _ A6.out (TabW.up2 hTW HB.out)).mono ?_
                  rintro e w17 ⟨rfl, hb⟩
                  refine ⟨_, rfl, ?_⟩
                  have n0_ := Aside0.mk (blk_below (g := gb167) (o := .cells #[.int .i64 a0_0, .int .i64 a0_1, .int .i64 a0_2, .int .i64 a0_3, .int .i64 a0_4] 26 (0, 0)) (by (with_reducible repeat (first | refine blk_drewN ?_ _ | refine blk_drew ?_ | refine blk_alloc ?_ _)); exact BK167.out) hb)
                  have n1_ := Aside0.mk (below_step (by repeat (first | (with_reducible first | exact HB.out | apply below_alloc | apply pw_below_drewN | apply below_drew1 | refine below_set ?_ GE167.out) | exact HB.out)) hb)
                  clear BK167
                  clear HB
                  have BK167 := n0_
                  have HB := n1_
                  clear n0_ n1_
                  (try clear hb)
                  (try clear hb2)
                  (try clear hk)
                  (try clear hi)
                  refine hK.out _ _ ⟨(blk_cell BK167.out 0).trans rfl, (blk_cell BK167.out 1).trans rfl, (blk_cell BK167.out 2).trans rfl, (blk_cell BK167.out 3).trans rfl, (blk_cell BK167.out 4).trans rfl, TabW.word hTW HB.out hg0_ hg1_⟩ (fun hHeld => ?_)
                  clear hK K
                  refine norm_ (a' := ?_) ?_ ?_
                  rotate_left
                  · show Act.put _ (some 15) _ = _
                    simp only [Act.put, List.setIfInBounds_toArray, List.set_cons_zero, List.set_cons_succ, i64_w, i32_w]
                    rfl
                  refine pure_ (i := 13) (N := some 16) (v := ?_) (a' := ?_) #[true, true, true, true, true, true, true, true, true, true, true, true, true, true, false, true, true, false, false, false, true, true, false, false, false] rfl rfl (any_of HT_.out (by kernel_rfl)) (fun _ _ _ h => h) (Or.inl ⟨by rfl, ?_⟩) ?_ ?_
                  rotate_left
                  · intro w'
                    go_simp
                    with_reducible rfl
                  rotate_left
                  · simp only [Act.put, List.setIfInBounds_toArray, List.set_cons_zero, List.set_cons_succ, i64_w, i32_w]
                    rfl
                  refine pure_ (i := 14) (N := some 17) (v := ?_) (a' := ?_) #[true, true, true, true, true, true, true, true, true, true, true, true, true, true, true, true, true, false, false, false, true, true, false, false, false] rfl rfl (any_of HT_.out (by kernel_rfl)) (fun _ _ _ h => h) (Or.inl ⟨by rfl, ?_⟩) ?_ ?_
                  rotate_left
                  · intro w'
                    go_simp
                    with_reducible rfl
                  rotate_left
                  · simp only [Act.put, List.setIfInBounds_toArray, List.set_cons_zero, List.set_cons_succ, i64_w, i32_w]
                    rfl
                  refine one_ (i := 17) (N := some 20) #[true, true, true, true, true, true, true, true, true, true, true, true, true, true, true, true, true, true, false, false, true, true, false, false, false] rfl rfl (one_of HT_.out (by kernel_rfl)) (by decide) (fun K hK => ?_)
                  refine goes_ Tryd.func28 (by kernel_rfl) rfl #[.int .i64 a0_3] (by rfl) rfl rfl (by (try simp only [List.map_toArray, List.map_cons, List.map_nil]); first | done | rfl | (simp only [List.length_drop, List.length_take]; rfl)) ?_
                  with_reducible refine (impl_decimal.calls a0_3 t170 _ A9.out (TabW.up2 hTW HB.out)).mono ?_
                  rintro e w18 ⟨rfl, hb⟩
                  refine ⟨_, rfl, ?_⟩
                  have n0_ := Aside0.mk (blk_below (g := gb167) (o := .cells #[.int .i64 a0_0, .int .i64 a0_1, .int .i64 a0_2, .int .i64 a0_3, .int .i64 a0_4] 26 (0, 0)) (by (with_reducible repeat (first | refine blk_drewN ?_ _ | refine blk_drew ?_ | refine blk_alloc ?_ _)); exact BK167.out) hb)
                  have n1_ := Aside0.mk (below_step (by repeat (first | (with_reducible first | exact HB.out | apply below_alloc | apply pw_below_drewN | apply below_drew1 | refine below_set ?_ GE167.out) | exact HB.out)) hb)
                  clear BK167
                  clear HB
                  have BK167 := n0_
                  have HB := n1_
                  clear n0_ n1_
                  (try clear hb)
                  (try clear hb2)
                  (try clear hk)
                  (try clear hi)
                  refine hK.out _ _ ⟨(blk_cell BK167.out 0).trans rfl, (blk_cell BK167.out 1).trans rfl, (blk_cell BK167.out 2).trans rfl, (blk_cell BK167.out 3).trans rfl, (blk_cell BK167.out 4).trans rfl, TabW.word hTW HB.out hg0_ hg1_⟩ (fun hHeld => ?_)
                  clear hK K
                  refine norm_ (a' := ?_) ?_ ?_
                  rotate_left
                  · show Act.put _ (some 20) _ = _
                    simp only [Act.put, List.setIfInBounds_toArray, List.set_cons_zero, List.set_cons_succ, i64_w, i32_w]
                    rfl
                  refine pure_ (i := 18) (N := some 21) (v := ?_) (a' := ?_) #[true, true, true, true, true, true, true, true, true, true, true, true, true, true, true, true, true, true, true, false, true, true, false, false, false] rfl rfl (any_of HT_.out (by kernel_rfl)) (fun _ _ _ h => h) (Or.inl ⟨by rfl, ?_⟩) ?_ ?_
                  rotate_left
                  · intro w'
                    go_simp
                    with_reducible rfl
                  rotate_left
                  · simp only [Act.put, List.setIfInBounds_toArray, List.set_cons_zero, List.set_cons_succ, i64_w, i32_w]
                    rfl
                  refine pure_ (i := 19) (N := some 22) (v := ?_) (a' := ?_) #[true, true, true, true, true, true, true, true, true, true, true, true, true, true, true, true, true, true, true, true, true, true, false, false, false] rfl rfl (any_of HT_.out (by kernel_rfl)) (fun _ _ _ h => h) (Or.inl ⟨by rfl, ?_⟩) ?_ ?_
                  rotate_left
                  · intro w'
                    go_simp
                    with_reducible rfl
                  rotate_left
                  · simp only [Act.put, List.setIfInBounds_toArray, List.set_cons_zero, List.set_cons_succ, i64_w, i32_w]
                    rfl
                  refine one_ (i := 22) (N := some 25) #[true, true, true, true, true, true, true, true, true, true, true, true, true, true, true, true, true, true, true, true, true, true, true, false, false] rfl rfl (one_of HT_.out (by kernel_rfl)) (by decide) (fun K hK => ?_)
                  refine goes_ Tryd.func28 (by kernel_rfl) rfl #[.int .i64 a0_4] (by rfl) rfl rfl (by (try simp only [List.map_toArray, List.map_cons, List.map_nil]); first | done | rfl | (simp only [List.length_drop, List.length_take]; rfl)) ?_
                  with_reducible refine (impl_decimal.calls a0_4 t171 _ A12.out (TabW.up2 hTW HB.out)).mono ?_
                  rintro e w19 ⟨rfl, hb⟩
                  refine ⟨_, rfl, ?_⟩
                  have n0_ := Aside0.mk (blk_below (g := gb167) (o := .cells #[.int .i64 a0_0, .int .i64 a0_1, .int .i64 a0_2, .int .i64 a0_3, .int .i64 a0_4] 26 (0, 0)) (by (with_reducible repeat (first | refine blk_drewN ?_ _ | refine blk_drew ?_ | refine blk_alloc ?_ _)); exact BK167.out) hb)
                  have n1_ := Aside0.mk (below_step (by repeat (first | (with_reducible first | exact HB.out | apply below_alloc | apply pw_below_drewN | apply below_drew1 | refine below_set ?_ GE167.out) | exact HB.out)) hb)
                  clear BK167
                  clear HB
                  have BK167 := n0_
                  have HB := n1_
                  clear n0_ n1_
                  (try clear hb)
                  (try clear hb2)
                  (try clear hk)
                  (try clear hi)
                  refine hK.out _ _ ⟨(blk_cell BK167.out 0).trans rfl, (blk_cell BK167.out 1).trans rfl, (blk_cell BK167.out 2).trans rfl, (blk_cell BK167.out 3).trans rfl, (blk_cell BK167.out 4).trans rfl, TabW.word hTW HB.out hg0_ hg1_⟩ (fun hHeld => ?_)
                  clear hK K
                  refine norm_ (a' := ?_) ?_ ?_
                  rotate_left
                  · show Act.put _ (some 25) _ = _
                    simp only [Act.put, List.setIfInBounds_toArray, List.set_cons_zero, List.set_cons_succ, i64_w, i32_w]
                    rfl
                  refine pure_ (i := 23) (N := some 26) (v := ?_) (a' := ?_) #[true, true, true, true, true, true, true, true, true, true, true, true, true, true, true, true, true, true, true, true, true, true, true, true, false] rfl rfl (any_of HT_.out (by kernel_rfl)) (fun _ _ _ h => h) (Or.inl ⟨by rfl, ?_⟩) ?_ ?_
                  rotate_left
                  · intro w'
                    go_simp
                    with_reducible rfl
                  rotate_left
                  · simp only [Act.put, List.setIfInBounds_toArray, List.set_cons_zero, List.set_cons_succ, i64_w, i32_w]
                    rfl
                  refine pure_ (i := 24) (N := some 2) (v := ?_) (a' := ?_) #[true, true, true, true, true, true, true, true, true, true, true, true, true, true, true, true, true, true, true, true, true, true, true, true, true] rfl rfl (any_of HT_.out (by kernel_rfl)) (fun _ _ _ h => h) (Or.inl ⟨by rfl, ?_⟩) ?_ ?_
                  rotate_left
                  · intro w'
                    go_simp
                    with_reducible rfl
                  rotate_left
                  · simp only [Act.put, List.setIfInBounds_toArray, List.set_cons_zero, List.set_cons_succ, i64_w, i32_w]
                    rfl
                  refine done_ (done_of HT_.out (by kernel_rfl)) ?_
                  try go_wp2
                  go_ret
                  exact ⟨by first | rfl | (simp [errW_none, errW_some] <;> rfl) | (simp [*, errW_none, errW_some] <;> rfl), by repeat (first | (with_reducible first | exact HB.out | apply below_alloc | apply pw_below_drewN | apply below_drew1 | refine below_set ?_ GE167.out) | exact HB.out)⟩
                · rw [if_neg c13] at H
                  exact absurd H (by simp)
              · rw [if_neg c11] at H
                exact absurd H (by simp)
            · rw [if_neg c10] at H
              exact absurd H (by simp)
          · rw [if_neg c8] at H
            exact absurd H (by simp)
        · rw [if_neg c7] at H
          exact absurd H (by simp)
      · rw [if_neg c5] at H
        exact absurd H (by simp)
    · rw [if_neg c4] at H
      exact absurd H (by simp)
  · rw [if_neg c2] at H
    exact absurd H (by simp)

/-! ### strings_Split: function 17 -/
-- calls: none

def strings_Split.f (s sep : ByteArray) : Option (List ByteArray) := if s.size < 4294967281 ∧ 1 ≤ sep.size then some (Lib.splitB sep 0 (Lib.countB s sep) s) else none
theorem reps_strings_ (w : World) (base : Nat) (ok : Nat → Prop) : ∀ l : List ByteArray, Reps (Kd.string.M w base ok) 1 l (l.map Value.string) := by
  intro l
  refine ⟨by simp, fun j p hj => ?_⟩
  show ((l.map Value.string).drop (j * 1)).take 1 = [Value.string p]
  obtain ⟨hlt, rfl⟩ := List.getElem?_eq_some_iff.1 hj
  rw [Nat.mul_one, List.drop_eq_getElem_cons (by simpa using hlt)]
  simp
theorem strings_Split.calls (a0 : ByteArray) (a1 : ByteArray) (r : List ByteArray) (w : World) (h : strings_Split.f a0 a1 = some r) (hT : TabW w) :
    Calls Tryd.prog 17 #[.string a0, .string a1] w fun e w' => ∃ v0_ : Value, e = .returned (v0_) ∧ Kd.R Kd.string 9 w' w.heap.size (fun _ => True) v0_ r ∧ Below w.heap.size w w' := by
  obtain ⟨⟨h0, h1⟩, h⟩ := guard_some h
  obtain rfl := Option.some.inj h
  obtain ⟨m, hm⟩ := hT.2.2.1
  have hle := Lib.countB_le a1 h1 a0.size a0 (Nat.le_refl _)
  have hlen := Lib.splitB_all a1 h1 0 _ a0 rfl
  refine (Any.strings_Split Tryd.lays146 (by kernel_rfl) a0 a1 m w h0 hm h1).mono ?_
  rintro e w' ⟨rfl, hw⟩
  generalize hL : Lib.splitB a1 0 (Lib.countB a0 a1) a0 = L at hw hlen
  have hw' : w' = w.alloc (.cells (L.map Value.string).toArray 9) := hw
  subst hw'
  refine ⟨_, rfl, ?_, below_alloc (Below.refl _ _) _⟩
  refine ⟨fun _ _ => trivial, L.map Value.string, ⟨by rw [List.length_map]; exact (Nat.mul_one _).symm, .inr ⟨w.heap.size, Lib.countB a0 a1 + 1, (L.map Value.string).toArray, by rw [hlen], Nat.le_refl _, by simpa using heap_alloc_new w _, by rw [hlen]; exact Nat.le_refl _, by unfold maxLen; omega, by rw [List.size_toArray, List.length_map, hlen]; exact (Nat.mul_one _).symm, by rw [List.toList_toArray]; exact List.take_of_length_le (by rw [List.length_map]; exact Nat.le_of_eq (Nat.mul_one _).symm)⟩⟩, reps_strings_ _ _ _ _⟩

/-! ### slices_Index_string_string: function 18 -/
def slices_Index_string_string.l0 : Nat → List ByteArray → ByteArray → Int → Int → Option (Int)
  | 0, _, _, _, _ => none
  | k + 1, x0, x1, x7, x8 => if x8 < x7 then (if 0 ≤ x8 then (if x8 < (x0.length : Int) then (if x1.toList = (rdOf ByteArray.empty x0 x8).toList then (some x8) else (slices_Index_string_string.l0 k x0 x1 x7 (wrap64 (x8 + 1)))) else (none)) else (none)) else (some (-1))
def slices_Index_string_string.f (k : Nat) (l0 : List ByteArray) (a1 : ByteArray) : Option (Int) := slices_Index_string_string.l0 k l0 a1 (l0.length : Int) 0
theorem slices_Index_string_string.mono_l : ∀ k, (∀ y0 y1 y2 y3, LeO (slices_Index_string_string.l0 k y0 y1 y2 y3) (slices_Index_string_string.l0 (k + 1) y0 y1 y2 y3))
  | 0 => fun _ _ _ _ r h => by simp [slices_Index_string_string.l0] at h
  | k + 1 => by
    have ih0 := slices_Index_string_string.mono_l k
    · intro y0 y1 y2 y3
      unfold slices_Index_string_string.l0
      repeat' first
      | (with_reducible exact ih0 _ _ _ _)
      | (with_reducible exact LeO.refl _)
      | (with_reducible exact LeO.none _)
      | (with_reducible refine LeO.ite ?_ ?_)
      | (with_reducible refine LeO.bind ?_ (fun _ => ?_))
      | exact ih0 _ _ _ _
      | exact LeO.none _
      | refine LeO.ite ?_ ?_
      | refine LeO.bind ?_ (fun _ => ?_)
theorem slices_Index_string_string.mono : ∀ a0 a1 k, LeO (slices_Index_string_string.f k a0 a1) (slices_Index_string_string.f (k + 1) a0 a1) := by
  intro a0 a1 k
  have ih0 := slices_Index_string_string.mono_l k
  unfold slices_Index_string_string.f
  repeat' first
      | (with_reducible exact ih0 _ _ _ _)
      | (with_reducible exact LeO.refl _)
      | (with_reducible exact LeO.none _)
      | (with_reducible refine LeO.ite ?_ ?_)
      | (with_reducible refine LeO.bind ?_ (fun _ => ?_))
      | exact ih0 _ _ _ _
      | exact LeO.none _
      | refine LeO.ite ?_ ?_
      | refine LeO.bind ?_ (fun _ => ?_)
set_option maxHeartbeats 8000000 in
set_option maxRecDepth 100000 in
theorem slices_Index_string_string.calls (k : Nat) (A0 : Option Addr) (c0 : Nat) (l0 : List ByteArray) (a1 : ByteArray) (r : Int) (w : World) (hr0 : Kd.C Kd.string w A0 l0.length l0) (hc0 : l0.length ≤ c0) (h : slices_Index_string_string.f k l0 a1 = some r) :
    Calls Tryd.prog 18 #[.slice A0 l0.length c0, .string a1] w fun e w' => e = .returned (.int .i64 r) ∧ Drawn0 w w' := by
  have HR0 := Aside0.mk hr0
  have HC0 := Aside0.mk hc0
  clear hr0 hc0
  have H : (slices_Index_string_string.l0 k l0 a1 (l0.length : Int) 0) = some r := h
  clear h
  have H' := Aside0.mk H
  clear H
  go_enter Tryd.func18, Tryd.ntmps18
  go_wp2
  go_loopg [8] k (fun kq v8 w' => ∃ (x8_1 : Int), v8 = .int .i64 x8_1 ∧ Aside0 (slices_Index_string_string.l0 kq l0 a1 (l0.length : Int) x8_1 = some r) ∧ Aside0 (kq ≤ k) ∧ Drawn0 w w')
  case atStart => exact ⟨(0), (by first | rfl | (simp; done) | (simp [*]; done)), H', ⟨Nat.le_refl _⟩, by repeat (first | exact Drawn0.refl _ | apply Drawn0.step)⟩
  case round =>
    clear H'
    try clear c1
    try clear p2
    obtain ⟨x8_1, rfl, HA, HK1, ⟨m1, rfl⟩⟩ := hrel
    cases gk with
    | zero => exact absurd HA.out (by simp [slices_Index_string_string.l0])
    | succ k1 =>
      have H := HA.out
      clear HA
      simp only [slices_Index_string_string.l0] at H
      by_cases c3 : x8_1 < (l0.length : Int)
      · rw [if_pos c3] at H
        have c3b0 : decide (x8_1 < (l0.length : Int)) = true := decide_eq_true c3
        clear c3
        by_cases c4 : 0 ≤ x8_1
        · rw [if_pos c4] at H
          have c4b0 : decide (0 ≤ x8_1) = true := decide_eq_true c4
          clear c4
          by_cases c5 : x8_1 < (l0.length : Int)
          · rw [if_pos c5] at H
            have c5b0 : decide (x8_1 < (l0.length : Int)) = true := decide_eq_true c5
            clear c5
            by_cases c6 : a1.toList = (rdOf ByteArray.empty l0 x8_1).toList
            · rw [if_pos c6] at H
              have c6b0 : (a1.toList == (rdOf ByteArray.empty l0 x8_1).toList) = true := beq_iff_eq.mpr c6
              have c6b1 : (a1.toList != (rdOf ByteArray.empty l0 x8_1).toList) = false := bne_eq_false_iff_eq.mpr c6
              clear c6
              obtain rfl := Option.some.inj H
              have p172 : 0 ≤ (x8_1 : Int) := of_decide_eq_true (by first | (with_reducible assumption) | assumption)
              have q172 : x8_1 < (l0.length : Int) := of_decide_eq_true (by first | (with_reducible assumption) | assumption)
              obtain ⟨ad172, e172, hx172_0⟩ := Kd.at_string HR0.out x8_1 p172 q172
              cases e172
              replace p172 := eq_true p172
              replace q172 := eq_true q172
              go_wp2
              go_ret
              exact ⟨by first | rfl | (simp; done) | (simp [*]; done), by repeat (first | exact Drawn0.refl _ | apply Drawn0.step)⟩
            · rw [if_neg c6] at H
              have c6b0 : (a1.toList == (rdOf ByteArray.empty l0 x8_1).toList) = false := beq_eq_false_iff_ne.mpr c6
              have c6b1 : (a1.toList != (rdOf ByteArray.empty l0 x8_1).toList) = true := bne_iff_ne.mpr c6
              have H' := Aside0.mk H
              clear H
              have p172 : 0 ≤ (x8_1 : Int) := of_decide_eq_true (by first | (with_reducible assumption) | assumption)
              have q172 : x8_1 < (l0.length : Int) := of_decide_eq_true (by first | (with_reducible assumption) | assumption)
              obtain ⟨ad172, e172, hx172_0⟩ := Kd.at_string HR0.out x8_1 p172 q172
              cases e172
              replace p172 := eq_true p172
              replace q172 := eq_true q172
              go_wp2
              go_roundg k1
              case measure => have := HK1.out; omega
              case rel => exact ⟨(wrap64 (x8_1 + 1)), (by first | rfl | (simp; done) | (simp [*]; done)), H', ⟨by have := HK1.out; omega⟩, by repeat (first | exact Drawn0.refl _ | apply Drawn0.step)⟩
          · rw [if_neg c5] at H
            exact absurd H (by simp)
        · rw [if_neg c4] at H
          exact absurd H (by simp)
      · rw [if_neg c3] at H
        have c3b0 : decide (x8_1 < (l0.length : Int)) = false := decide_eq_false c3
        clear c3
        obtain rfl := Option.some.inj H
        go_wp2
        go_ret
        exact ⟨by first | rfl | (simp; done) | (simp [*]; done), by repeat (first | exact Drawn0.refl _ | apply Drawn0.step)⟩

/-! ### strings_Cut: function 19 -/
-- calls: none

def strings_Cut.f (s sep : ByteArray) : Option (ByteArray × ByteArray × Bool) := if s.size < 4294967281 then some ((⟨(Lib.cut s.data.toList sep.data.toList).1.toArray⟩ : ByteArray), (⟨(Lib.cut s.data.toList sep.data.toList).2.1.toArray⟩ : ByteArray), (Lib.cut s.data.toList sep.data.toList).2.2) else none
theorem strings_Cut.calls (a0 : ByteArray) (a1 : ByteArray) (r1 : ByteArray) (r2 : ByteArray) (r3 : Bool) (w : World) (h : strings_Cut.f a0 a1 = some (r1, r2, r3)) (hT : TabW w) :
    Calls Tryd.prog 19 #[.string a0, .string a1] w fun e w' => e = .returned (.tuple #[.string r1, .string r2, .bool r3]) ∧ Below w.heap.size w w' := by
  obtain ⟨h0, h1⟩ := guard_some h
  clear h
  obtain ⟨e1, h2⟩ := Prod.mk.inj (Option.some.inj h1)
  obtain ⟨e2, e3⟩ := Prod.mk.inj h2
  subst e1 e2 e3
  obtain ⟨m, hm⟩ := hT.2.2.1
  refine (Any.strings_Cut Tryd.lays145 a0 a1 m w h0 hm).mono ?_
  rintro e w' ⟨rfl, n, rfl⟩
  exact ⟨rfl, pw_below_drewN (Below.refl _ _) n⟩

/-! ### impl_ParseInt: function 31 -/
-- calls: none
-- reaches: impl.decimal
-- reaches: impl.within
def parI (s : ByteArray) : Int × Bool := match Lib.atoiAll s.data.toList with
  | .ok v => if (⟨(Lib.itoa v).toArray⟩ : ByteArray).toList = s.toList then (if -999999 ≤ v ∧ v ≤ 999999 then (v, true) else (0, false)) else (0, false)
  | _ => (0, false)
def impl_ParseInt.f (a0 : ByteArray) : Option (Int × Bool) := if a0.size ≤ 281474976710656 then some (parI a0) else none
set_option maxHeartbeats 4000000 in
set_option maxRecDepth 100000 in
theorem impl_ParseInt.calls (a0 : ByteArray) (r1 : Int) (r2 : Bool) (w : World) (h : impl_ParseInt.f a0 = some (r1, r2)) (hTW : TabW w) :
    Calls Tryd.prog 31 #[.string a0] w fun e w' => e = .returned (.tuple #[.int .i64 r1, .bool r2]) ∧ Below w.heap.size w w' := by
  obtain ⟨hs, h⟩ := guard_some h
  have HR := Option.some.inj h
  clear h
  unfold parI at HR
  have bad : (∃ (x : Int) (t : TypeId) (p : Value), Calls Tryd.prog 37 #[.string a0] w fun e w' => (∃ q, e = .returned (.tuple #[.int .i64 x, .iface t (.pointer q)])) ∧ Below w.heap.size w w') → (r1, r2) = ((0 : Int), false) → Calls Tryd.prog 31 #[.string a0] w fun e w' => e = .returned (.tuple #[.int .i64 r1, .bool r2]) ∧ Below w.heap.size w w' := by
    rintro ⟨x, t, p, hcon⟩ hr
    obtain ⟨rfl, rfl⟩ := Prod.mk.inj hr
    clear hTW hs HR hr
    go_enter Tryd.func31, Tryd.ntmps31
    go_wp2_with (go_at_call 37; refine hcon.mono ?_; rintro e w1 ⟨⟨q, rfl⟩, hb⟩; have HB := Aside0.mk hb; clear hb)
    go_ret2
    exact ⟨rfl, HB.out⟩
  rcases hA : Lib.atoiAll a0.data.toList with v | _ | _
  rotate_left
  · skip
    rw [hA] at HR
    obtain ⟨ev, hv, hev⟩ := hTW.2.2.2.1
    refine bad ⟨0, Tryd.lays172_ren.t 168, .nilIface, (Any.strconv_Atoi_syntax Tryd.lays172 a0 (by omega) hA ev w hv hev).mono ?_⟩ HR.symm
    rintro e w' ⟨N, rfl, _, _, hb⟩
    exact ⟨⟨_, rfl⟩, hb⟩
  · skip
    rw [hA] at HR
    obtain ⟨ev, hv, hev⟩ := hTW.2.2.2.2
    refine bad ⟨Lib.atoiSat a0.data.toList, Tryd.lays172_ren.t 168, .nilIface, (Any.strconv_Atoi_range Tryd.lays172 a0 (by omega) hA ev w hv hev).mono ?_⟩ HR.symm
    rintro e w' ⟨N, rfl, _, _, hb⟩
    exact ⟨⟨_, rfl⟩, hb⟩
  · skip
    rw [hA] at HR
    dsimp only at HR
    obtain ⟨b0, b1⟩ := Lib.atoiAll_bounds hA
    have hcon : Calls Tryd.prog 37 #[.string a0] w fun e w' => e = .returned (.tuple #[.int .i64 v, .nilIface]) ∧ Below w.heap.size w w' := by
      refine (Any.strconv_Atoi_ok Tryd.lays172 a0 (by omega) v hA w).mono ?_
      rintro e w' ⟨rfl, hw⟩
      refine ⟨rfl, ?_⟩
      rcases hw with rfl | ⟨t, rfl⟩
      · exact Below.refl _ _
      · exact Lib.bytesWorld_below _ _ _
    have hdec : impl_decimal.f v = some (⟨(Lib.itoa v).toArray⟩ : ByteArray) := by
      unfold impl_decimal.f
      rw [if_pos ⟨b0, b1⟩]
    have A1 := Aside0.mk hcon
    have A2 := Aside0.mk hdec
    clear hcon hdec hA bad hs
    generalize (⟨(Lib.itoa v).toArray⟩ : ByteArray) = t at A2 HR
    have hin : impl_within.f v (-999999) 999999 = some (decide (-999999 ≤ v ∧ v ≤ 999999)) := by
      unfold impl_within.f
      by_cases h : v ≥ -999999 <;> simp [h] <;> omega
    have A3 := Aside0.mk hin
    clear hin
    by_cases c1 : t.toList = a0.toList
    · rw [if_pos c1] at HR
      have c1b0 : (t.toList == a0.toList) = true := beq_iff_eq.mpr c1
      have c1b1 : (t.toList != a0.toList) = false := bne_eq_false_iff_eq.mpr c1
      clear c1
      by_cases c2 : -999999 ≤ v ∧ v ≤ 999999
      · rw [if_pos c2] at HR
        obtain ⟨rfl, rfl⟩ := Prod.mk.inj HR
        rw [decide_eq_true c2] at A3
        clear HR c2 b0 b1
        go_enter Tryd.func31, Tryd.ntmps31
        go_wp2_with (first | (go_at_call 37; refine A1.out.mono ?_; rintro e w1 ⟨rfl, hb⟩; have HB := Aside0.mk hb; clear hb) | (go_at_call 28; refine (impl_decimal.calls _ _ _ A2.out (TabW.up HB hTW)).mono ?_; rintro e w2 ⟨rfl, hb⟩; have HB2 := Aside0.mk (below_step HB.out hb); clear hb HB; have HB := HB2; clear HB2) | (go_at_call 26; refine (impl_within.calls _ _ _ _ _ A3.out).mono ?_; rintro e w3 ⟨rfl, hd⟩; have hb := hd.below; clear hd; have HB2 := Aside0.mk (below_step HB.out hb); clear hb HB; have HB := HB2; clear HB2))
        go_ret2
        exact ⟨rfl, HB.out⟩
      · rw [if_neg c2] at HR
        obtain ⟨rfl, rfl⟩ := Prod.mk.inj HR
        rw [decide_eq_false c2] at A3
        clear HR c2 b0 b1
        go_enter Tryd.func31, Tryd.ntmps31
        go_wp2_with (first | (go_at_call 37; refine A1.out.mono ?_; rintro e w1 ⟨rfl, hb⟩; have HB := Aside0.mk hb; clear hb) | (go_at_call 28; refine (impl_decimal.calls _ _ _ A2.out (TabW.up HB hTW)).mono ?_; rintro e w2 ⟨rfl, hb⟩; have HB2 := Aside0.mk (below_step HB.out hb); clear hb HB; have HB := HB2; clear HB2) | (go_at_call 26; refine (impl_within.calls _ _ _ _ _ A3.out).mono ?_; rintro e w3 ⟨rfl, hd⟩; have hb := hd.below; clear hd; have HB2 := Aside0.mk (below_step HB.out hb); clear hb HB; have HB := HB2; clear HB2))
        go_ret2
        exact ⟨rfl, HB.out⟩
    · rw [if_neg c1] at HR
      obtain ⟨rfl, rfl⟩ := Prod.mk.inj HR
      have c1b0 : (t.toList == a0.toList) = false := beq_eq_false_iff_ne.mpr c1
      have c1b1 : (t.toList != a0.toList) = true := bne_iff_ne.mpr c1
      clear HR c1 b0 b1
      go_enter Tryd.func31, Tryd.ntmps31
      go_wp2_with (first | (go_at_call 37; refine A1.out.mono ?_; rintro e w1 ⟨rfl, hb⟩; have HB := Aside0.mk hb; clear hb) | (go_at_call 28; refine (impl_decimal.calls _ _ _ A2.out (TabW.up HB hTW)).mono ?_; rintro e w2 ⟨rfl, hb⟩; have HB2 := Aside0.mk (below_step HB.out hb); clear hb HB; have HB := HB2; clear HB2))
      go_ret2
      exact ⟨rfl, HB.out⟩

/-! ### impl_parseInts: function 20 -/
def impl_parseInts.l0 : Nat → List Int → List ByteArray → Int → Int → Option (List Int × Bool)
  | 0, _, _, _, _ => none
  | k + 1, x4, x9, x10, x11 => if x11 < x10 then (if 0 ≤ x11 then (if x11 < (x9.length : Int) then ((impl_ParseInt.f (rdOf ByteArray.empty x9 x11)).bind fun bt174 => (if bt174.2 = true then (if x4.length < 17592186044416 then (impl_parseInts.l0 k (x4 ++ [bt174.1]) x9 x10 (wrap64 (x11 + 1))) else (none)) else (some (([] : List Int), false)))) else (none)) else (none)) else (some (x4, true))
def impl_parseInts.f (k : Nat) (l0 : List ByteArray) : Option (List Int × Bool) := impl_parseInts.l0 k ([] : List Int) l0 (l0.length : Int) 0
theorem impl_parseInts.mono_l : ∀ k, (∀ y0 y1 y2 y3, LeO (impl_parseInts.l0 k y0 y1 y2 y3) (impl_parseInts.l0 (k + 1) y0 y1 y2 y3))
  | 0 => fun _ _ _ _ r h => by simp [impl_parseInts.l0] at h
  | k + 1 => by
    have ih0 := impl_parseInts.mono_l k
    · intro y0 y1 y2 y3
      unfold impl_parseInts.l0
      repeat' first
      | (with_reducible exact ih0 _ _ _ _)
      | (with_reducible exact LeO.refl _)
      | (with_reducible exact LeO.none _)
      | (with_reducible refine LeO.ite ?_ ?_)
      | (with_reducible refine LeO.bind ?_ (fun _ => ?_))
      | exact ih0 _ _ _ _
      | exact LeO.none _
      | refine LeO.ite ?_ ?_
      | refine LeO.bind ?_ (fun _ => ?_)
theorem impl_parseInts.mono : ∀ a0 k, LeO (impl_parseInts.f k a0) (impl_parseInts.f (k + 1) a0) := by
  intro a0 k
  have ih0 := impl_parseInts.mono_l k
  unfold impl_parseInts.f
  repeat' first
      | (with_reducible exact ih0 _ _ _ _)
      | (with_reducible exact LeO.refl _)
      | (with_reducible exact LeO.none _)
      | (with_reducible refine LeO.ite ?_ ?_)
      | (with_reducible refine LeO.bind ?_ (fun _ => ?_))
      | exact ih0 _ _ _ _
      | exact LeO.none _
      | refine LeO.ite ?_ ?_
      | refine LeO.bind ?_ (fun _ => ?_)
set_option maxHeartbeats 8000000 in
set_option maxRecDepth 100000 in
theorem impl_parseInts.calls (k : Nat) (A0 : Option Addr) (c0 : Nat) (l0 : List ByteArray) (r1 : List Int) (r2 : Bool) (w : World) (hr0 : Kd.C Kd.string w A0 l0.length l0) (hc0 : l0.length ≤ c0) (h : impl_parseInts.f k l0 = some (r1, r2)) (hTW : TabW w) :
    Calls Tryd.prog 20 #[.slice A0 l0.length c0] w fun e w' => ∃ v0_ : Value, e = .returned (.tuple #[v0_, .bool r2]) ∧ Kd.R (Kd.int .i64) 3 w' w.heap.size (fun _ => True) v0_ r1 ∧ Below w.heap.size w w' := by
  have HR0 := Aside0.mk hr0
  have HC0 := Aside0.mk hc0
  clear hr0 hc0
  have HB := Aside0.mk (Below.refl w.heap.size w)
  have H : (impl_parseInts.l0 k ([] : List Int) l0 (l0.length : Int) 0) = some (r1, r2) := h
  clear h
  have H' := Aside0.mk H
  clear H
  go_enter Tryd.func20, Tryd.ntmps20
  go_wp2
  go_loopg [4, 11] k (fun kq v4 v11 w' => ∃ (x4_1 : List Int) (x11_1 : Int), v11 = .int .i64 x11_1 ∧ Aside0 (impl_parseInts.l0 kq x4_1 l0 (l0.length : Int) x11_1 = some (r1, r2)) ∧ Aside0 (kq ≤ k) ∧ Aside0 (Kd.R (Kd.int .i64) 3 w' w.heap.size (fun _ => True) v4 x4_1) ∧ Aside0 (Below w.heap.size w w'))
  case atStart => exact ⟨(([] : List Int)), (0), (by first | rfl | (simp; done) | (simp [*]; done)), H', ⟨Nat.le_refl _⟩, ⟨by first | exact Kd.R_nil _ _ _ _ _ | exact Kd.N_nil _ _ _ _ _ | exact Kd.V_nil _ _ _ _ _ | exact Kd.Q_nil _ _ _ _ _ | exact Kd.S_nil _ _ _ _ _⟩, ⟨by repeat (first | (with_reducible first | exact HB.out | apply below_alloc | apply pw_below_drewN | apply below_drew1) | exact HB.out)⟩⟩
  case round =>
    clear H'
    obtain ⟨x4_1, x11_1, rfl, HA, HK1, HO_4, HB⟩ := hrel
    cases gk with
    | zero => exact absurd HA.out (by simp [impl_parseInts.l0])
    | succ k1 =>
      have H := HA.out
      clear HA
      simp only [impl_parseInts.l0] at H
      by_cases c2 : x11_1 < (l0.length : Int)
      · rw [if_pos c2] at H
        have c2b0 : decide (x11_1 < (l0.length : Int)) = true := decide_eq_true c2
        clear c2
        by_cases c3 : 0 ≤ x11_1
        · rw [if_pos c3] at H
          have c3b0 : decide (0 ≤ x11_1) = true := decide_eq_true c3
          clear c3
          by_cases c4 : x11_1 < (l0.length : Int)
          · rw [if_pos c4] at H
            have c4b0 : decide (x11_1 < (l0.length : Int)) = true := decide_eq_true c4
            clear c4
            replace H := Option.bind_eq_some_iff.mp H
            obtain ⟨⟨t174, t175⟩, A50, H⟩ := H
            replace H : (if t175 = true then (if x4_1.length < 17592186044416 then (impl_parseInts.l0 k1 (x4_1 ++ [t174]) l0 (l0.length : Int) (wrap64 (x11_1 + 1))) else (none)) else (some (([] : List Int), false))) = some (r1, r2) := H
            have A5 := Aside0.mk A50
            clear A50
            by_cases c6 : t175 = true
            · subst c6
              have H1 : (if x4_1.length < 17592186044416 then (impl_parseInts.l0 k1 (x4_1 ++ [t174]) l0 (l0.length : Int) (wrap64 (x11_1 + 1))) else (none)) = some (r1, r2) := by rw [if_pos rfl] at H; exact H
              clear H
              have H := H1
              clear H1
              by_cases c7 : x4_1.length < 17592186044416
              · rw [if_pos c7] at H
                have LMc7 := Aside0.mk c7
                clear c7
                obtain ⟨y176, hy176⟩ : ∃ y_ : List Int, y_ = (x4_1 ++ [t174]) := ⟨_, rfl⟩
                replace H : (impl_parseInts.l0 k1 y176 l0 (l0.length : Int) (wrap64 (x11_1 + 1))) = some (r1, r2) := by first | (rw [hy176]; with_reducible exact H) | (have H2_ := (Option.bind_some _ _).symm.trans H; rw [hy176]; with_reducible exact H2_) | (have H2_ := (Option.bind_some _ _).symm.trans H; with_reducible exact H2_) | with_reducible exact H | (rw [hy176]; exact H) | exact H
                have Ny176 := Aside0.mk hy176
                clear hy176
                have H' := Aside0.mk H
                clear H
                have p173 : 0 ≤ (x11_1 : Int) := of_decide_eq_true (by first | (with_reducible assumption) | assumption)
                have q173 : x11_1 < (l0.length : Int) := of_decide_eq_true (by first | (with_reducible assumption) | assumption)
                obtain ⟨ad173, e173, hx173_0⟩ := Kd.at_string HR0.out x11_1 p173 q173
                cases e173
                replace hx173_0 := (HB.out.cell (World.block_lt_of_cell? w _ hx173_0)).trans hx173_0
                replace p173 := eq_true p173
                replace q173 := eq_true q173
                go_wp2_with (first | ((with_reducible refine gate_callee (f := 31) rfl ?_); refine goesL_ (some 17) rfl rfl Tryd.func31 (by kernel_rfl) rfl #[.string (rdOf ByteArray.empty l0 x11_1)] rfl (by (try simp only [List.map_toArray, List.map_cons, List.map_nil]); first | done | rfl | (simp only [List.length_drop, List.length_take]; rfl)) ?_; (with_reducible refine (impl_ParseInt.calls (rdOf ByteArray.empty l0 x11_1) t174 true _ A5.out (TabW.up2 hTW HB.out)).mono ?_); rintro e w8 ⟨rfl, hb⟩; refine ⟨_, rfl, ?_⟩; have n0_ := Aside0.mk (Kd.R_below (by (with_reducible repeat (first | apply Kd.R_alloc | apply Kd.R_drewN | apply Kd.R_drew)); exact HO_4.out) hb); have n1_ := Aside0.mk (below_step (by repeat (first | (with_reducible first | exact HB.out | apply below_alloc | apply pw_below_drewN | apply below_drew1) | exact HB.out)) hb); clear HO_4; clear HB; have HO_4 := n0_; have HB := n1_; clear n0_ n1_; (try clear hb); (try clear hb2); (try clear hk); (try clear hi)) | ((with_reducible refine gate_builtin (b := .append) (xs := #[.tmp 22, .tmp 24]) rfl ?_); at_builtin; refine Kd.R_append (Kd.int .i64) (w0 := w) w.heap.size rfl (.tmp 22) (.tmp 24) 44 3 (.int .i64 0) 8 rfl Tryd.underlying44 info3 rfl (by decide) (by omega) u4 x4_1 t174 [.int .i64 t174] (fun _ => True) (fun _ => False) rfl rfl ?aP (fun _ hk => hk.elim) ?aF ?aO ?aB ?aS ?aL ?_; (case aP => exact rfl); (case aB => exact (by repeat (first | (with_reducible first | exact HB.out | apply below_alloc | apply pw_below_drewN | apply below_drew1) | exact HB.out))); (case aF => exact (fun _ _ => trivial)); (case aO => exact (by (with_reducible repeat (first | apply Kd.R_alloc | apply Kd.R_drewN | apply Kd.R_drew)); exact HO_4.out)); (case aS => exact (below_size (by repeat (first | (with_reducible first | exact HB.out | apply below_alloc | apply pw_below_drewN | apply below_drew1) | exact HB.out)))); (case aL => have := LMc7.out; omega); intro v177 w9 ho hb hg hat; rw [← Ny176.out] at ho; have n0_ := Aside0.mk (hb); have n1_ := Aside0.mk (ho); clear HB; clear HO_4; have HB := n0_; have HO178 := n1_; clear n0_ n1_; clear ho hb hg hat))
                go_roundg k1
                case measure => have := HK1.out; omega
                case rel => exact ⟨(y176), (wrap64 (x11_1 + 1)), (by first | rfl | (simp; done) | (simp [*]; done)), H', ⟨by have := HK1.out; omega⟩, ⟨by (with_reducible repeat (first | apply Kd.R_alloc | apply Kd.R_drewN | apply Kd.R_drew)); exact HO178.out⟩, ⟨by repeat (first | (with_reducible first | exact HB.out | apply below_alloc | apply pw_below_drewN | apply below_drew1) | exact HB.out)⟩⟩
              · rw [if_neg c7] at H
                exact absurd H (by simp)
            · replace c6 := Bool.eq_false_iff.mpr c6
              subst c6
              have H1 : (some (([] : List Int), false)) = some (r1, r2) := by rw [if_neg (show ¬ (false = true) by decide)] at H; exact H
              clear H
              have H := H1
              clear H1
              simp only [Option.some.injEq, Prod.mk.injEq] at H
              obtain ⟨rfl, rfl⟩ := H
              have p173 : 0 ≤ (x11_1 : Int) := of_decide_eq_true (by first | (with_reducible assumption) | assumption)
              have q173 : x11_1 < (l0.length : Int) := of_decide_eq_true (by first | (with_reducible assumption) | assumption)
              obtain ⟨ad173, e173, hx173_0⟩ := Kd.at_string HR0.out x11_1 p173 q173
              cases e173
              replace hx173_0 := (HB.out.cell (World.block_lt_of_cell? w _ hx173_0)).trans hx173_0
              replace p173 := eq_true p173
              replace q173 := eq_true q173
              go_wp2_with (first | ((with_reducible refine gate_callee (f := 31) rfl ?_); refine goesL_ (some 17) rfl rfl Tryd.func31 (by kernel_rfl) rfl #[.string (rdOf ByteArray.empty l0 x11_1)] rfl (by (try simp only [List.map_toArray, List.map_cons, List.map_nil]); first | done | rfl | (simp only [List.length_drop, List.length_take]; rfl)) ?_; (with_reducible refine (impl_ParseInt.calls (rdOf ByteArray.empty l0 x11_1) t174 false _ A5.out (TabW.up2 hTW HB.out)).mono ?_); rintro e w10 ⟨rfl, hb⟩; refine ⟨_, rfl, ?_⟩; have n0_ := Aside0.mk (Kd.R_below (by (with_reducible repeat (first | apply Kd.R_alloc | apply Kd.R_drewN | apply Kd.R_drew)); exact HO_4.out) hb); have n1_ := Aside0.mk (below_step (by repeat (first | (with_reducible first | exact HB.out | apply below_alloc | apply pw_below_drewN | apply below_drew1) | exact HB.out)) hb); clear HO_4; clear HB; have HO_4 := n0_; have HB := n1_; clear n0_ n1_; (try clear hb); (try clear hb2); (try clear hk); (try clear hi)))
              go_ret2
              exact ⟨_, by first | rfl | (simp [errW_none, errW_some] <;> rfl) | (simp [*, errW_none, errW_some] <;> rfl), by first | exact Kd.R_nil _ _ _ _ _ | exact Kd.N_nil _ _ _ _ _ | exact Kd.V_nil _ _ _ _ _ | exact Kd.Q_nil _ _ _ _ _ | exact Kd.S_nil _ _ _ _ _, by repeat (first | (with_reducible first | exact HB.out | apply below_alloc | apply pw_below_drewN | apply below_drew1) | exact HB.out)⟩
          · rw [if_neg c4] at H
            exact absurd H (by simp)
        · rw [if_neg c3] at H
          exact absurd H (by simp)
      · rw [if_neg c2] at H
        have c2b0 : decide (x11_1 < (l0.length : Int)) = false := decide_eq_false c2
        clear c2
        simp only [Option.some.injEq, Prod.mk.injEq] at H
        obtain ⟨rfl, rfl⟩ := H
        go_wp2
        go_ret2
        exact ⟨_, by first | rfl | (simp [errW_none, errW_some] <;> rfl) | (simp [*, errW_none, errW_some] <;> rfl), by (with_reducible repeat (first | apply Kd.R_alloc | apply Kd.R_drewN | apply Kd.R_drew)); exact HO_4.out, by repeat (first | (with_reducible first | exact HB.out | apply below_alloc | apply pw_below_drewN | apply below_drew1) | exact HB.out)⟩

/-! ### impl_xState: function 105 -/
-- reaches: slices.Index[[]string,string]
def impl_xState.f (a0 : ByteArray) : Option Int := slices_Index_string_string.f 20 stWords a0
theorem impl_xState.calls (a0 : ByteArray) (r : Int) (w : World) (h : impl_xState.f a0 = some r) (hTW : TabW w) :
    Calls Tryd.prog 18 #[.slice (some ⟨0, 0, none⟩) 6 6, .string a0] w fun e w' => e = .returned (.int .i64 r) ∧ Below w.heap.size w w' := by
  have hc : Kd.C Kd.string w (some ⟨0, 0, none⟩) stWords.length stWords := Kd.C_of_reads (d := ByteArray.empty) ⟨rfl, by decide, fun _ => ⟨_, rfl, fun j hj => by rw [Addr.add_lit, Nat.zero_add]; exact hTW.2.1 j hj⟩⟩
  refine (slices_Index_string_string.calls 20 (some ⟨0, 0, none⟩) 6 stWords a0 r w hc (by decide) h).mono ?_
  rintro e w' ⟨rfl, hd⟩
  exact ⟨rfl, hd.below⟩

end Go.Proofs.YtmeaacbnjpgepaaDoor.QFnExactParseTrip
