/- Contracts of Go functions that FnExactTripText reaches: the call computes what the plain function says. No condition. -/
import Derived.Test.YtmeaacbnjpgepaaDoorQFnExactTripTextx0
import Derived.Test.YtmeaacbnjpgepaaDoorQFnExactTripTextx2
import Derived.Test.YtmeaacbnjpgepaaDoorQFnExactTripTextx3
namespace Go.Proofs.YtmeaacbnjpgepaaDoor.QFnExactTripText
open Go.RowKit Go.Proofs.YtmeaacbnjpgepaaDoorW.PrintWords Go.Proofs.YtmeaacbnjpgepaaDoorW.PrintLast Go.Proofs.YtmeaacbnjpgepaaDoorW.PrintMore
attribute [local go_sem] max2_int min2_int max_two min_two max_three min_three max_four min_four   -- for this text's walks alone
set_option linter.unusedVariables false
set_option linter.unusedSimpArgs false

/-! ### impl_tripText: function 14 -/
def impl_tripText.f (a0_0 : Int) (a0_1 : Int) (a0_2 : Int) (a0_3 : Int) (a0_4 : Int) : Option (ByteArray) := if 0 ≤ a0_0 ∧ a0_0 < 6 then (if (stW a0_0).size + 1 ≤ 9223372036854775807 then ((impl_decimal.f a0_2).bind fun t139 => (if ((stW a0_0) ++ (⟨#[32]⟩ : ByteArray)).size + t139.size ≤ 9223372036854775807 then (if (((stW a0_0) ++ (⟨#[32]⟩ : ByteArray)) ++ t139).size + 1 ≤ 9223372036854775807 then ((impl_decimal.f a0_1).bind fun t140 => (if ((((stW a0_0) ++ (⟨#[32]⟩ : ByteArray)) ++ t139) ++ (⟨#[47]⟩ : ByteArray)).size + t140.size ≤ 9223372036854775807 then (if (((((stW a0_0) ++ (⟨#[32]⟩ : ByteArray)) ++ t139) ++ (⟨#[47]⟩ : ByteArray)) ++ t140).size + 5 ≤ 9223372036854775807 then ((impl_decimal.f a0_3).bind fun t141 => (if ((((((stW a0_0) ++ (⟨#[32]⟩ : ByteArray)) ++ t139) ++ (⟨#[47]⟩ : ByteArray)) ++ t140) ++ (⟨#[32, 100, 117, 101, 32]⟩ : ByteArray)).size + t141.size ≤ 9223372036854775807 then (if (((((((stW a0_0) ++ (⟨#[32]⟩ : ByteArray)) ++ t139) ++ (⟨#[47]⟩ : ByteArray)) ++ t140) ++ (⟨#[32, 100, 117, 101, 32]⟩ : ByteArray)) ++ t141).size + 4 ≤ 9223372036854775807 then ((impl_decimal.f a0_4).bind fun t142 => (if ((((((((stW a0_0) ++ (⟨#[32]⟩ : ByteArray)) ++ t139) ++ (⟨#[47]⟩ : ByteArray)) ++ t140) ++ (⟨#[32, 100, 117, 101, 32]⟩ : ByteArray)) ++ t141) ++ (⟨#[32, 97, 116, 32]⟩ : ByteArray)).size + t142.size ≤ 9223372036854775807 then (some (((((((((stW a0_0) ++ (⟨#[32]⟩ : ByteArray)) ++ t139) ++ (⟨#[47]⟩ : ByteArray)) ++ t140) ++ (⟨#[32, 100, 117, 101, 32]⟩ : ByteArray)) ++ t141) ++ (⟨#[32, 97, 116, 32]⟩ : ByteArray)) ++ t142)) else (none))) else (none)) else (none))) else (none)) else (none))) else (none)) else (none))) else (none)) else none
def impl_tripText.T1 : Bool × List (List Nat × List Nat) := (true, [([], []), ([0], [0]), ([1], [1]), ([2], [2]), ([3], [3]), ([], []), ([5], [5]), ([6], [6]), ([4, 7], [4, 7]), ([8], [8]), ([], []), ([10], [10]), ([11, 7], [11]), ([9, 12], [9, 12]), ([13], [13]), ([], []), ([15], [15]), ([16, 12], [16]), ([14, 17], [14, 17]), ([18], [18]), ([], []), ([20], [20]), ([21, 17], [21]), ([19, 22], [19, 22]), ([23, 22, 0, 1, 2, 3, 4, 5, 6, 7, 8, 9, 10, 11, 12, 13, 14, 15, 16, 17, 18, 19, 20, 21, 22, 23], [23])])
def impl_tripText.B1 : List Nat := [0, 1, 3, 7, 15, 0, 32, 96, 255, 511, 0, 1024, 3296, 8191, 16383, 0, 32768, 105696, 262143, 524287, 0, 1048576, 3382496, 8388607, 16777215]
theorem impl_tripText.tab1 : rtab .any (opsOf Tryd.f14 1) = impl_tripText.T1 := by kernel_rfl
theorem impl_tripText.bits1 : waitsOk impl_tripText.T1.2 impl_tripText.B1 = true := by kernel_rfl
set_option maxHeartbeats 8000000 in
set_option maxRecDepth 100000 in
theorem impl_tripText.calls (a0_0 : Int) (a0_1 : Int) (a0_2 : Int) (a0_3 : Int) (a0_4 : Int) (r : ByteArray) (w : World) (h : impl_tripText.f a0_0 a0_1 a0_2 a0_3 a0_4 = some r) (hTW : TabW w) :
    Calls Tryd.prog 14 #[.agg #[.int .i64 a0_0, .int .i64 a0_1, .int .i64 a0_2, .int .i64 a0_3, .int .i64 a0_4]] w fun e w' => e = .returned (.string r) ∧ Below w.heap.size w w' := by
  have hu26 := Tryd.underlying26
  have HB := Aside0.mk (Below.refl w.heap.size w)
  obtain ⟨⟨hg0_, hg1_⟩, h⟩ := guard_some h
  have pi_ : (0 ≤ a0_0) = True := eq_true hg0_
  have qi_ : (a0_0 < 6) = True := eq_true hg1_
  have H : (if (stW a0_0).size + 1 ≤ 9223372036854775807 then ((impl_decimal.f a0_2).bind fun t139 => (if ((stW a0_0) ++ (⟨#[32]⟩ : ByteArray)).size + t139.size ≤ 9223372036854775807 then (if (((stW a0_0) ++ (⟨#[32]⟩ : ByteArray)) ++ t139).size + 1 ≤ 9223372036854775807 then ((impl_decimal.f a0_1).bind fun t140 => (if ((((stW a0_0) ++ (⟨#[32]⟩ : ByteArray)) ++ t139) ++ (⟨#[47]⟩ : ByteArray)).size + t140.size ≤ 9223372036854775807 then (if (((((stW a0_0) ++ (⟨#[32]⟩ : ByteArray)) ++ t139) ++ (⟨#[47]⟩ : ByteArray)) ++ t140).size + 5 ≤ 9223372036854775807 then ((impl_decimal.f a0_3).bind fun t141 => (if ((((((stW a0_0) ++ (⟨#[32]⟩ : ByteArray)) ++ t139) ++ (⟨#[47]⟩ : ByteArray)) ++ t140) ++ (⟨#[32, 100, 117, 101, 32]⟩ : ByteArray)).size + t141.size ≤ 9223372036854775807 then (if (((((((stW a0_0) ++ (⟨#[32]⟩ : ByteArray)) ++ t139) ++ (⟨#[47]⟩ : ByteArray)) ++ t140) ++ (⟨#[32, 100, 117, 101, 32]⟩ : ByteArray)) ++ t141).size + 4 ≤ 9223372036854775807 then ((impl_decimal.f a0_4).bind fun t142 => (if ((((((((stW a0_0) ++ (⟨#[32]⟩ : ByteArray)) ++ t139) ++ (⟨#[47]⟩ : ByteArray)) ++ t140) ++ (⟨#[32, 100, 117, 101, 32]⟩ : ByteArray)) ++ t141) ++ (⟨#[32, 97, 116, 32]⟩ : ByteArray)).size + t142.size ≤ 9223372036854775807 then (some (((((((((stW a0_0) ++ (⟨#[32]⟩ : ByteArray)) ++ t139) ++ (⟨#[47]⟩ : ByteArray)) ++ t140) ++ (⟨#[32, 100, 117, 101, 32]⟩ : ByteArray)) ++ t141) ++ (⟨#[32, 97, 116, 32]⟩ : ByteArray)) ++ t142)) else (none))) else (none)) else (none))) else (none)) else (none))) else (none)) else (none))) else (none)) = some r := h
  clear h
  by_cases c2 : (stW a0_0).size + 1 ≤ 9223372036854775807
  · rw [if_pos c2] at H
    have c2b0 := eq_true c2
    have c2b1 : decide ((stW a0_0).size + 1 ≤ 9223372036854775807) = true := decide_eq_true c2
    try have c2b2 : (9223372036854775807 < (stW a0_0).size + 1) = False := eq_false (Nat.not_lt.2 c2)
    replace H := Option.bind_eq_some_iff.mp H
    obtain ⟨t139, A30, H⟩ := H
    replace H : (if ((stW a0_0) ++ (⟨#[32]⟩ : ByteArray)).size + t139.size ≤ 9223372036854775807 then (if (((stW a0_0) ++ (⟨#[32]⟩ : ByteArray)) ++ t139).size + 1 ≤ 9223372036854775807 then ((impl_decimal.f a0_1).bind fun t140 => (if ((((stW a0_0) ++ (⟨#[32]⟩ : ByteArray)) ++ t139) ++ (⟨#[47]⟩ : ByteArray)).size + t140.size ≤ 9223372036854775807 then (if (((((stW a0_0) ++ (⟨#[32]⟩ : ByteArray)) ++ t139) ++ (⟨#[47]⟩ : ByteArray)) ++ t140).size + 5 ≤ 9223372036854775807 then ((impl_decimal.f a0_3).bind fun t141 => (if ((((((stW a0_0) ++ (⟨#[32]⟩ : ByteArray)) ++ t139) ++ (⟨#[47]⟩ : ByteArray)) ++ t140) ++ (⟨#[32, 100, 117, 101, 32]⟩ : ByteArray)).size + t141.size ≤ 9223372036854775807 then (if (((((((stW a0_0) ++ (⟨#[32]⟩ : ByteArray)) ++ t139) ++ (⟨#[47]⟩ : ByteArray)) ++ t140) ++ (⟨#[32, 100, 117, 101, 32]⟩ : ByteArray)) ++ t141).size + 4 ≤ 9223372036854775807 then ((impl_decimal.f a0_4).bind fun t142 => (if ((((((((stW a0_0) ++ (⟨#[32]⟩ : ByteArray)) ++ t139) ++ (⟨#[47]⟩ : ByteArray)) ++ t140) ++ (⟨#[32, 100, 117, 101, 32]⟩ : ByteArray)) ++ t141) ++ (⟨#[32, 97, 116, 32]⟩ : ByteArray)).size + t142.size ≤ 9223372036854775807 then (some (((((((((stW a0_0) ++ (⟨#[32]⟩ : ByteArray)) ++ t139) ++ (⟨#[47]⟩ : ByteArray)) ++ t140) ++ (⟨#[32, 100, 117, 101, 32]⟩ : ByteArray)) ++ t141) ++ (⟨#[32, 97, 116, 32]⟩ : ByteArray)) ++ t142)) else (none))) else (none)) else (none))) else (none)) else (none))) else (none)) else (none)) = some r := H
    have A3 := Aside0.mk A30
    clear A30
    by_cases c4 : ((stW a0_0) ++ (⟨#[32]⟩ : ByteArray)).size + t139.size ≤ 9223372036854775807
    · rw [if_pos c4] at H
      have c4b0 := eq_true c4
      have c4b1 : decide (((stW a0_0) ++ (⟨#[32]⟩ : ByteArray)).size + t139.size ≤ 9223372036854775807) = true := decide_eq_true c4
      try have c4b2 : (9223372036854775807 < ((stW a0_0) ++ (⟨#[32]⟩ : ByteArray)).size + t139.size) = False := eq_false (Nat.not_lt.2 c4)
      have c4b3 : (9223372036854775807 < (stW a0_0).size + 1 + t139.size) = False := by have e_ := c4; simp only [ByteArray.size_append, show (⟨#[32]⟩ : ByteArray).size = 1 from rfl] at e_; exact eq_false (by omega)
      by_cases c5 : (((stW a0_0) ++ (⟨#[32]⟩ : ByteArray)) ++ t139).size + 1 ≤ 9223372036854775807
      · rw [if_pos c5] at H
        have c5b0 := eq_true c5
        have c5b1 : decide ((((stW a0_0) ++ (⟨#[32]⟩ : ByteArray)) ++ t139).size + 1 ≤ 9223372036854775807) = true := decide_eq_true c5
        try have c5b2 : (9223372036854775807 < (((stW a0_0) ++ (⟨#[32]⟩ : ByteArray)) ++ t139).size + 1) = False := eq_false (Nat.not_lt.2 c5)
        have c5b3 : (9223372036854775807 < (stW a0_0).size + 1 + t139.size + 1) = False := by have e_ := c5; simp only [ByteArray.size_append, show (⟨#[32]⟩ : ByteArray).size = 1 from rfl] at e_; exact eq_false (by omega)
        replace H := Option.bind_eq_some_iff.mp H
        obtain ⟨t140, A60, H⟩ := H
        replace H : (if ((((stW a0_0) ++ (⟨#[32]⟩ : ByteArray)) ++ t139) ++ (⟨#[47]⟩ : ByteArray)).size + t140.size ≤ 9223372036854775807 then (if (((((stW a0_0) ++ (⟨#[32]⟩ : ByteArray)) ++ t139) ++ (⟨#[47]⟩ : ByteArray)) ++ t140).size + 5 ≤ 9223372036854775807 then ((impl_decimal.f a0_3).bind fun t141 => (if ((((((stW a0_0) ++ (⟨#[32]⟩ : ByteArray)) ++ t139) ++ (⟨#[47]⟩ : ByteArray)) ++ t140) ++ (⟨#[32, 100, 117, 101, 32]⟩ : ByteArray)).size + t141.size ≤ 9223372036854775807 then (if (((((((stW a0_0) ++ (⟨#[32]⟩ : ByteArray)) ++ t139) ++ (⟨#[47]⟩ : ByteArray)) ++ t140) ++ (⟨#[32, 100, 117, 101, 32]⟩ : ByteArray)) ++ t141).size + 4 ≤ 9223372036854775807 then ((impl_decimal.f a0_4).bind fun t142 => (if ((((((((stW a0_0) ++ (⟨#[32]⟩ : ByteArray)) ++ t139) ++ (⟨#[47]⟩ : ByteArray)) ++ t140) ++ (⟨#[32, 100, 117, 101, 32]⟩ : ByteArray)) ++ t141) ++ (⟨#[32, 97, 116, 32]⟩ : ByteArray)).size + t142.size ≤ 9223372036854775807 then (some (((((((((stW a0_0) ++ (⟨#[32]⟩ : ByteArray)) ++ t139) ++ (⟨#[47]⟩ : ByteArray)) ++ t140) ++ (⟨#[32, 100, 117, 101, 32]⟩ : ByteArray)) ++ t141) ++ (⟨#[32, 97, 116, 32]⟩ : ByteArray)) ++ t142)) else (none))) else (none)) else (none))) else (none)) else (none)) = some r := H
        have A6 := Aside0.mk A60
        clear A60
        by_cases c7 : ((((stW a0_0) ++ (⟨#[32]⟩ : ByteArray)) ++ t139) ++ (⟨#[47]⟩ : ByteArray)).size + t140.size ≤ 9223372036854775807
        · rw [if_pos c7] at H
          have c7b0 := eq_true c7
          have c7b1 : decide (((((stW a0_0) ++ (⟨#[32]⟩ : ByteArray)) ++ t139) ++ (⟨#[47]⟩ : ByteArray)).size + t140.size ≤ 9223372036854775807) = true := decide_eq_true c7
          try have c7b2 : (9223372036854775807 < ((((stW a0_0) ++ (⟨#[32]⟩ : ByteArray)) ++ t139) ++ (⟨#[47]⟩ : ByteArray)).size + t140.size) = False := eq_false (Nat.not_lt.2 c7)
          have c7b3 : (9223372036854775807 < (stW a0_0).size + 1 + t139.size + 1 + t140.size) = False := by have e_ := c7; simp only [ByteArray.size_append, show (⟨#[32]⟩ : ByteArray).size = 1 from rfl, show (⟨#[47]⟩ : ByteArray).size = 1 from rfl] at e_; exact eq_false (by omega)
          by_cases c8 : (((((stW a0_0) ++ (⟨#[32]⟩ : ByteArray)) ++ t139) ++ (⟨#[47]⟩ : ByteArray)) ++ t140).size + 5 ≤ 9223372036854775807
          · rw [if_pos c8] at H
            have c8b0 := eq_true c8
            have c8b1 : decide ((((((stW a0_0) ++ (⟨#[32]⟩ : ByteArray)) ++ t139) ++ (⟨#[47]⟩ : ByteArray)) ++ t140).size + 5 ≤ 9223372036854775807) = true := decide_eq_true c8
            try have c8b2 : (9223372036854775807 < (((((stW a0_0) ++ (⟨#[32]⟩ : ByteArray)) ++ t139) ++ (⟨#[47]⟩ : ByteArray)) ++ t140).size + 5) = False := eq_false (Nat.not_lt.2 c8)
            have c8b3 : (9223372036854775807 < (stW a0_0).size + 1 + t139.size + 1 + t140.size + 5) = False := by have e_ := c8; simp only [ByteArray.size_append, show (⟨#[32]⟩ : ByteArray).size = 1 from rfl, show (⟨#[47]⟩ : ByteArray).size = 1 from rfl] at e_; exact eq_false (by omega)
            replace H := Option.bind_eq_some_iff.mp H
            obtain ⟨t141, A90, H⟩ := H
            replace H : (if ((((((stW a0_0) ++ (⟨#[32]⟩ : ByteArray)) ++ t139) ++ (⟨#[47]⟩ : ByteArray)) ++ t140) ++ (⟨#[32, 100, 117, 101, 32]⟩ : ByteArray)).size + t141.size ≤ 9223372036854775807 then (if (((((((stW a0_0) ++ (⟨#[32]⟩ : ByteArray)) ++ t139) ++ (⟨#[47]⟩ : ByteArray)) ++ t140) ++ (⟨#[32, 100, 117, 101, 32]⟩ : ByteArray)) ++ t141).size + 4 ≤ 9223372036854775807 then ((impl_decimal.f a0_4).bind fun t142 => (if ((((((((stW a0_0) ++ (⟨#[32]⟩ : ByteArray)) ++ t139) ++ (⟨#[47]⟩ : ByteArray)) ++ t140) ++ (⟨#[32, 100, 117, 101, 32]⟩ : ByteArray)) ++ t141) ++ (⟨#[32, 97, 116, 32]⟩ : ByteArray)).size + t142.size ≤ 9223372036854775807 then (some (((((((((stW a0_0) ++ (⟨#[32]⟩ : ByteArray)) ++ t139) ++ (⟨#[47]⟩ : ByteArray)) ++ t140) ++ (⟨#[32, 100, 117, 101, 32]⟩ : ByteArray)) ++ t141) ++ (⟨#[32, 97, 116, 32]⟩ : ByteArray)) ++ t142)) else (none))) else (none)) else (none)) = some r := H
            have A9 := Aside0.mk A90
            clear A90
            by_cases c10 : ((((((stW a0_0) ++ (⟨#[32]⟩ : ByteArray)) ++ t139) ++ (⟨#[47]⟩ : ByteArray)) ++ t140) ++ (⟨#[32, 100, 117, 101, 32]⟩ : ByteArray)).size + t141.size ≤ 9223372036854775807
            · rw [if_pos c10] at H
              have c10b0 := eq_true c10
              have c10b1 : decide (((((((stW a0_0) ++ (⟨#[32]⟩ : ByteArray)) ++ t139) ++ (⟨#[47]⟩ : ByteArray)) ++ t140) ++ (⟨#[32, 100, 117, 101, 32]⟩ : ByteArray)).size + t141.size ≤ 9223372036854775807) = true := decide_eq_true c10
              try have c10b2 : (9223372036854775807 < ((((((stW a0_0) ++ (⟨#[32]⟩ : ByteArray)) ++ t139) ++ (⟨#[47]⟩ : ByteArray)) ++ t140) ++ (⟨#[32, 100, 117, 101, 32]⟩ : ByteArray)).size + t141.size) = False := eq_false (Nat.not_lt.2 c10)
              have c10b3 : (9223372036854775807 < (stW a0_0).size + 1 + t139.size + 1 + t140.size + 5 + t141.size) = False := by have e_ := c10; simp only [ByteArray.size_append, show (⟨#[32]⟩ : ByteArray).size = 1 from rfl, show (⟨#[47]⟩ : ByteArray).size = 1 from rfl, show (⟨#[32, 100, 117, 101, 32]⟩ : ByteArray).size = 5 from rfl] at e_; exact eq_false (by omega)
              by_cases c11 : (((((((stW a0_0) ++ (⟨#[32]⟩ : ByteArray)) ++ t139) ++ (⟨#[47]⟩ : ByteArray)) ++ t140) ++ (⟨#[32, 100, 117, 101, 32]⟩ : ByteArray)) ++ t141).size + 4 ≤ 9223372036854775807
              · rw [if_pos c11] at H
                have c11b0 := eq_true c11
                have c11b1 : decide ((((((((stW a0_0) ++ (⟨#[32]⟩ : ByteArray)) ++ t139) ++ (⟨#[47]⟩ : ByteArray)) ++ t140) ++ (⟨#[32, 100, 117, 101, 32]⟩ : ByteArray)) ++ t141).size + 4 ≤ 9223372036854775807) = true := decide_eq_true c11
                try have c11b2 : (9223372036854775807 < (((((((stW a0_0) ++ (⟨#[32]⟩ : ByteArray)) ++ t139) ++ (⟨#[47]⟩ : ByteArray)) ++ t140) ++ (⟨#[32, 100, 117, 101, 32]⟩ : ByteArray)) ++ t141).size + 4) = False := eq_false (Nat.not_lt.2 c11)
                have c11b3 : (9223372036854775807 < (stW a0_0).size + 1 + t139.size + 1 + t140.size + 5 + t141.size + 4) = False := by have e_ := c11; simp only [ByteArray.size_append, show (⟨#[32]⟩ : ByteArray).size = 1 from rfl, show (⟨#[47]⟩ : ByteArray).size = 1 from rfl, show (⟨#[32, 100, 117, 101, 32]⟩ : ByteArray).size = 5 from rfl] at e_; exact eq_false (by omega)
                replace H := Option.bind_eq_some_iff.mp H
                obtain ⟨t142, A120, H⟩ := H
                replace H : (if ((((((((stW a0_0) ++ (⟨#[32]⟩ : ByteArray)) ++ t139) ++ (⟨#[47]⟩ : ByteArray)) ++ t140) ++ (⟨#[32, 100, 117, 101, 32]⟩ : ByteArray)) ++ t141) ++ (⟨#[32, 97, 116, 32]⟩ : ByteArray)).size + t142.size ≤ 9223372036854775807 then (some (((((((((stW a0_0) ++ (⟨#[32]⟩ : ByteArray)) ++ t139) ++ (⟨#[47]⟩ : ByteArray)) ++ t140) ++ (⟨#[32, 100, 117, 101, 32]⟩ : ByteArray)) ++ t141) ++ (⟨#[32, 97, 116, 32]⟩ : ByteArray)) ++ t142)) else (none)) = some r := H
                have A12 := Aside0.mk A120
                clear A120
                by_cases c13 : ((((((((stW a0_0) ++ (⟨#[32]⟩ : ByteArray)) ++ t139) ++ (⟨#[47]⟩ : ByteArray)) ++ t140) ++ (⟨#[32, 100, 117, 101, 32]⟩ : ByteArray)) ++ t141) ++ (⟨#[32, 97, 116, 32]⟩ : ByteArray)).size + t142.size ≤ 9223372036854775807
                · rw [if_pos c13] at H
                  have c13b0 := eq_true c13
                  have c13b1 : decide (((((((((stW a0_0) ++ (⟨#[32]⟩ : ByteArray)) ++ t139) ++ (⟨#[47]⟩ : ByteArray)) ++ t140) ++ (⟨#[32, 100, 117, 101, 32]⟩ : ByteArray)) ++ t141) ++ (⟨#[32, 97, 116, 32]⟩ : ByteArray)).size + t142.size ≤ 9223372036854775807) = true := decide_eq_true c13
                  try have c13b2 : (9223372036854775807 < ((((((((stW a0_0) ++ (⟨#[32]⟩ : ByteArray)) ++ t139) ++ (⟨#[47]⟩ : ByteArray)) ++ t140) ++ (⟨#[32, 100, 117, 101, 32]⟩ : ByteArray)) ++ t141) ++ (⟨#[32, 97, 116, 32]⟩ : ByteArray)).size + t142.size) = False := eq_false (Nat.not_lt.2 c13)
                  have c13b3 : (9223372036854775807 < (stW a0_0).size + 1 + t139.size + 1 + t140.size + 5 + t141.size + 4 + t142.size) = False := by have e_ := c13; simp only [ByteArray.size_append, show (⟨#[32]⟩ : ByteArray).size = 1 from rfl, show (⟨#[47]⟩ : ByteArray).size = 1 from rfl, show (⟨#[32, 100, 117, 101, 32]⟩ : ByteArray).size = 5 from rfl, show (⟨#[32, 97, 116, 32]⟩ : ByteArray).size = 4 from rfl] at e_; exact eq_false (by omega)
                  obtain rfl := Option.some.inj H
                  go_enter Tryd.func14, Tryd.ntmps14
                  try go_wp2_with (first | ((with_reducible refine gate_dst (N := 1) rfl ?_); refine box_event ?hg (N := 1) ?hd (cs := #[.int .i64 a0_0, .int .i64 a0_1, .int .i64 a0_2, .int .i64 a0_3, .int .i64 a0_4]) (t := 26) ?hr ?_; (case hd => rfl); (case hg => rfl); (case hr => first | (go_simp; done) | (go_simp; rfl)); intro gb138 hg w14 hbox hb; have n0_ := Aside0.mk (below_step (upB HB.out) hb); have n1_ := Aside0.mk (hbox); have n2_ := Aside0.mk ((by rw [hg]; exact (below_size (upB HB.out)) : w.heap.size ≤ gb138)); have n3_ := Aside0.mk ((by rw [hg]; exact (below_size (upB HB.out)) : w.heap.size ≤ gb138)); clear HB; have HB := n0_; have BK138 := n1_; have GW138 := n2_; have GE138 := n3_; clear n0_ n1_ n2_ n3_; clear hb hbox hg))
                  have n0_ := Aside0.mk (blk_drew BK138.out)
                  have n1_ := Aside0.mk (below_drew1 HB.out)
                  clear BK138
                  clear HB
                  have BK138 := n0_
                  have HB := n1_
                  clear n0_ n1_
                  refine start_ (n := 25) (S := fun w' => w'.cell? ⟨gb138, 0, none⟩ = some (.int .i64 a0_0) ∧ w'.cell? ⟨gb138, 1, none⟩ = some (.int .i64 a0_1) ∧ w'.cell? ⟨gb138, 2, none⟩ = some (.int .i64 a0_2) ∧ w'.cell? ⟨gb138, 3, none⟩ = some (.int .i64 a0_3) ∧ w'.cell? ⟨gb138, 4, none⟩ = some (.int .i64 a0_4) ∧ w'.cell? ⟨0, a0_0.toNat, none⟩ = some (.string (stW a0_0))) (ds := []) #[false, false, false, false, false, false, false, false, false, false, false, false, false, false, false, false, false, false, false, false, false, false, false, false, false] (by kernel_rfl) rfl rfl ⟨(blk_cell BK138.out 0).trans rfl, (blk_cell BK138.out 1).trans rfl, (blk_cell BK138.out 2).trans rfl, (blk_cell BK138.out 3).trans rfl, (blk_cell BK138.out 4).trans rfl, TabW.word hTW HB.out hg0_ hg1_⟩ (fun hHeld => ?_); refine with_tabW impl_tripText.tab1 impl_tripText.bits1 (fun HT_ HW_ => ?_)
                  generalize w14.drew = w15 at BK138 HB hHeld ⊢
                  refine pure_ (i := 0) (N := some 3) (v := ?_) (a' := ?_) #[true, false, false, false, false, false, false, false, false, false, false, false, false, false, false, false, false, false, false, false, false, false, false, false, false] rfl rfl (any_of HT_.out (by kernel_rfl)) (fun _ _ _ h => h) (Or.inl ⟨by rfl, ?_⟩) ?_ ?_
                  rotate_left
                  · intro w'
                    go_simp
                    with_reducible rfl
                  rotate_left
                  · simp only [Act.put, List.setIfInBounds_toArray, List.set_cons_zero, List.set_cons_succ, i64_w, i32_w]
                    rfl
                  refine pure_ (i := 5) (N := some 8) (v := ?_) (a' := ?_) #[true, false, false, false, false, true, false, false, false, false, false, false, false, false, false, false, false, false, false, false, false, false, false, false, false] rfl rfl (any_of HT_.out (by kernel_rfl)) (fun _ _ _ h => h) (Or.inl ⟨by rfl, ?_⟩) ?_ ?_
                  rotate_left
                  · intro w'
                    go_simp
                    with_reducible rfl
                  rotate_left
                  · simp only [Act.put, List.setIfInBounds_toArray, List.set_cons_zero, List.set_cons_succ, i64_w, i32_w]
                    rfl
                  refine pure_ (i := 10) (N := some 13) (v := ?_) (a' := ?_) #[true, false, false, false, false, true, false, false, false, false, true, false, false, false, false, false, false, false, false, false, false, false, false, false, false] rfl rfl (any_of HT_.out (by kernel_rfl)) (fun _ _ _ h => h) (Or.inl ⟨by rfl, ?_⟩) ?_ ?_
                  rotate_left
                  · intro w'
                    go_simp
                    with_reducible rfl
                  rotate_left
                  · simp only [Act.put, List.setIfInBounds_toArray, List.set_cons_zero, List.set_cons_succ, i64_w, i32_w]
                    rfl
                  refine pure_ (i := 15) (N := some 18) (v := ?_) (a' := ?_) #[true, false, false, false, false, true, false, false, false, false, true, false, false, false, false, true, false, false, false, false, false, false, false, false, false] rfl rfl (any_of HT_.out (by kernel_rfl)) (fun _ _ _ h => h) (Or.inl ⟨by rfl, ?_⟩) ?_ ?_
                  rotate_left
                  · intro w'
                    go_simp
                    with_reducible rfl
                  rotate_left
                  · simp only [Act.put, List.setIfInBounds_toArray, List.set_cons_zero, List.set_cons_succ, i64_w, i32_w]
                    rfl
                  refine pure_ (i := 20) (N := some 23) (v := ?_) (a' := ?_) #[true, false, false, false, false, true, false, false, false, false, true, false, false, false, false, true, false, false, false, false, true, false, false, false, false] rfl rfl (any_of HT_.out (by kernel_rfl)) (fun _ _ _ h => h) (Or.inl ⟨by rfl, ?_⟩) ?_ ?_
                  rotate_left
                  · intro w'
                    go_simp
                    with_reducible rfl
                  rotate_left
                  · simp only [Act.put, List.setIfInBounds_toArray, List.set_cons_zero, List.set_cons_succ, i64_w, i32_w]
                    rfl
                  refine take_ (i := 1) (N := some 4) (v := ?_) (a' := ?_) #[true, true, false, false, false, true, false, false, false, false, true, false, false, false, false, true, false, false, false, false, true, false, false, false, false] rfl rfl (take_ofW HT_.out HW_.out (by kernel_rfl)) (fun _ _ _ h => h) (Or.inl ⟨by rfl, ?_⟩) hHeld ?_ ?_
                  rotate_left
                  · rintro w' ⟨s0, s1, s2, s3, s4, s5⟩
                    go_simp
                    with_reducible rfl
                  rotate_left
                  · simp only [Act.put, List.setIfInBounds_toArray, List.set_cons_zero, List.set_cons_succ, i64_w, i32_w]
                    rfl
                  refine pure_ (i := 2) (N := some 5) (v := ?_) (a' := ?_) #[true, true, true, false, false, true, false, false, false, false, true, false, false, false, false, true, false, false, false, false, true, false, false, false, false] rfl rfl (any_of HT_.out (by kernel_rfl)) (fun _ _ _ h => h) (Or.inl ⟨by rfl, ?_⟩) ?_ ?_
                  rotate_left
                  · intro w'
                    go_simp
                    with_reducible rfl
                  rotate_left
                  · simp only [Act.put, List.setIfInBounds_toArray, List.set_cons_zero, List.set_cons_succ, i64_w, i32_w]
                    rfl
                  refine take_ (i := 3) (N := some 6) (v := ?_) (a' := ?_) #[true, true, true, true, false, true, false, false, false, false, true, false, false, false, false, true, false, false, false, false, true, false, false, false, false] rfl rfl (take_ofW HT_.out HW_.out (by kernel_rfl)) (fun _ _ _ h => h) (Or.inl ⟨by rfl, ?_⟩) hHeld ?_ ?_
                  rotate_left
                  · rintro w' ⟨s0, s1, s2, s3, s4, s5⟩
                    go_simp
                    with_reducible rfl
                  rotate_left
                  · simp only [Act.put, List.setIfInBounds_toArray, List.set_cons_zero, List.set_cons_succ, i64_w, i32_w]
                    rfl
                  refine pure_ (i := 4) (N := some 7) (v := ?_) (a' := ?_) #[true, true, true, true, true, true, false, false, false, false, true, false, false, false, false, true, false, false, false, false, true, false, false, false, false] rfl rfl (any_of HT_.out (by kernel_rfl)) (fun _ _ _ h => h) (Or.inl ⟨by rfl, ?_⟩) ?_ ?_
                  rotate_left
                  · intro w'
                    go_simp
                    with_reducible rfl
                  rotate_left
                  · simp only [Act.put, List.setIfInBounds_toArray, List.set_cons_zero, List.set_cons_succ, i64_w, i32_w]
                    rfl
                  refine take_ (i := 6) (N := some 9) (v := ?_) (a' := ?_) #[true, true, true, true, true, true, true, false, false, false, true, false, false, false, false, true, false, false, false, false, true, false, false, false, false] rfl rfl (take_ofW HT_.out HW_.out (by kernel_rfl)) (fun _ _ _ h => h) (Or.inl ⟨by rfl, ?_⟩) hHeld ?_ ?_
                  rotate_left
                  · rintro w' ⟨s0, s1, s2, s3, s4, s5⟩
                    go_simp
                    with_reducible rfl
                  rotate_left
                  · simp only [Act.put, List.setIfInBounds_toArray, List.set_cons_zero, List.set_cons_succ, i64_w, i32_w]
                    rfl
                  refine take_ (i := 11) (N := some 14) (v := ?_) (a' := ?_) #[true, true, true, true, true, true, true, false, false, false, true, true, false, false, false, true, false, false, false, false, true, false, false, false, false] rfl rfl (take_ofW HT_.out HW_.out (by kernel_rfl)) (fun _ _ _ h => h) (Or.inl ⟨by rfl, ?_⟩) hHeld ?_ ?_
                  rotate_left
                  · rintro w' ⟨s0, s1, s2, s3, s4, s5⟩
                    go_simp
                    with_reducible rfl
                  rotate_left
                  · simp only [Act.put, List.setIfInBounds_toArray, List.set_cons_zero, List.set_cons_succ, i64_w, i32_w]
                    rfl
                  refine take_ (i := 16) (N := some 19) (v := ?_) (a' := ?_) #[true, true, true, true, true, true, true, false, false, false, true, true, false, false, false, true, true, false, false, false, true, false, false, false, false] rfl rfl (take_ofW HT_.out HW_.out (by kernel_rfl)) (fun _ _ _ h => h) (Or.inl ⟨by rfl, ?_⟩) hHeld ?_ ?_
                  rotate_left
                  · rintro w' ⟨s0, s1, s2, s3, s4, s5⟩
                    go_simp
                    with_reducible rfl
                  rotate_left
                  · simp only [Act.put, List.setIfInBounds_toArray, List.set_cons_zero, List.set_cons_succ, i64_w, i32_w]
                    rfl
                  refine take_ (i := 21) (N := some 24) (v := ?_) (a' := ?_) #[true, true, true, true, true, true, true, false, false, false, true, true, false, false, false, true, true, false, false, false, true, true, false, false, false] rfl rfl (take_ofW HT_.out HW_.out (by kernel_rfl)) (fun _ _ _ h => h) (Or.inl ⟨by rfl, ?_⟩) hHeld ?_ ?_
                  rotate_left
                  · rintro w' ⟨s0, s1, s2, s3, s4, s5⟩
                    go_simp
                    with_reducible rfl
                  rotate_left
                  · simp only [Act.put, List.setIfInBounds_toArray, List.set_cons_zero, List.set_cons_succ, i64_w, i32_w]
                    rfl
                  refine one_ (i := 7) (N := some 10) #[true, true, true, true, true, true, true, true, false, false, true, true, false, false, false, true, true, false, false, false, true, true, false, false, false] rfl rfl (one_of HT_.out (by kernel_rfl)) (by decide) (fun K hK => ?_)
                  refine goes_ Tryd.func28 (by kernel_rfl) rfl #[.int .i64 a0_2] (by rfl) rfl rfl argsB ?_
                  with_reducible refine (impl_decimal.calls a0_2 t139 _ A3.out (TabW.up2 hTW HB.out)).mono ?_
                  rintro e w16 ⟨rfl, hb⟩
                  refine ⟨_, rfl, ?_⟩
                  have n0_ := Aside0.mk (blk_below (g := gb138) (o := .cells #[.int .i64 a0_0, .int .i64 a0_1, .int .i64 a0_2, .int .i64 a0_3, .int .i64 a0_4] 26 (0, 0)) (upK BK138.out) hb)
                  have n1_ := Aside0.mk (below_step (upB1 HB.out GE138.out) hb)
                  clear BK138
                  clear HB
                  have BK138 := n0_
                  have HB := n1_
                  clear n0_ n1_
                  (try clear hb)
                  refine hK.out _ _ ⟨(blk_cell BK138.out 0).trans rfl, (blk_cell BK138.out 1).trans rfl, (blk_cell BK138.out 2).trans rfl, (blk_cell BK138.out 3).trans rfl, (blk_cell BK138.out 4).trans rfl, TabW.word hTW HB.out hg0_ hg1_⟩ (fun hHeld => ?_)
                  clear hK K
                  refine norm_ (a' := ?_) ?_ ?_
                  rotate_left
                  · show Act.put _ (some 10) _ = _
                    simp only [Act.put, List.setIfInBounds_toArray, List.set_cons_zero, List.set_cons_succ, i64_w, i32_w]
                    rfl
                  refine pure_ (i := 8) (N := some 11) (v := ?_) (a' := ?_) #[true, true, true, true, true, true, true, true, true, false, true, true, false, false, false, true, true, false, false, false, true, true, false, false, false] rfl rfl (any_of HT_.out (by kernel_rfl)) (fun _ _ _ h => h) (Or.inl ⟨by rfl, ?_⟩) ?_ ?_
                  rotate_left
                  · intro w'
                    go_simp
                    with_reducible rfl
                  rotate_left
                  · simp only [Act.put, List.setIfInBounds_toArray, List.set_cons_zero, List.set_cons_succ, i64_w, i32_w]
                    rfl
                  refine pure_ (i := 9) (N := some 12) (v := ?_) (a' := ?_) #[true, true, true, true, true, true, true, true, true, true, true, true, false, false, false, true, true, false, false, false, true, true, false, false, false] rfl rfl (any_of HT_.out (by kernel_rfl)) (fun _ _ _ h => h) (Or.inl ⟨by rfl, ?_⟩) ?_ ?_
                  rotate_left
                  · intro w'
                    go_simp
                    with_reducible rfl
                  rotate_left
                  · simp only [Act.put, List.setIfInBounds_toArray, List.set_cons_zero, List.set_cons_succ, i64_w, i32_w]
                    rfl
                  refine one_ (i := 12) (N := some 15) #[true, true, true, true, true, true, true, true, true, true, true, true, true, false, false, true, true, false, false, false, true, true, false, false, false] rfl rfl (one_of HT_.out (by kernel_rfl)) (by decide) (fun K hK => ?_)
                  refine goes_ Tryd.func28 (by kernel_rfl) rfl #[.int .i64 a0_1] (by rfl) rfl rfl argsB ?_
                  with_reducible refine (impl_decimal.calls a0_1 t140 _ A6.out (TabW.up2 hTW HB.out)).mono ?_
                  rintro e w17 ⟨rfl, hb⟩
                  refine ⟨_, rfl, ?_⟩
                  have n0_ := Aside0.mk (blk_below (g := gb138) (o := .cells #[.int .i64 a0_0, .int .i64 a0_1, .int .i64 a0_2, .int .i64 a0_3, .int .i64 a0_4] 26 (0, 0)) (upK BK138.out) hb)
                  have n1_ := Aside0.mk (below_step (upB1 HB.out GE138.out) hb)
                  clear BK138
                  clear HB
                  have BK138 := n0_
                  have HB := n1_
                  clear n0_ n1_
                  (try clear hb)
                  refine hK.out _ _ ⟨(blk_cell BK138.out 0).trans rfl, (blk_cell BK138.out 1).trans rfl, (blk_cell BK138.out 2).trans rfl, (blk_cell BK138.out 3).trans rfl, (blk_cell BK138.out 4).trans rfl, TabW.word hTW HB.out hg0_ hg1_⟩ (fun hHeld => ?_)
                  clear hK K
                  refine norm_ (a' := ?_) ?_ ?_
                  rotate_left
                  · show Act.put _ (some 15) _ = _
                    simp only [Act.put, List.setIfInBounds_toArray, List.set_cons_zero, List.set_cons_succ, i64_w, i32_w]
                    rfl
                  refine pure_ (i := 13) (N := some 16) (v := ?_) (a' := ?_) #[true, true, true, true, true, true, true, true, true, true, true, true, true, true, false, true, true, false, false, false, true, true, false, false, false] rfl rfl (any_of HT_.out (by kernel_rfl)) (fun _ _ _ h => h) (Or.inl ⟨by rfl, ?_⟩) ?_ ?_
                  rotate_left
                  · intro w'
                    go_simp
                    with_reducible rfl
                  rotate_left
                  · simp only [Act.put, List.setIfInBounds_toArray, List.set_cons_zero, List.set_cons_succ, i64_w, i32_w]
                    rfl
                  refine pure_ (i := 14) (N := some 17) (v := ?_) (a' := ?_) #[true, true, true, true, true, true, true, true, true, true, true, true, true, true, true, true, true, false, false, false, true, true, false, false, false] rfl rfl (any_of HT_.out (by kernel_rfl)) (fun _ _ _ h => h) (Or.inl ⟨by rfl, ?_⟩) ?_ ?_
                  rotate_left
                  · intro w'
                    go_simp
                    with_reducible rfl
                  rotate_left
                  · simp only [Act.put, List.setIfInBounds_toArray, List.set_cons_zero, List.set_cons_succ, i64_w, i32_w]
                    rfl
                  refine one_ (i := 17) (N := some 20) #[true, true, true, true, true, true, true, true, true, true, true, true, true, true, true, true, true, true, false, false, true, true, false, false, false] rfl rfl (one_of HT_.out (by kernel_rfl)) (by decide) (fun K hK => ?_)
                  refine goes_ Tryd.func28 (by kernel_rfl) rfl #[.int .i64 a0_3] (by rfl) rfl rfl argsB ?_
                  with_reducible refine (impl_decimal.calls a0_3 t141 _ A9.out (TabW.up2 hTW HB.out)).mono ?_
                  rintro e w18 ⟨rfl, hb⟩
                  refine ⟨_, rfl, ?_⟩
                  have n0_ := Aside0.mk (blk_below (g := gb138) (o := .cells #[.int .i64 a0_0, .int .i64 a0_1, .int .i64 a0_2, .int .i64 a0_3, .int .i64 a0_4] 26 (0, 0)) (upK BK138.out) hb)
                  have n1_ := Aside0.mk (below_step (upB1 HB.out GE138.out) hb)
                  clear BK138
                  clear HB
                  have BK138 := n0_
                  have HB := n1_
                  clear n0_ n1_
                  (try clear hb)
                  refine hK.out _ _ ⟨(blk_cell BK138.out 0).trans rfl, (blk_cell BK138.out 1).trans rfl, (blk_cell BK138.out 2).trans rfl, (blk_cell BK138.out 3).trans rfl, (blk_cell BK138.out 4).trans rfl, TabW.word hTW HB.out hg0_ hg1_⟩ (fun hHeld => ?_)
                  clear hK K
                  refine norm_ (a' := ?_) ?_ ?_
                  rotate_left
                  · show Act.put _ (some 20) _ = _
                    simp only [Act.put, List.setIfInBounds_toArray, List.set_cons_zero, List.set_cons_succ, i64_w, i32_w]
                    rfl
                  refine pure_ (i := 18) (N := some 21) (v := ?_) (a' := ?_) #[true, true, true, true, true, true, true, true, true, true, true, true, true, true, true, true, true, true, true, false, true, true, false, false, false] rfl rfl (any_of HT_.out (by kernel_rfl)) (fun _ _ _ h => h) (Or.inl ⟨by rfl, ?_⟩) ?_ ?_
                  rotate_left
                  · intro w'
                    go_simp
                    with_reducible rfl
                  rotate_left
                  · simp only [Act.put, List.setIfInBounds_toArray, List.set_cons_zero, List.set_cons_succ, i64_w, i32_w]
                    rfl
                  refine pure_ (i := 19) (N := some 22) (v := ?_) (a' := ?_) #[true, true, true, true, true, true, true, true, true, true, true, true, true, true, true, true, true, true, true, true, true, true, false, false, false] rfl rfl (any_of HT_.out (by kernel_rfl)) (fun _ _ _ h => h) (Or.inl ⟨by rfl, ?_⟩) ?_ ?_
                  rotate_left
                  · intro w'
                    go_simp
                    with_reducible rfl
                  rotate_left
                  · simp only [Act.put, List.setIfInBounds_toArray, List.set_cons_zero, List.set_cons_succ, i64_w, i32_w]
                    rfl
                  refine one_ (i := 22) (N := some 25) #[true, true, true, true, true, true, true, true, true, true, true, true, true, true, true, true, true, true, true, true, true, true, true, false, false] rfl rfl (one_of HT_.out (by kernel_rfl)) (by decide) (fun K hK => ?_)
                  refine goes_ Tryd.func28 (by kernel_rfl) rfl #[.int .i64 a0_4] (by rfl) rfl rfl argsB ?_
                  with_reducible refine (impl_decimal.calls a0_4 t142 _ A12.out (TabW.up2 hTW HB.out)).mono ?_
                  rintro e w19 ⟨rfl, hb⟩
                  refine ⟨_, rfl, ?_⟩
                  have n0_ := Aside0.mk (blk_below (g := gb138) (o := .cells #[.int .i64 a0_0, .int .i64 a0_1, .int .i64 a0_2, .int .i64 a0_3, .int .i64 a0_4] 26 (0, 0)) (upK BK138.out) hb)
                  have n1_ := Aside0.mk (below_step (upB1 HB.out GE138.out) hb)
                  clear BK138
                  clear HB
                  have BK138 := n0_
                  have HB := n1_
                  clear n0_ n1_
                  (try clear hb)
                  refine hK.out _ _ ⟨(blk_cell BK138.out 0).trans rfl, (blk_cell BK138.out 1).trans rfl, (blk_cell BK138.out 2).trans rfl, (blk_cell BK138.out 3).trans rfl, (blk_cell BK138.out 4).trans rfl, TabW.word hTW HB.out hg0_ hg1_⟩ (fun hHeld => ?_)
                  clear hK K
                  refine norm_ (a' := ?_) ?_ ?_
                  rotate_left
                  · show Act.put _ (some 25) _ = _
                    simp only [Act.put, List.setIfInBounds_toArray, List.set_cons_zero, List.set_cons_succ, i64_w, i32_w]
                    rfl
                  refine pure_ (i := 23) (N := some 26) (v := ?_) (a' := ?_) #[true, true, true, true, true, true, true, true, true, true, true, true, true, true, true, true, true, true, true, true, true, true, true, true, false] rfl rfl (any_of HT_.out (by kernel_rfl)) (fun _ _ _ h => h) (Or.inl ⟨by rfl, ?_⟩) ?_ ?_
                  rotate_left
                  · intro w'
                    go_simp
                    with_reducible rfl
                  rotate_left
                  · simp only [Act.put, List.setIfInBounds_toArray, List.set_cons_zero, List.set_cons_succ, i64_w, i32_w]
                    rfl
                  refine pure_ (i := 24) (N := some 2) (v := ?_) (a' := ?_) #[true, true, true, true, true, true, true, true, true, true, true, true, true, true, true, true, true, true, true, true, true, true, true, true, true] rfl rfl (any_of HT_.out (by kernel_rfl)) (fun _ _ _ h => h) (Or.inl ⟨by rfl, ?_⟩) ?_ ?_
                  rotate_left
                  · intro w'
                    go_simp
                    with_reducible rfl
                  rotate_left
                  · simp only [Act.put, List.setIfInBounds_toArray, List.set_cons_zero, List.set_cons_succ, i64_w, i32_w]
                    rfl
                  refine done_ (done_of HT_.out (by kernel_rfl)) ?_
                  try go_wp2
                  go_ret
                  exact ⟨by first | rfl | (simp [errW_none, errW_some] <;> rfl) | (simp [*, errW_none, errW_some] <;> rfl), (upB1 HB.out GE138.out)⟩
                · rw [if_neg c13] at H
                  exact absurd H (by simp)
              · rw [if_neg c11] at H
                exact absurd H (by simp)
            · rw [if_neg c10] at H
              exact absurd H (by simp)
          · rw [if_neg c8] at H
            exact absurd H (by simp)
        · rw [if_neg c7] at H
          exact absurd H (by simp)
      · rw [if_neg c5] at H
        exact absurd H (by simp)
    · rw [if_neg c4] at H
      exact absurd H (by simp)
  · rw [if_neg c2] at H
    exact absurd H (by simp)

/-! ### impl_TripText: function 7 -/
def impl_TripText.f (k : Nat) (a0_0 : Int) (a0_1 : Int) (a0_2 : Int) (a0_3 : Int) (a0_4 : Int) : Option (ByteArray × Bool) := (impl_IsTrip.f k a0_0 a0_1 a0_2 a0_3 a0_4).bind fun t144 => (if t144 = true then ((impl_tripText.f a0_0 a0_1 a0_2 a0_3 a0_4).bind fun t145 => (some (t145, true))) else (some ((⟨#[]⟩ : ByteArray), false)))
theorem impl_TripText.mono : ∀ a0 a1 a2 a3 a4 k, LeO (impl_TripText.f k a0 a1 a2 a3 a4) (impl_TripText.f (k + 1) a0 a1 a2 a3 a4) := by
  intro a0 a1 a2 a3 a4 k
  unfold impl_TripText.f
  repeat' first
      | (with_reducible exact impl_IsTrip.mono _ _ _ _ _ _)
      | (with_reducible exact LeO.refl _)
      | (with_reducible exact LeO.none _)
      | (with_reducible refine LeO.ite ?_ ?_)
      | (with_reducible refine LeO.bind ?_ (fun _ => ?_))
      | exact impl_IsTrip.mono _ _ _ _ _ _
      | exact LeO.none _
      | refine LeO.ite ?_ ?_
      | refine LeO.bind ?_ (fun _ => ?_)
set_option maxHeartbeats 8000000 in
set_option maxRecDepth 100000 in
theorem impl_TripText.calls (k : Nat) (a0_0 : Int) (a0_1 : Int) (a0_2 : Int) (a0_3 : Int) (a0_4 : Int) (r1 : ByteArray) (r2 : Bool) (w : World) (h : impl_TripText.f k a0_0 a0_1 a0_2 a0_3 a0_4 = some (r1, r2)) (hTW : TabW w) :
    Calls Tryd.prog 7 #[.agg #[.int .i64 a0_0, .int .i64 a0_1, .int .i64 a0_2, .int .i64 a0_3, .int .i64 a0_4]] w fun e w' => e = .returned (.tuple #[.string r1, .bool r2]) ∧ Below w.heap.size w w' := by
  have hu26 := Tryd.underlying26
  have HB := Aside0.mk (Below.refl w.heap.size w)
  have H : ((impl_IsTrip.f k a0_0 a0_1 a0_2 a0_3 a0_4).bind fun t144 => (if t144 = true then ((impl_tripText.f a0_0 a0_1 a0_2 a0_3 a0_4).bind fun t145 => (some (t145, true))) else (some ((⟨#[]⟩ : ByteArray), false)))) = some (r1, r2) := h
  clear h
  replace H := Option.bind_eq_some_iff.mp H
  obtain ⟨t144, A20, H⟩ := H
  replace H : (if t144 = true then ((impl_tripText.f a0_0 a0_1 a0_2 a0_3 a0_4).bind fun t145 => (some (t145, true))) else (some ((⟨#[]⟩ : ByteArray), false))) = some (r1, r2) := H
  have A2 := Aside0.mk A20
  clear A20
  by_cases c3 : t144 = true
  · subst c3
    have H1 : ((impl_tripText.f a0_0 a0_1 a0_2 a0_3 a0_4).bind fun t145 => (some (t145, true))) = some (r1, r2) := by rw [if_pos rfl] at H; exact H
    clear H
    have H := H1
    clear H1
    replace H := Option.bind_eq_some_iff.mp H
    obtain ⟨t145, A40, H⟩ := H
    replace H : (some (t145, true)) = some (r1, r2) := H
    have A4 := Aside0.mk A40
    clear A40
    simp only [Option.some.injEq, Prod.mk.injEq] at H
    obtain ⟨rfl, rfl⟩ := H
    go_enter Tryd.func7, Tryd.ntmps7
    go_wp2_with (first | ((with_reducible refine gate_dst (N := 1) rfl ?_); refine box_event ?hg (N := 1) ?hd (cs := #[.int .i64 a0_0, .int .i64 a0_1, .int .i64 a0_2, .int .i64 a0_3, .int .i64 a0_4]) (t := 26) ?hr ?_; (case hd => rfl); (case hg => rfl); (case hr => first | (go_simp; done) | (go_simp; rfl)); intro gb143 hg w5 hbox hb; have n0_ := Aside0.mk (below_step (upB HB.out) hb); have n1_ := Aside0.mk (hbox); have n2_ := Aside0.mk ((by rw [hg]; exact (below_size (upB HB.out)) : w.heap.size ≤ gb143)); have n3_ := Aside0.mk ((by rw [hg]; exact (below_size (upB HB.out)) : w.heap.size ≤ gb143)); clear HB; have HB := n0_; have BK143 := n1_; have GW143 := n2_; have GE143 := n3_; clear n0_ n1_ n2_ n3_; clear hb hbox hg; have hcz6_0 := ci BK143.out 0 a0_0 rfl; have hcz6_1 := ci BK143.out 1 a0_1 rfl; have hcz6_2 := ci BK143.out 2 a0_2 rfl; have hcz6_3 := ci BK143.out 3 a0_3 rfl; have hcz6_4 := ci BK143.out 4 a0_4 rfl; have hfz6_0 := fun j_ : Nat => blk_frozen BK143.out j_) | ((with_reducible refine gate_callee (f := 13) rfl ?_); refine goesL_ (some 5) rfl rfl Tryd.func13 (by kernel_rfl) rfl #[.agg #[.int .i64 a0_0, .int .i64 a0_1, .int .i64 a0_2, .int .i64 a0_3, .int .i64 a0_4]] rfl argsB ?_; (with_reducible refine (impl_IsTrip.calls k a0_0 a0_1 a0_2 a0_3 a0_4 true _ A2.out).mono ?_); rintro e w7 ⟨rfl, hb⟩; refine ⟨_, rfl, ?_⟩; have n0_ := Aside0.mk (blk_below (g := gb143) (o := .cells #[.int .i64 a0_0, .int .i64 a0_1, .int .i64 a0_2, .int .i64 a0_3, .int .i64 a0_4] 26 (0, 0)) (upK BK143.out) hb); have n1_ := Aside0.mk (below_step (upB1 HB.out GE143.out) hb); clear BK143; clear HB; have BK143 := n0_; have HB := n1_; clear n0_ n1_; (try clear hb); have hcz8_0 := ci BK143.out 0 a0_0 rfl; have hcz8_1 := ci BK143.out 1 a0_1 rfl; have hcz8_2 := ci BK143.out 2 a0_2 rfl; have hcz8_3 := ci BK143.out 3 a0_3 rfl; have hcz8_4 := ci BK143.out 4 a0_4 rfl; have hfz8_0 := fun j_ : Nat => blk_frozen BK143.out j_) | ((with_reducible refine gate_callee (f := 14) rfl ?_); refine goesL_ (some 8) rfl rfl Tryd.func14 (by kernel_rfl) rfl #[.agg #[.int .i64 a0_0, .int .i64 a0_1, .int .i64 a0_2, .int .i64 a0_3, .int .i64 a0_4]] rfl argsB ?_; (with_reducible refine (impl_tripText.calls a0_0 a0_1 a0_2 a0_3 a0_4 t145 _ A4.out (TabW.up2 hTW HB.out)).mono ?_); rintro e w9 ⟨rfl, hb⟩; refine ⟨_, rfl, ?_⟩; have n0_ := Aside0.mk (blk_below (g := gb143) (o := .cells #[.int .i64 a0_0, .int .i64 a0_1, .int .i64 a0_2, .int .i64 a0_3, .int .i64 a0_4] 26 (0, 0)) (upK BK143.out) hb); have n1_ := Aside0.mk (below_step (upB1 HB.out GE143.out) hb); clear BK143; clear HB; have BK143 := n0_; have HB := n1_; clear n0_ n1_; (try clear hb)))
    go_ret2
    exact ⟨by first | rfl | (simp [errW_none, errW_some] <;> rfl) | (simp [*, errW_none, errW_some] <;> rfl), (upB1 HB.out GE143.out)⟩
  · replace c3 := Bool.eq_false_iff.mpr c3
    subst c3
    have H1 : (some ((⟨#[]⟩ : ByteArray), false)) = some (r1, r2) := by rw [if_neg (show ¬ (false = true) by decide)] at H; exact H
    clear H
    have H := H1
    clear H1
    simp only [Option.some.injEq, Prod.mk.injEq] at H
    obtain ⟨rfl, rfl⟩ := H
    go_enter Tryd.func7, Tryd.ntmps7
    go_wp2_with (first | ((with_reducible refine gate_dst (N := 1) rfl ?_); refine box_event ?hg (N := 1) ?hd (cs := #[.int .i64 a0_0, .int .i64 a0_1, .int .i64 a0_2, .int .i64 a0_3, .int .i64 a0_4]) (t := 26) ?hr ?_; (case hd => rfl); (case hg => rfl); (case hr => first | (go_simp; done) | (go_simp; rfl)); intro gb143 hg w10 hbox hb; have n0_ := Aside0.mk (below_step (upB HB.out) hb); have n1_ := Aside0.mk (hbox); have n2_ := Aside0.mk ((by rw [hg]; exact (below_size (upB HB.out)) : w.heap.size ≤ gb143)); have n3_ := Aside0.mk ((by rw [hg]; exact (below_size (upB HB.out)) : w.heap.size ≤ gb143)); clear HB; have HB := n0_; have BK143 := n1_; have GW143 := n2_; have GE143 := n3_; clear n0_ n1_ n2_ n3_; clear hb hbox hg; have hcz11_0 := ci BK143.out 0 a0_0 rfl; have hcz11_1 := ci BK143.out 1 a0_1 rfl; have hcz11_2 := ci BK143.out 2 a0_2 rfl; have hcz11_3 := ci BK143.out 3 a0_3 rfl; have hcz11_4 := ci BK143.out 4 a0_4 rfl; have hfz11_0 := fun j_ : Nat => blk_frozen BK143.out j_) | ((with_reducible refine gate_callee (f := 13) rfl ?_); refine goesL_ (some 5) rfl rfl Tryd.func13 (by kernel_rfl) rfl #[.agg #[.int .i64 a0_0, .int .i64 a0_1, .int .i64 a0_2, .int .i64 a0_3, .int .i64 a0_4]] rfl argsB ?_; (with_reducible refine (impl_IsTrip.calls k a0_0 a0_1 a0_2 a0_3 a0_4 false _ A2.out).mono ?_); rintro e w12 ⟨rfl, hb⟩; refine ⟨_, rfl, ?_⟩; have n0_ := Aside0.mk (blk_below (g := gb143) (o := .cells #[.int .i64 a0_0, .int .i64 a0_1, .int .i64 a0_2, .int .i64 a0_3, .int .i64 a0_4] 26 (0, 0)) (upK BK143.out) hb); have n1_ := Aside0.mk (below_step (upB1 HB.out GE143.out) hb); clear BK143; clear HB; have BK143 := n0_; have HB := n1_; clear n0_ n1_; (try clear hb)))
    go_ret2
    exact ⟨by first | rfl | (simp [errW_none, errW_some] <;> rfl) | (simp [*, errW_none, errW_some] <;> rfl), (upB1 HB.out GE143.out)⟩

/-! ### laws_FnExactTripText: function 3 -/
def laws_FnExactTripText.f (k : Nat) (a0_0 : Int) (a0_1 : Int) (a0_2 : Int) (a0_3 : Int) (a0_4 : Int) : Option (Bool) := (laws_toTrip.f a0_0 a0_1 a0_2 a0_3 a0_4).bind fun bt147 => ((spec_TripText.f k bt147.1 bt147.2.1 bt147.2.2.1 bt147.2.2.2.1 bt147.2.2.2.2).bind fun bt152 => ((laws_toTrip.f a0_0 a0_1 a0_2 a0_3 a0_4).bind fun bt154 => ((impl_TripText.f k bt154.1 bt154.2.1 bt154.2.2.1 bt154.2.2.2.1 bt154.2.2.2.2).bind fun bt159 => (if bt159.1.toList = bt152.1.toList then (if (bt159.2 != bt152.2) = true then (some false) else (some true)) else (some false)))))
theorem laws_FnExactTripText.mono : ∀ a0 a1 a2 a3 a4 k, LeO (laws_FnExactTripText.f k a0 a1 a2 a3 a4) (laws_FnExactTripText.f (k + 1) a0 a1 a2 a3 a4) := by
  intro a0 a1 a2 a3 a4 k
  unfold laws_FnExactTripText.f
  repeat' first
      | (with_reducible exact impl_TripText.mono _ _ _ _ _ _)
      | (with_reducible exact spec_TripText.mono _ _ _ _ _ _)
      | (with_reducible exact LeO.refl _)
      | (with_reducible exact LeO.none _)
      | (with_reducible refine LeO.ite ?_ ?_)
      | (with_reducible refine LeO.bind ?_ (fun _ => ?_))
      | exact impl_TripText.mono _ _ _ _ _ _
      | exact spec_TripText.mono _ _ _ _ _ _
      | exact LeO.none _
      | refine LeO.ite ?_ ?_
      | refine LeO.bind ?_ (fun _ => ?_)
set_option maxHeartbeats 8000000 in
set_option maxRecDepth 100000 in
theorem laws_FnExactTripText.calls (k : Nat) (a0_0 : Int) (a0_1 : Int) (a0_2 : Int) (a0_3 : Int) (a0_4 : Int) (r : Bool) (w : World) (h : laws_FnExactTripText.f k a0_0 a0_1 a0_2 a0_3 a0_4 = some r) (hTW : TabW w) :
    Calls Tryd.prog 3 #[.agg #[.int .i64 a0_0, .int .i64 a0_1, .int .i64 a0_2, .int .i64 a0_3, .int .i64 a0_4]] w fun e w' => e = .returned (.bool r) ∧ Below w.heap.size w w' := by
  have hu23 := Tryd.underlying23
  have HB := Aside0.mk (Below.refl w.heap.size w)
  have H : ((laws_toTrip.f a0_0 a0_1 a0_2 a0_3 a0_4).bind fun bt147 => ((spec_TripText.f k bt147.1 bt147.2.1 bt147.2.2.1 bt147.2.2.2.1 bt147.2.2.2.2).bind fun bt152 => ((laws_toTrip.f a0_0 a0_1 a0_2 a0_3 a0_4).bind fun bt154 => ((impl_TripText.f k bt154.1 bt154.2.1 bt154.2.2.1 bt154.2.2.2.1 bt154.2.2.2.2).bind fun bt159 => (if bt159.1.toList = bt152.1.toList then (if (bt159.2 != bt152.2) = true then (some false) else (some true)) else (some false)))))) = some r := h
  clear h
  replace H := Option.bind_eq_some_iff.mp H
  obtain ⟨⟨t147, t148, t149, t150, t151⟩, A20, H⟩ := H
  replace H : ((spec_TripText.f k t147 t148 t149 t150 t151).bind fun bt152 => ((laws_toTrip.f a0_0 a0_1 a0_2 a0_3 a0_4).bind fun bt154 => ((impl_TripText.f k bt154.1 bt154.2.1 bt154.2.2.1 bt154.2.2.2.1 bt154.2.2.2.2).bind fun bt159 => (if bt159.1.toList = bt152.1.toList then (if (bt159.2 != bt152.2) = true then (some false) else (some true)) else (some false))))) = some r := H
  have A2 := Aside0.mk A20
  clear A20
  replace H := Option.bind_eq_some_iff.mp H
  obtain ⟨⟨t152, t153⟩, A30, H⟩ := H
  replace H : ((laws_toTrip.f a0_0 a0_1 a0_2 a0_3 a0_4).bind fun bt154 => ((impl_TripText.f k bt154.1 bt154.2.1 bt154.2.2.1 bt154.2.2.2.1 bt154.2.2.2.2).bind fun bt159 => (if bt159.1.toList = t152.toList then (if (bt159.2 != t153) = true then (some false) else (some true)) else (some false)))) = some r := H
  have A3 := Aside0.mk A30
  clear A30
  replace H := Option.bind_eq_some_iff.mp H
  obtain ⟨⟨t154, t155, t156, t157, t158⟩, A40, H⟩ := H
  replace H : ((impl_TripText.f k t154 t155 t156 t157 t158).bind fun bt159 => (if bt159.1.toList = t152.toList then (if (bt159.2 != t153) = true then (some false) else (some true)) else (some false))) = some r := H
  have A4 := Aside0.mk A40
  clear A40
  replace H := Option.bind_eq_some_iff.mp H
  obtain ⟨⟨t159, t160⟩, A50, H⟩ := H
  replace H : (if t159.toList = t152.toList then (if (t160 != t153) = true then (some false) else (some true)) else (some false)) = some r := H
  have A5 := Aside0.mk A50
  clear A50
  by_cases c6 : t159.toList = t152.toList
  · rw [if_pos c6] at H
    have c6b0 : (t159.toList == t152.toList) = true := beq_iff_eq.mpr c6
    have c6b1 : (t159.toList != t152.toList) = false := bne_eq_false_iff_eq.mpr c6
    clear c6
    by_cases c7 : (t160 != t153) = true
    · rw [if_pos c7] at H
      have c7b0 : (t160 != t153) = true := c7
      (try (have c7b1 : decide (t160 = t153) = false := by simpa using c7))
      (try (have c7b2 : (t160 == t153) = false := by simpa using c7))
      (try (have c7b3 : ¬ (t160 = t153) := by simpa using c7))
      clear c7
      obtain rfl := Option.some.inj H
      go_enter Tryd.func3, Tryd.ntmps3
      go_wp2_with (first | ((with_reducible refine gate_dst (N := 1) rfl ?_); refine box_event ?hg (N := 1) ?hd (cs := #[.int .i64 a0_0, .int .i64 a0_1, .int .i64 a0_2, .int .i64 a0_3, .int .i64 a0_4]) (t := 23) ?hr ?_; (case hd => rfl); (case hg => rfl); (case hr => first | (go_simp; done) | (go_simp; rfl)); intro gb146 hg w8 hbox hb; have n0_ := Aside0.mk (below_step (upB HB.out) hb); have n1_ := Aside0.mk (hbox); have n2_ := Aside0.mk ((by rw [hg]; exact (below_size (upB HB.out)) : w.heap.size ≤ gb146)); have n3_ := Aside0.mk ((by rw [hg]; exact (below_size (upB HB.out)) : w.heap.size ≤ gb146)); clear HB; have HB := n0_; have BK146 := n1_; have GW146 := n2_; have GE146 := n3_; clear n0_ n1_ n2_ n3_; clear hb hbox hg; have hcz9_0 := ci BK146.out 0 a0_0 rfl; have hcz9_1 := ci BK146.out 1 a0_1 rfl; have hcz9_2 := ci BK146.out 2 a0_2 rfl; have hcz9_3 := ci BK146.out 3 a0_3 rfl; have hcz9_4 := ci BK146.out 4 a0_4 rfl; have hfz9_0 := fun j_ : Nat => blk_frozen BK146.out j_) | ((with_reducible refine gate_callee (f := 6) rfl ?_); refine goesL_ (some 9) rfl rfl Tryd.func6 (by kernel_rfl) rfl #[.agg #[.int .i64 a0_0, .int .i64 a0_1, .int .i64 a0_2, .int .i64 a0_3, .int .i64 a0_4]] rfl argsB ?_; (with_reducible refine (laws_toTrip.calls a0_0 a0_1 a0_2 a0_3 a0_4 t147 t148 t149 t150 t151 _ A2.out).mono ?_); rintro e w10 ⟨rfl, hb⟩; refine ⟨_, rfl, ?_⟩; have n0_ := Aside0.mk (blk_below (g := gb146) (o := .cells #[.int .i64 a0_0, .int .i64 a0_1, .int .i64 a0_2, .int .i64 a0_3, .int .i64 a0_4] 23 (0, 0)) (upK BK146.out) hb); have n1_ := Aside0.mk (below_step (upB1 HB.out GE146.out) hb); clear BK146; clear HB; have BK146 := n0_; have HB := n1_; clear n0_ n1_; (try clear hb)) | ((with_reducible refine gate_callee (f := 5) rfl ?_); refine goesL_ (some 10) rfl rfl Tryd.func5 (by kernel_rfl) rfl #[.agg #[.int .i64 t147, .int .i64 t148, .int .i64 t149, .int .i64 t150, .int .i64 t151]] rfl argsB ?_; (with_reducible refine (spec_TripText.calls k t147 t148 t149 t150 t151 t152 t153 _ A3.out).mono ?_); rintro e w11 ⟨rfl, hb⟩; refine ⟨_, rfl, ?_⟩; have n0_ := Aside0.mk (blk_below (g := gb146) (o := .cells #[.int .i64 a0_0, .int .i64 a0_1, .int .i64 a0_2, .int .i64 a0_3, .int .i64 a0_4] 23 (0, 0)) (upK BK146.out) hb); have n1_ := Aside0.mk (below_step (upB1 HB.out GE146.out) hb); clear BK146; clear HB; have BK146 := n0_; have HB := n1_; clear n0_ n1_; (try clear hb); have hcz12_0 := ci BK146.out 0 a0_0 rfl; have hcz12_1 := ci BK146.out 1 a0_1 rfl; have hcz12_2 := ci BK146.out 2 a0_2 rfl; have hcz12_3 := ci BK146.out 3 a0_3 rfl; have hcz12_4 := ci BK146.out 4 a0_4 rfl; have hfz12_0 := fun j_ : Nat => blk_frozen BK146.out j_) | ((with_reducible refine gate_callee (f := 6) rfl ?_); refine goesL_ (some 15) rfl rfl Tryd.func6 (by kernel_rfl) rfl #[.agg #[.int .i64 a0_0, .int .i64 a0_1, .int .i64 a0_2, .int .i64 a0_3, .int .i64 a0_4]] rfl argsB ?_; (with_reducible refine (laws_toTrip.calls a0_0 a0_1 a0_2 a0_3 a0_4 t154 t155 t156 t157 t158 _ A4.out).mono ?_); rintro e w13 ⟨rfl, hb⟩; refine ⟨_, rfl, ?_⟩; have n0_ := Aside0.mk (blk_below (g := gb146) (o := .cells #[.int .i64 a0_0, .int .i64 a0_1, .int .i64 a0_2, .int .i64 a0_3, .int .i64 a0_4] 23 (0, 0)) (upK BK146.out) hb); have n1_ := Aside0.mk (below_step (upB1 HB.out GE146.out) hb); clear BK146; clear HB; have BK146 := n0_; have HB := n1_; clear n0_ n1_; (try clear hb)) | ((with_reducible refine gate_callee (f := 7) rfl ?_); refine goesL_ (some 16) rfl rfl Tryd.func7 (by kernel_rfl) rfl #[.agg #[.int .i64 t154, .int .i64 t155, .int .i64 t156, .int .i64 t157, .int .i64 t158]] rfl argsB ?_; (with_reducible refine (impl_TripText.calls k t154 t155 t156 t157 t158 t159 t160 _ A5.out (TabW.up2 hTW HB.out)).mono ?_); rintro e w14 ⟨rfl, hb⟩; refine ⟨_, rfl, ?_⟩; have n0_ := Aside0.mk (blk_below (g := gb146) (o := .cells #[.int .i64 a0_0, .int .i64 a0_1, .int .i64 a0_2, .int .i64 a0_3, .int .i64 a0_4] 23 (0, 0)) (upK BK146.out) hb); have n1_ := Aside0.mk (below_step (upB1 HB.out GE146.out) hb); clear BK146; clear HB; have BK146 := n0_; have HB := n1_; clear n0_ n1_; (try clear hb)))
      go_ret
      exact ⟨by first | rfl | (simp [errW_none, errW_some] <;> rfl) | (simp [*, errW_none, errW_some] <;> rfl), (upB1 HB.out GE146.out)⟩
    · rw [if_neg c7] at H
      have c7b0 : (t160 != t153) = false := by simpa using c7
      (try (have c7b1 : decide (t160 = t153) = true := by simpa using c7))
      (try (have c7b2 : (t160 == t153) = true := by simpa using c7))
      clear c7
      obtain rfl := Option.some.inj H
      go_enter Tryd.func3, Tryd.ntmps3
      go_wp2_with (first | ((with_reducible refine gate_dst (N := 1) rfl ?_); refine box_event ?hg (N := 1) ?hd (cs := #[.int .i64 a0_0, .int .i64 a0_1, .int .i64 a0_2, .int .i64 a0_3, .int .i64 a0_4]) (t := 23) ?hr ?_; (case hd => rfl); (case hg => rfl); (case hr => first | (go_simp; done) | (go_simp; rfl)); intro gb146 hg w15 hbox hb; have n0_ := Aside0.mk (below_step (upB HB.out) hb); have n1_ := Aside0.mk (hbox); have n2_ := Aside0.mk ((by rw [hg]; exact (below_size (upB HB.out)) : w.heap.size ≤ gb146)); have n3_ := Aside0.mk ((by rw [hg]; exact (below_size (upB HB.out)) : w.heap.size ≤ gb146)); clear HB; have HB := n0_; have BK146 := n1_; have GW146 := n2_; have GE146 := n3_; clear n0_ n1_ n2_ n3_; clear hb hbox hg; have hcz16_0 := ci BK146.out 0 a0_0 rfl; have hcz16_1 := ci BK146.out 1 a0_1 rfl; have hcz16_2 := ci BK146.out 2 a0_2 rfl; have hcz16_3 := ci BK146.out 3 a0_3 rfl; have hcz16_4 := ci BK146.out 4 a0_4 rfl; have hfz16_0 := fun j_ : Nat => blk_frozen BK146.out j_) | ((with_reducible refine gate_callee (f := 6) rfl ?_); refine goesL_ (some 9) rfl rfl Tryd.func6 (by kernel_rfl) rfl #[.agg #[.int .i64 a0_0, .int .i64 a0_1, .int .i64 a0_2, .int .i64 a0_3, .int .i64 a0_4]] rfl argsB ?_; (with_reducible refine (laws_toTrip.calls a0_0 a0_1 a0_2 a0_3 a0_4 t147 t148 t149 t150 t151 _ A2.out).mono ?_); rintro e w17 ⟨rfl, hb⟩; refine ⟨_, rfl, ?_⟩; have n0_ := Aside0.mk (blk_below (g := gb146) (o := .cells #[.int .i64 a0_0, .int .i64 a0_1, .int .i64 a0_2, .int .i64 a0_3, .int .i64 a0_4] 23 (0, 0)) (upK BK146.out) hb); have n1_ := Aside0.mk (below_step (upB1 HB.out GE146.out) hb); clear BK146; clear HB; have BK146 := n0_; have HB := n1_; clear n0_ n1_; (try clear hb)) | ((with_reducible refine gate_callee (f := 5) rfl ?_); refine goesL_ (some 10) rfl rfl Tryd.func5 (by kernel_rfl) rfl #[.agg #[.int .i64 t147, .int .i64 t148, .int .i64 t149, .int .i64 t150, .int .i64 t151]] rfl argsB ?_; (with_reducible refine (spec_TripText.calls k t147 t148 t149 t150 t151 t152 t153 _ A3.out).mono ?_); rintro e w18 ⟨rfl, hb⟩; refine ⟨_, rfl, ?_⟩; have n0_ := Aside0.mk (blk_below (g := gb146) (o := .cells #[.int .i64 a0_0, .int .i64 a0_1, .int .i64 a0_2, .int .i64 a0_3, .int .i64 a0_4] 23 (0, 0)) (upK BK146.out) hb); have n1_ := Aside0.mk (below_step (upB1 HB.out GE146.out) hb); clear BK146; clear HB; have BK146 := n0_; have HB := n1_; clear n0_ n1_; (try clear hb); have hcz19_0 := ci BK146.out 0 a0_0 rfl; have hcz19_1 := ci BK146.out 1 a0_1 rfl; have hcz19_2 := ci BK146.out 2 a0_2 rfl; have hcz19_3 := ci BK146.out 3 a0_3 rfl; have hcz19_4 := ci BK146.out 4 a0_4 rfl; have hfz19_0 := fun j_ : Nat => blk_frozen BK146.out j_) | ((with_reducible refine gate_callee (f := 6) rfl ?_); refine goesL_ (some 15) rfl rfl Tryd.func6 (by kernel_rfl) rfl #[.agg #[.int .i64 a0_0, .int .i64 a0_1, .int .i64 a0_2, .int .i64 a0_3, .int .i64 a0_4]] rfl argsB ?_; (with_reducible refine (laws_toTrip.calls a0_0 a0_1 a0_2 a0_3 a0_4 t154 t155 t156 t157 t158 _ A4.out).mono ?_); rintro e w20 ⟨rfl, hb⟩; refine ⟨_, rfl, ?_⟩; have n0_ := Aside0.mk (blk_below (g := gb146) (o := .cells #[.int .i64 a0_0, .int .i64 a0_1, .int .i64 a0_2, .int .i64 a0_3, .int .i64 a0_4] 23 (0, 0)) (upK BK146.out) hb); have n1_ := Aside0.mk (below_step (upB1 HB.out GE146.out) hb); clear BK146; clear HB; have BK146 := n0_; have HB := n1_; clear n0_ n1_; (try clear hb)) | ((with_reducible refine gate_callee (f := 7) rfl ?_); refine goesL_ (some 16) rfl rfl Tryd.func7 (by kernel_rfl) rfl #[.agg #[.int .i64 t154, .int .i64 t155, .int .i64 t156, .int .i64 t157, .int .i64 t158]] rfl argsB ?_; (with_reducible refine (impl_TripText.calls k t154 t155 t156 t157 t158 t159 t160 _ A5.out (TabW.up2 hTW HB.out)).mono ?_); rintro e w21 ⟨rfl, hb⟩; refine ⟨_, rfl, ?_⟩; have n0_ := Aside0.mk (blk_below (g := gb146) (o := .cells #[.int .i64 a0_0, .int .i64 a0_1, .int .i64 a0_2, .int .i64 a0_3, .int .i64 a0_4] 23 (0, 0)) (upK BK146.out) hb); have n1_ := Aside0.mk (below_step (upB1 HB.out GE146.out) hb); clear BK146; clear HB; have BK146 := n0_; have HB := n1_; clear n0_ n1_; (try clear hb)))
      go_ret
      exact ⟨by first | rfl | (simp [errW_none, errW_some] <;> rfl) | (simp [*, errW_none, errW_some] <;> rfl), (upB1 HB.out GE146.out)⟩
  · rw [if_neg c6] at H
    have c6b0 : (t159.toList == t152.toList) = false := beq_eq_false_iff_ne.mpr c6
    have c6b1 : (t159.toList != t152.toList) = true := bne_iff_ne.mpr c6
    obtain rfl := Option.some.inj H
    go_enter Tryd.func3, Tryd.ntmps3
    go_wp2_with (first | ((with_reducible refine gate_dst (N := 1) rfl ?_); refine box_event ?hg (N := 1) ?hd (cs := #[.int .i64 a0_0, .int .i64 a0_1, .int .i64 a0_2, .int .i64 a0_3, .int .i64 a0_4]) (t := 23) ?hr ?_; (case hd => rfl); (case hg => rfl); (case hr => first | (go_simp; done) | (go_simp; rfl)); intro gb146 hg w22 hbox hb; have n0_ := Aside0.mk (below_step (upB HB.out) hb); have n1_ := Aside0.mk (hbox); have n2_ := Aside0.mk ((by rw [hg]; exact (below_size (upB HB.out)) : w.heap.size ≤ gb146)); have n3_ := Aside0.mk ((by rw [hg]; exact (below_size (upB HB.out)) : w.heap.size ≤ gb146)); clear HB; have HB := n0_; have BK146 := n1_; have GW146 := n2_; have GE146 := n3_; clear n0_ n1_ n2_ n3_; clear hb hbox hg; have hcz23_0 := ci BK146.out 0 a0_0 rfl; have hcz23_1 := ci BK146.out 1 a0_1 rfl; have hcz23_2 := ci BK146.out 2 a0_2 rfl; have hcz23_3 := ci BK146.out 3 a0_3 rfl; have hcz23_4 := ci BK146.out 4 a0_4 rfl; have hfz23_0 := fun j_ : Nat => blk_frozen BK146.out j_) | ((with_reducible refine gate_callee (f := 6) rfl ?_); refine goesL_ (some 9) rfl rfl Tryd.func6 (by kernel_rfl) rfl #[.agg #[.int .i64 a0_0, .int .i64 a0_1, .int .i64 a0_2, .int .i64 a0_3, .int .i64 a0_4]] rfl argsB ?_; (with_reducible refine (laws_toTrip.calls a0_0 a0_1 a0_2 a0_3 a0_4 t147 t148 t149 t150 t151 _ A2.out).mono ?_); rintro e w24 ⟨rfl, hb⟩; refine ⟨_, rfl, ?_⟩; have n0_ := Aside0.mk (blk_below (g := gb146) (o := .cells #[.int .i64 a0_0, .int .i64 a0_1, .int .i64 a0_2, .int .i64 a0_3, .int .i64 a0_4] 23 (0, 0)) (upK BK146.out) hb); have n1_ := Aside0.mk (below_step (upB1 HB.out GE146.out) hb); clear BK146; clear HB; have BK146 := n0_; have HB := n1_; clear n0_ n1_; (try clear hb)) | ((with_reducible refine gate_callee (f := 5) rfl ?_); refine goesL_ (some 10) rfl rfl Tryd.func5 (by kernel_rfl) rfl #[.agg #[.int .i64 t147, .int .i64 t148, .int .i64 t149, .int .i64 t150, .int .i64 t151]] rfl argsB ?_; (with_reducible refine (spec_TripText.calls k t147 t148 t149 t150 t151 t152 t153 _ A3.out).mono ?_); rintro e w25 ⟨rfl, hb⟩; refine ⟨_, rfl, ?_⟩; have n0_ := Aside0.mk (blk_below (g := gb146) (o := .cells #[.int .i64 a0_0, .int .i64 a0_1, .int .i64 a0_2, .int .i64 a0_3, .int .i64 a0_4] 23 (0, 0)) (upK BK146.out) hb); have n1_ := Aside0.mk (below_step (upB1 HB.out GE146.out) hb); clear BK146; clear HB; have BK146 := n0_; have HB := n1_; clear n0_ n1_; (try clear hb); have hcz26_0 := ci BK146.out 0 a0_0 rfl; have hcz26_1 := ci BK146.out 1 a0_1 rfl; have hcz26_2 := ci BK146.out 2 a0_2 rfl; have hcz26_3 := ci BK146.out 3 a0_3 rfl; have hcz26_4 := ci BK146.out 4 a0_4 rfl; have hfz26_0 := fun j_ : Nat => blk_frozen BK146.out j_) | ((with_reducible refine gate_callee (f := 6) rfl ?_); refine goesL_ (some 15) rfl rfl Tryd.func6 (by kernel_rfl) rfl #[.agg #[.int .i64 a0_0, .int .i64 a0_1, .int .i64 a0_2, .int .i64 a0_3, .int .i64 a0_4]] rfl argsB ?_; (with_reducible refine (laws_toTrip.calls a0_0 a0_1 a0_2 a0_3 a0_4 t154 t155 t156 t157 t158 _ A4.out).mono ?_); rintro e w27 ⟨rfl, hb⟩; refine ⟨_, rfl, ?_⟩; have n0_ := Aside0.mk (blk_below (g := gb146) (o := .cells #[.int .i64 a0_0, .int .i64 a0_1, .int .i64 a0_2, .int .i64 a0_3, .int .i64 a0_4] 23 (0, 0)) (upK BK146.out) hb); have n1_ := Aside0.mk (below_step (upB1 HB.out GE146.out) hb); clear BK146; clear HB; have BK146 := n0_; have HB := n1_; clear n0_ n1_; (try clear hb)) | ((with_reducible refine gate_callee (f := 7) rfl ?_); refine goesL_ (some 16) rfl rfl Tryd.func7 (by kernel_rfl) rfl #[.agg #[.int .i64 t154, .int .i64 t155, .int .i64 t156, .int .i64 t157, .int .i64 t158]] rfl argsB ?_; (with_reducible refine (impl_TripText.calls k t154 t155 t156 t157 t158 t159 t160 _ A5.out (TabW.up2 hTW HB.out)).mono ?_); rintro e w28 ⟨rfl, hb⟩; refine ⟨_, rfl, ?_⟩; have n0_ := Aside0.mk (blk_below (g := gb146) (o := .cells #[.int .i64 a0_0, .int .i64 a0_1, .int .i64 a0_2, .int .i64 a0_3, .int .i64 a0_4] 23 (0, 0)) (upK BK146.out) hb); have n1_ := Aside0.mk (below_step (upB1 HB.out GE146.out) hb); clear BK146; clear HB; have BK146 := n0_; have HB := n1_; clear n0_ n1_; (try clear hb)))
    go_ret
    exact ⟨by first | rfl | (simp [errW_none, errW_some] <;> rfl) | (simp [*, errW_none, errW_some] <;> rfl), (upB1 HB.out GE146.out)⟩

end Go.Proofs.YtmeaacbnjpgepaaDoor.QFnExactTripText
