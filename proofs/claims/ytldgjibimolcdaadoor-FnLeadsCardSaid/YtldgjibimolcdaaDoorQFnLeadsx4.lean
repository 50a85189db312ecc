/- Contracts of Go functions that FnLeads reaches: the call computes what the plain function says. No condition. -/
import Derived.Test.YtldgjibimolcdaaDoorQFnLeadsx0
import Derived.Test.YtldgjibimolcdaaDoorQFnLeadsx3
namespace Go.Proofs.YtldgjibimolcdaaDoor.QFnLeads
open Go.RowKit Go.Proofs.YtldgjibimolcdaaDoorW.PrintWords Go.Proofs.YtldgjibimolcdaaDoorW.PrintLast Go.Proofs.YtldgjibimolcdaaDoorW.PrintMore
attribute [local go_sem] max2_int min2_int max_two min_two max_three min_three max_four min_four   -- for this text's walks alone
set_option linter.unusedVariables false
set_option linter.unusedSimpArgs false

/-! ### impl_leadText: function 26 -/
def impl_leadText.f (a0_0 a0_1 a0_2 a0_3 a0_4 : Int) : Option (ByteArray) := if 0 ≤ a0_4 ∧ a0_4 < 4 then ((impl_decimal.f a0_0).bind fun t134 => (if 5 + t134.size ≤ 9223372036854775807 then (if ((⟨#[108, 101, 97, 100, 32]⟩ : ByteArray) ++ t134).size + 4 ≤ 9223372036854775807 then ((impl_decimal.f a0_1).bind fun t135 => (if (((⟨#[108, 101, 97, 100, 32]⟩ : ByteArray) ++ t134) ++ (⟨#[32, 97, 116, 32]⟩ : ByteArray)).size + t135.size ≤ 9223372036854775807 then (if ((((⟨#[108, 101, 97, 100, 32]⟩ : ByteArray) ++ t134) ++ (⟨#[32, 97, 116, 32]⟩ : ByteArray)) ++ t135).size + 7 ≤ 9223372036854775807 then ((impl_decimal.f a0_2).bind fun t136 => (if (((((⟨#[108, 101, 97, 100, 32]⟩ : ByteArray) ++ t134) ++ (⟨#[32, 97, 116, 32]⟩ : ByteArray)) ++ t135) ++ (⟨#[58, 32, 115, 105, 122, 101, 32]⟩ : ByteArray)).size + t136.size ≤ 9223372036854775807 then (if ((((((⟨#[108, 101, 97, 100, 32]⟩ : ByteArray) ++ t134) ++ (⟨#[32, 97, 116, 32]⟩ : ByteArray)) ++ t135) ++ (⟨#[58, 32, 115, 105, 122, 101, 32]⟩ : ByteArray)) ++ t136).size + 6 ≤ 9223372036854775807 then ((impl_decimal.f a0_3).bind fun t137 => (if (((((((⟨#[108, 101, 97, 100, 32]⟩ : ByteArray) ++ t134) ++ (⟨#[32, 97, 116, 32]⟩ : ByteArray)) ++ t135) ++ (⟨#[58, 32, 115, 105, 122, 101, 32]⟩ : ByteArray)) ++ t136) ++ (⟨#[32, 101, 97, 115, 101, 32]⟩ : ByteArray)).size + t137.size ≤ 9223372036854775807 then (if ((((((((⟨#[108, 101, 97, 100, 32]⟩ : ByteArray) ++ t134) ++ (⟨#[32, 97, 116, 32]⟩ : ByteArray)) ++ t135) ++ (⟨#[58, 32, 115, 105, 122, 101, 32]⟩ : ByteArray)) ++ t136) ++ (⟨#[32, 101, 97, 115, 101, 32]⟩ : ByteArray)) ++ t137).size + 1 ≤ 9223372036854775807 then (if (((((((((⟨#[108, 101, 97, 100, 32]⟩ : ByteArray) ++ t134) ++ (⟨#[32, 97, 116, 32]⟩ : ByteArray)) ++ t135) ++ (⟨#[58, 32, 115, 105, 122, 101, 32]⟩ : ByteArray)) ++ t136) ++ (⟨#[32, 101, 97, 115, 101, 32]⟩ : ByteArray)) ++ t137) ++ (⟨#[32]⟩ : ByteArray)).size + (stW a0_4).size ≤ 9223372036854775807 then (some ((((((((((⟨#[108, 101, 97, 100, 32]⟩ : ByteArray) ++ t134) ++ (⟨#[32, 97, 116, 32]⟩ : ByteArray)) ++ t135) ++ (⟨#[58, 32, 115, 105, 122, 101, 32]⟩ : ByteArray)) ++ t136) ++ (⟨#[32, 101, 97, 115, 101, 32]⟩ : ByteArray)) ++ t137) ++ (⟨#[32]⟩ : ByteArray)) ++ (stW a0_4))) else (none)) else (none)) else (none))) else (none)) else (none))) else (none)) else (none))) else (none)) else (none))) else none
def impl_leadText.T1 : Bool × List (List Nat × List Nat) := (true, [([], []), ([0], [0]), ([1], [1]), ([2], [2]), ([3], [3]), ([], []), ([5], [5]), ([6, 2], [6]), ([4, 7], [4, 7]), ([8], [8]), ([], []), ([10], [10]), ([11, 7], [11]), ([9, 12], [9, 12]), ([13], [13]), ([], []), ([15], [15]), ([16, 12], [16]), ([14, 17], [14, 17]), ([18], [18]), ([], []), ([20], [20]), ([21], [21]), ([22], [22]), ([19, 23], [19, 23]), ([24, 17, 0, 1, 2, 3, 4, 5, 6, 7, 8, 9, 10, 11, 12, 13, 14, 15, 16, 17, 18, 19, 20, 21, 22, 23, 24], [24])])
def impl_leadText.B1 : List Nat := [0, 1, 3, 7, 15, 0, 32, 103, 255, 511, 0, 1024, 3303, 8191, 16383, 0, 32768, 105703, 262143, 524287, 0, 1048576, 3145728, 7340032, 16777215, 33554431]
theorem impl_leadText.tab1 : rtab .any (opsOf Tryd.f26 1) = impl_leadText.T1 := by kernel_rfl
theorem impl_leadText.bits1 : waitsOk impl_leadText.T1.2 impl_leadText.B1 = true := by kernel_rfl
set_option maxHeartbeats 8000000 in
set_option maxRecDepth 100000 in
theorem impl_leadText.calls (a0_0 a0_1 a0_2 a0_3 a0_4 : Int) (r : ByteArray) (w : World) (h : impl_leadText.f a0_0 a0_1 a0_2 a0_3 a0_4 = some r) (hTW : TabW w) :
  Calls Tryd.prog 26 #[.agg #[.int .i64 a0_0, .int .i64 a0_1, .int .i64 a0_2, .int .i64 a0_3, .int .i64 a0_4]] w fun e w' => e = .returned (.string r) ∧ Below w.heap.size w w' := by
 have hu26 := Tryd.underlying26
 have HB := Aside0.mk (Below.refl w.heap.size w)
 obtain ⟨⟨hg0_, hg1_⟩, h⟩ := guard_some h
 have pi_ : (0 ≤ a0_4) = True := eq_true hg0_
 have qi_ : (a0_4 < 4) = True := eq_true hg1_
 have H := h
 clear h
 unfold impl_leadText.f at H
 replace H := bA H
 obtain ⟨t134, A2, H⟩ := H
 by_cases c3 : 5 + t134.size ≤ 9223372036854775807
 ·rw [if_pos c3] at H
  have c3b0 := eq_true c3
  have c3b1 : decide (5 + t134.size ≤ 9223372036854775807) = true := decide_eq_true c3
  try have c3b2 : (9223372036854775807 < 5 + t134.size) = False := eq_false (Nat.not_lt.2 c3)
  by_cases c4 : ((⟨#[108, 101, 97, 100, 32]⟩ : ByteArray) ++ t134).size + 4 ≤ 9223372036854775807
  ·rw [if_pos c4] at H
   have c4b0 := eq_true c4
   have c4b1 : decide (((⟨#[108, 101, 97, 100, 32]⟩ : ByteArray) ++ t134).size + 4 ≤ 9223372036854775807) = true := decide_eq_true c4
   try have c4b2 : (9223372036854775807 < ((⟨#[108, 101, 97, 100, 32]⟩ : ByteArray) ++ t134).size + 4) = False := eq_false (Nat.not_lt.2 c4)
   have c4b3 : (9223372036854775807 < 5 + t134.size + 4) = False := by have e_ := c4; simp only [ByteArray.size_append, show (⟨#[108, 101, 97, 100, 32]⟩ : ByteArray).size = 5 from rfl] at e_; exact eq_false (by omega)
   replace H := bA H
   obtain ⟨t135, A5, H⟩ := H
   by_cases c6 : (((⟨#[108, 101, 97, 100, 32]⟩ : ByteArray) ++ t134) ++ (⟨#[32, 97, 116, 32]⟩ : ByteArray)).size + t135.size ≤ 9223372036854775807
   ·rw [if_pos c6] at H
    have c6b0 := eq_true c6
    have c6b1 : decide ((((⟨#[108, 101, 97, 100, 32]⟩ : ByteArray) ++ t134) ++ (⟨#[32, 97, 116, 32]⟩ : ByteArray)).size + t135.size ≤ 9223372036854775807) = true := decide_eq_true c6
    try have c6b2 : (9223372036854775807 < (((⟨#[108, 101, 97, 100, 32]⟩ : ByteArray) ++ t134) ++ (⟨#[32, 97, 116, 32]⟩ : ByteArray)).size + t135.size) = False := eq_false (Nat.not_lt.2 c6)
    have c6b3 : (9223372036854775807 < 5 + t134.size + 4 + t135.size) = False := by have e_ := c6; simp only [ByteArray.size_append, show (⟨#[108, 101, 97, 100, 32]⟩ : ByteArray).size = 5 from rfl, show (⟨#[32, 97, 116, 32]⟩ : ByteArray).size = 4 from rfl] at e_; exact eq_false (by omega)
    by_cases c7 : ((((⟨#[108, 101, 97, 100, 32]⟩ : ByteArray) ++ t134) ++ (⟨#[32, 97, 116, 32]⟩ : ByteArray)) ++ t135).size + 7 ≤ 9223372036854775807
    ·rw [if_pos c7] at H
     have c7b0 := eq_true c7
     have c7b1 : decide (((((⟨#[108, 101, 97, 100, 32]⟩ : ByteArray) ++ t134) ++ (⟨#[32, 97, 116, 32]⟩ : ByteArray)) ++ t135).size + 7 ≤ 9223372036854775807) = true := decide_eq_true c7
     try have c7b2 : (9223372036854775807 < ((((⟨#[108, 101, 97, 100, 32]⟩ : ByteArray) ++ t134) ++ (⟨#[32, 97, 116, 32]⟩ : ByteArray)) ++ t135).size + 7) = False := eq_false (Nat.not_lt.2 c7)
     have c7b3 : (9223372036854775807 < 5 + t134.size + 4 + t135.size + 7) = False := by have e_ := c7; simp only [ByteArray.size_append, show (⟨#[108, 101, 97, 100, 32]⟩ : ByteArray).size = 5 from rfl, show (⟨#[32, 97, 116, 32]⟩ : ByteArray).size = 4 from rfl] at e_; exact eq_false (by omega)
     replace H := bA H
     obtain ⟨t136, A8, H⟩ := H
     by_cases c9 : (((((⟨#[108, 101, 97, 100, 32]⟩ : ByteArray) ++ t134) ++ (⟨#[32, 97, 116, 32]⟩ : ByteArray)) ++ t135) ++ (⟨#[58, 32, 115, 105, 122, 101, 32]⟩ : ByteArray)).size + t136.size ≤ 9223372036854775807
     ·rw [if_pos c9] at H
      have c9b0 := eq_true c9
      have c9b1 : decide ((((((⟨#[108, 101, 97, 100, 32]⟩ : ByteArray) ++ t134) ++ (⟨#[32, 97, 116, 32]⟩ : ByteArray)) ++ t135) ++ (⟨#[58, 32, 115, 105, 122, 101, 32]⟩ : ByteArray)).size + t136.size ≤ 9223372036854775807) = true := decide_eq_true c9
      try have c9b2 : (9223372036854775807 < (((((⟨#[108, 101, 97, 100, 32]⟩ : ByteArray) ++ t134) ++ (⟨#[32, 97, 116, 32]⟩ : ByteArray)) ++ t135) ++ (⟨#[58, 32, 115, 105, 122, 101, 32]⟩ : ByteArray)).size + t136.size) = False := eq_false (Nat.not_lt.2 c9)
      have c9b3 : (9223372036854775807 < 5 + t134.size + 4 + t135.size + 7 + t136.size) = False := by have e_ := c9; simp only [ByteArray.size_append, show (⟨#[108, 101, 97, 100, 32]⟩ : ByteArray).size = 5 from rfl, show (⟨#[32, 97, 116, 32]⟩ : ByteArray).size = 4 from rfl, show (⟨#[58, 32, 115, 105, 122, 101, 32]⟩ : ByteArray).size = 7 from rfl] at e_; exact eq_false (by omega)
      by_cases c10 : ((((((⟨#[108, 101, 97, 100, 32]⟩ : ByteArray) ++ t134) ++ (⟨#[32, 97, 116, 32]⟩ : ByteArray)) ++ t135) ++ (⟨#[58, 32, 115, 105, 122, 101, 32]⟩ : ByteArray)) ++ t136).size + 6 ≤ 9223372036854775807
      ·rw [if_pos c10] at H
       have c10b0 := eq_true c10
       have c10b1 : decide (((((((⟨#[108, 101, 97, 100, 32]⟩ : ByteArray) ++ t134) ++ (⟨#[32, 97, 116, 32]⟩ : ByteArray)) ++ t135) ++ (⟨#[58, 32, 115, 105, 122, 101, 32]⟩ : ByteArray)) ++ t136).size + 6 ≤ 9223372036854775807) = true := decide_eq_true c10
       try have c10b2 : (9223372036854775807 < ((((((⟨#[108, 101, 97, 100, 32]⟩ : ByteArray) ++ t134) ++ (⟨#[32, 97, 116, 32]⟩ : ByteArray)) ++ t135) ++ (⟨#[58, 32, 115, 105, 122, 101, 32]⟩ : ByteArray)) ++ t136).size + 6) = False := eq_false (Nat.not_lt.2 c10)
       have c10b3 : (9223372036854775807 < 5 + t134.size + 4 + t135.size + 7 + t136.size + 6) = False := by have e_ := c10; simp only [ByteArray.size_append, show (⟨#[108, 101, 97, 100, 32]⟩ : ByteArray).size = 5 from rfl, show (⟨#[32, 97, 116, 32]⟩ : ByteArray).size = 4 from rfl, show (⟨#[58, 32, 115, 105, 122, 101, 32]⟩ : ByteArray).size = 7 from rfl] at e_; exact eq_false (by omega)
       replace H := bA H
       obtain ⟨t137, A11, H⟩ := H
       by_cases c12 : (((((((⟨#[108, 101, 97, 100, 32]⟩ : ByteArray) ++ t134) ++ (⟨#[32, 97, 116, 32]⟩ : ByteArray)) ++ t135) ++ (⟨#[58, 32, 115, 105, 122, 101, 32]⟩ : ByteArray)) ++ t136) ++ (⟨#[32, 101, 97, 115, 101, 32]⟩ : ByteArray)).size + t137.size ≤ 9223372036854775807
       ·rw [if_pos c12] at H
        have c12b0 := eq_true c12
        have c12b1 : decide ((((((((⟨#[108, 101, 97, 100, 32]⟩ : ByteArray) ++ t134) ++ (⟨#[32, 97, 116, 32]⟩ : ByteArray)) ++ t135) ++ (⟨#[58, 32, 115, 105, 122, 101, 32]⟩ : ByteArray)) ++ t136) ++ (⟨#[32, 101, 97, 115, 101, 32]⟩ : ByteArray)).size + t137.size ≤ 9223372036854775807) = true := decide_eq_true c12
        try have c12b2 : (9223372036854775807 < (((((((⟨#[108, 101, 97, 100, 32]⟩ : ByteArray) ++ t134) ++ (⟨#[32, 97, 116, 32]⟩ : ByteArray)) ++ t135) ++ (⟨#[58, 32, 115, 105, 122, 101, 32]⟩ : ByteArray)) ++ t136) ++ (⟨#[32, 101, 97, 115, 101, 32]⟩ : ByteArray)).size + t137.size) = False := eq_false (Nat.not_lt.2 c12)
        have c12b3 : (9223372036854775807 < 5 + t134.size + 4 + t135.size + 7 + t136.size + 6 + t137.size) = False := by have e_ := c12; simp only [ByteArray.size_append, show (⟨#[108, 101, 97, 100, 32]⟩ : ByteArray).size = 5 from rfl, show (⟨#[32, 97, 116, 32]⟩ : ByteArray).size = 4 from rfl, show (⟨#[58, 32, 115, 105, 122, 101, 32]⟩ : ByteArray).size = 7 from rfl, show (⟨#[32, 101, 97, 115, 101, 32]⟩ : ByteArray).size = 6 from rfl] at e_; exact eq_false (by omega)
        by_cases c13 : ((((((((⟨#[108, 101, 97, 100, 32]⟩ : ByteArray) ++ t134) ++ (⟨#[32, 97, 116, 32]⟩ : ByteArray)) ++ t135) ++ (⟨#[58, 32, 115, 105, 122, 101, 32]⟩ : ByteArray)) ++ t136) ++ (⟨#[32, 101, 97, 115, 101, 32]⟩ : ByteArray)) ++ t137).size + 1 ≤ 9223372036854775807
        ·rw [if_pos c13] at H
         have c13b0 := eq_true c13
         have c13b1 : decide (((((((((⟨#[108, 101, 97, 100, 32]⟩ : ByteArray) ++ t134) ++ (⟨#[32, 97, 116, 32]⟩ : ByteArray)) ++ t135) ++ (⟨#[58, 32, 115, 105, 122, 101, 32]⟩ : ByteArray)) ++ t136) ++ (⟨#[32, 101, 97, 115, 101, 32]⟩ : ByteArray)) ++ t137).size + 1 ≤ 9223372036854775807) = true := decide_eq_true c13
         try have c13b2 : (9223372036854775807 < ((((((((⟨#[108, 101, 97, 100, 32]⟩ : ByteArray) ++ t134) ++ (⟨#[32, 97, 116, 32]⟩ : ByteArray)) ++ t135) ++ (⟨#[58, 32, 115, 105, 122, 101, 32]⟩ : ByteArray)) ++ t136) ++ (⟨#[32, 101, 97, 115, 101, 32]⟩ : ByteArray)) ++ t137).size + 1) = False := eq_false (Nat.not_lt.2 c13)
         have c13b3 : (9223372036854775807 < 5 + t134.size + 4 + t135.size + 7 + t136.size + 6 + t137.size + 1) = False := by have e_ := c13; simp only [ByteArray.size_append, show (⟨#[108, 101, 97, 100, 32]⟩ : ByteArray).size = 5 from rfl, show (⟨#[32, 97, 116, 32]⟩ : ByteArray).size = 4 from rfl, show (⟨#[58, 32, 115, 105, 122, 101, 32]⟩ : ByteArray).size = 7 from rfl, show (⟨#[32, 101, 97, 115, 101, 32]⟩ : ByteArray).size = 6 from rfl] at e_; exact eq_false (by omega)
         by_cases c14 : (((((((((⟨#[108, 101, 97, 100, 32]⟩ : ByteArray) ++ t134) ++ (⟨#[32, 97, 116, 32]⟩ : ByteArray)) ++ t135) ++ (⟨#[58, 32, 115, 105, 122, 101, 32]⟩ : ByteArray)) ++ t136) ++ (⟨#[32, 101, 97, 115, 101, 32]⟩ : ByteArray)) ++ t137) ++ (⟨#[32]⟩ : ByteArray)).size + (stW a0_4).size ≤ 9223372036854775807
         ·rw [if_pos c14] at H
          have c14b0 := eq_true c14
          have c14b1 : decide ((((((((((⟨#[108, 101, 97, 100, 32]⟩ : ByteArray) ++ t134) ++ (⟨#[32, 97, 116, 32]⟩ : ByteArray)) ++ t135) ++ (⟨#[58, 32, 115, 105, 122, 101, 32]⟩ : ByteArray)) ++ t136) ++ (⟨#[32, 101, 97, 115, 101, 32]⟩ : ByteArray)) ++ t137) ++ (⟨#[32]⟩ : ByteArray)).size + (stW a0_4).size ≤ 9223372036854775807) = true := decide_eq_true c14
          try have c14b2 : (9223372036854775807 < (((((((((⟨#[108, 101, 97, 100, 32]⟩ : ByteArray) ++ t134) ++ (⟨#[32, 97, 116, 32]⟩ : ByteArray)) ++ t135) ++ (⟨#[58, 32, 115, 105, 122, 101, 32]⟩ : ByteArray)) ++ t136) ++ (⟨#[32, 101, 97, 115, 101, 32]⟩ : ByteArray)) ++ t137) ++ (⟨#[32]⟩ : ByteArray)).size + (stW a0_4).size) = False := eq_false (Nat.not_lt.2 c14)
          have c14b3 : (9223372036854775807 < 5 + t134.size + 4 + t135.size + 7 + t136.size + 6 + t137.size + 1 + (stW a0_4).size) = False := by have e_ := c14; simp only [ByteArray.size_append, show (⟨#[108, 101, 97, 100, 32]⟩ : ByteArray).size = 5 from rfl, show (⟨#[32, 97, 116, 32]⟩ : ByteArray).size = 4 from rfl, show (⟨#[58, 32, 115, 105, 122, 101, 32]⟩ : ByteArray).size = 7 from rfl, show (⟨#[32, 101, 97, 115, 101, 32]⟩ : ByteArray).size = 6 from rfl, show (⟨#[32]⟩ : ByteArray).size = 1 from rfl] at e_; exact eq_false (by omega)
          obtain rfl := Option.some.inj H
          go_enter Tryd.func26, Tryd.ntmps26
          try go_wp2_with (first | ((with_reducible refine gD 1 ?_); refine bxE 1 26 #[.int .i64 a0_0, .int .i64 a0_1, .int .i64 a0_2, .int .i64 a0_3, .int .i64 a0_4] fun gb133 w15 hg hbox hb => ?_; have BK133 := Aside0.mk hbox; have GE133 := gB HB hg; replace HB := uB HB hb; clear hb hbox hg))
          replace BK133 := dK BK133
          replace HB := Aside0.mk (below_drew1 HB.out)
          refine sA (n := 26) (S := fun w' => w'.cell? ⟨gb133, 0, none⟩ = some (.int .i64 a0_0) ∧ w'.cell? ⟨gb133, 1, none⟩ = some (.int .i64 a0_1) ∧ w'.cell? ⟨gb133, 2, none⟩ = some (.int .i64 a0_2) ∧ w'.cell? ⟨gb133, 3, none⟩ = some (.int .i64 a0_3) ∧ w'.cell? ⟨gb133, 4, none⟩ = some (.int .i64 a0_4) ∧ w'.cell? ⟨0, a0_4.toNat, none⟩ = some (.string (stW a0_4))) (ds := []) impl_leadText.tab1 impl_leadText.bits1 #[false, false, false, false, false, false, false, false, false, false, false, false, false, false, false, false, false, false, false, false, false, false, false, false, false, false] ⟨cb BK133 0, cb BK133 1, cb BK133 2, cb BK133 3, cb BK133 4, TabW.word hTW HB.out hg0_ hg1_⟩ fun hHeld HT_ HW_ => ?_
          generalize w15.drew = w16 at BK133 HB hHeld ⊢
          refine pA 0 3 HT_ ?_
          refine pA 5 8 HT_ ?_
          refine pA 10 13 HT_ ?_
          refine pA 15 18 HT_ ?_
          refine pA 20 23 HT_ ?_
          refine tA 1 4 HT_ HW_ hHeld ?_
          refine tA 6 9 HT_ HW_ hHeld ?_
          refine tA 11 14 HT_ HW_ hHeld ?_
          refine tA 16 19 HT_ HW_ hHeld ?_
          refine tA 21 24 HT_ HW_ hHeld ?_
          refine pA 22 25 HT_ ?_
          refine tA 23 26 HT_ HW_ hHeld ?_
          refine oA 2 (some 5) HT_ fun K hK => ?_
          refine rA Tryd.func49 (impl_decimal.calls a0_0 t134 _ A2.out (TabW.up2 hTW HB.out)) ?_
          intro w17 hb
          replace BK133 := uK BK133 hb
          replace HB := uB HB hb
          (try clear hb)
          refine hK.out _ _ ⟨cb BK133 0, cb BK133 1, cb BK133 2, cb BK133 3, cb BK133 4, TabW.word hTW HB.out hg0_ hg1_⟩ (fun hHeld => ?_)
          clear hK K
          refine nA ?_ (some 5)
          refine pA 3 6 HT_ ?_
          refine pA 4 7 HT_ ?_
          refine oA 7 (some 10) HT_ fun K hK => ?_
          refine rA Tryd.func49 (impl_decimal.calls a0_1 t135 _ A5.out (TabW.up2 hTW HB.out)) ?_
          intro w18 hb
          replace BK133 := uK BK133 hb
          replace HB := uB HB hb
          (try clear hb)
          refine hK.out _ _ ⟨cb BK133 0, cb BK133 1, cb BK133 2, cb BK133 3, cb BK133 4, TabW.word hTW HB.out hg0_ hg1_⟩ (fun hHeld => ?_)
          clear hK K
          refine nA ?_ (some 10)
          refine pA 8 11 HT_ ?_
          refine pA 9 12 HT_ ?_
          refine oA 12 (some 15) HT_ fun K hK => ?_
          refine rA Tryd.func49 (impl_decimal.calls a0_2 t136 _ A8.out (TabW.up2 hTW HB.out)) ?_
          intro w19 hb
          replace BK133 := uK BK133 hb
          replace HB := uB HB hb
          (try clear hb)
          refine hK.out _ _ ⟨cb BK133 0, cb BK133 1, cb BK133 2, cb BK133 3, cb BK133 4, TabW.word hTW HB.out hg0_ hg1_⟩ (fun hHeld => ?_)
          clear hK K
          refine nA ?_ (some 15)
          refine pA 13 16 HT_ ?_
          refine pA 14 17 HT_ ?_
          refine oA 17 (some 20) HT_ fun K hK => ?_
          refine rA Tryd.func49 (impl_decimal.calls a0_3 t137 _ A11.out (TabW.up2 hTW HB.out)) ?_
          intro w20 hb
          replace BK133 := uK BK133 hb
          replace HB := uB HB hb
          (try clear hb)
          refine hK.out _ _ ⟨cb BK133 0, cb BK133 1, cb BK133 2, cb BK133 3, cb BK133 4, TabW.word hTW HB.out hg0_ hg1_⟩ (fun hHeld => ?_)
          clear hK K
          refine nA ?_ (some 20)
          refine pA 18 21 HT_ ?_
          refine pA 19 22 HT_ ?_
          refine pA 24 27 HT_ ?_
          refine pA 25 2 HT_ ?_
          refine done_ (done_of HT_.out (by kernel_rfl)) ?_
          try go_wp2
          go_ret
          exact ⟨eB, (bW HB)⟩
         ·rw [if_neg c14] at H
          exact absurd H (by simp)
        ·rw [if_neg c13] at H
         exact absurd H (by simp)
       ·rw [if_neg c12] at H
        exact absurd H (by simp)
      ·rw [if_neg c10] at H
       exact absurd H (by simp)
     ·rw [if_neg c9] at H
      exact absurd H (by simp)
    ·rw [if_neg c7] at H
     exact absurd H (by simp)
   ·rw [if_neg c6] at H
    exact absurd H (by simp)
  ·rw [if_neg c4] at H
   exact absurd H (by simp)
 ·rw [if_neg c3] at H
  exact absurd H (by simp)

/-! ### impl_LeadText: function 8 -/
def impl_LeadText.f (a0_0 a0_1 a0_2 a0_3 a0_4 : Int) : Option (ByteArray × Bool) := (impl_IsLead.f a0_0 a0_1 a0_2 a0_3 a0_4).bind fun t139 => (if t139 = true then ((impl_leadText.f a0_0 a0_1 a0_2 a0_3 a0_4).bind fun t140 => (some (t140, true))) else (some ((⟨#[]⟩ : ByteArray), false)))
set_option maxHeartbeats 8000000 in
set_option maxRecDepth 100000 in
theorem impl_LeadText.calls (a0_0 a0_1 a0_2 a0_3 a0_4 : Int) (r1 : ByteArray) (r2 : Bool) (w : World) (h : impl_LeadText.f a0_0 a0_1 a0_2 a0_3 a0_4 = some (r1, r2)) (hTW : TabW w) :
  Calls Tryd.prog 8 #[.agg #[.int .i64 a0_0, .int .i64 a0_1, .int .i64 a0_2, .int .i64 a0_3, .int .i64 a0_4]] w fun e w' => e = .returned (.tuple #[.string r1, .bool r2]) ∧ Below w.heap.size w w' := by
 have hu26 := Tryd.underlying26
 have HB := Aside0.mk (Below.refl w.heap.size w)
 have H := h
 clear h
 unfold impl_LeadText.f at H
 replace H := bA H
 obtain ⟨t139, A2, H⟩ := H
 rcases Bool.eq_false_or_eq_true t139 with rfl | rfl
 ·replace H := iT rfl H
  replace H := bA H
  obtain ⟨t140, A4, H⟩ := H
  simp only [Option.some.injEq, Prod.mk.injEq] at H
  obtain ⟨rfl, rfl⟩ := H
  go_enter Tryd.func8, Tryd.ntmps8
  go_wp2_with (first | ((with_reducible refine gD 1 ?_); refine bxE 1 26 #[.int .i64 a0_0, .int .i64 a0_1, .int .i64 a0_2, .int .i64 a0_3, .int .i64 a0_4] fun gb138 w5 hg hbox hb => ?_; have BK138 := Aside0.mk hbox; have GE138 := gB HB hg; replace HB := uB HB hb; clear hb hbox hg; have ⟨hcz6_0, hcz6_1, hcz6_2, hcz6_3, hcz6_4, hfz6_0⟩ := cz5 BK138) | ((with_reducible refine gC 14 ?_); refine lA (some 5) Tryd.func14 (impl_IsLead.calls a0_0 a0_1 a0_2 a0_3 a0_4 true _ A2.out) ?_; intro w7 hb; replace BK138 := uK BK138 hb; replace HB := uB HB hb; (try clear hb); have ⟨hcz8_0, hcz8_1, hcz8_2, hcz8_3, hcz8_4, hfz8_0⟩ := cz5 BK138) | ((with_reducible refine gC 26 ?_); refine lA (some 8) Tryd.func26 (impl_leadText.calls a0_0 a0_1 a0_2 a0_3 a0_4 t140 _ A4.out (TabW.up2 hTW HB.out)) ?_; intro w9 hb; replace BK138 := uK BK138 hb; replace HB := uB HB hb; (try clear hb)))
  go_ret2
  exact ⟨eB, (bW HB)⟩
 ·replace H := iF (by decide) H
  simp only [Option.some.injEq, Prod.mk.injEq] at H
  obtain ⟨rfl, rfl⟩ := H
  go_enter Tryd.func8, Tryd.ntmps8
  go_wp2_with (first | ((with_reducible refine gD 1 ?_); refine bxE 1 26 #[.int .i64 a0_0, .int .i64 a0_1, .int .i64 a0_2, .int .i64 a0_3, .int .i64 a0_4] fun gb138 w10 hg hbox hb => ?_; have BK138 := Aside0.mk hbox; have GE138 := gB HB hg; replace HB := uB HB hb; clear hb hbox hg; have ⟨hcz11_0, hcz11_1, hcz11_2, hcz11_3, hcz11_4, hfz11_0⟩ := cz5 BK138) | ((with_reducible refine gC 14 ?_); refine lA (some 5) Tryd.func14 (impl_IsLead.calls a0_0 a0_1 a0_2 a0_3 a0_4 false _ A2.out) ?_; intro w12 hb; replace BK138 := uK BK138 hb; replace HB := uB HB hb; (try clear hb)))
  go_ret2
  exact ⟨eB, (bW HB)⟩

/-! ### spec_l1Split: function 27 -/
def spec_l1Split.l0 : Nat → ByteArray → Int → List ByteArray → Int → Int → Option (List ByteArray)
 | 0, _, _, _, _, _ => none
 | k + 1, x0, x1, x5, x6, x7 => if x7 < (x0.size : Int) then (if 0 ≤ x7 then (if (bt x0 x7) = x1 then (if 0 ≤ x6 then (if x6 ≤ x7 then (if x7 ≤ (x0.size : Int) then (if x5.length < 8796093022208 then (spec_l1Split.l0 k x0 x1 (x5 ++ [x0.extract (x6 : Int).toNat (x7 : Int).toNat]) (wrap64 (x7 + 1)) (wrap64 (x7 + 1))) else (none)) else (none)) else (none)) else (none)) else (spec_l1Split.l0 k x0 x1 x5 x6 (wrap64 (x7 + 1)))) else (none)) else (if 0 ≤ x6 then (if x6 ≤ (x0.size : Int) then (if x5.length < 8796093022208 then (some (x5 ++ [x0.extract (x6 : Int).toNat x0.size])) else (none)) else (none)) else (none))
def spec_l1Split.f (k : Nat) (a0 : ByteArray) (a1 : Int) : Option (List ByteArray) := spec_l1Split.l0 k a0 a1 (([] : List ByteArray)) 0 0
theorem spec_l1Split.mono_l : ∀ k, (∀ y0 y1 y2 y3 y4, LeO (spec_l1Split.l0 k y0 y1 y2 y3 y4) (spec_l1Split.l0 (k + 1) y0 y1 y2 y3 y4))
 | 0 => fun _ _ _ _ _ r h => by simp [spec_l1Split.l0] at h
 | k + 1 => by
  have ih0 := spec_l1Split.mono_l k
  ·intro y0 y1 y2 y3 y4
   unfold spec_l1Split.l0
   repeat' with_reducible first | apply ih0 | exact LeO.refl _ | exact LeO.none _ | refine LeO.ite ?_ ?_ | refine LeO.bind ?_ (fun _ => ?_)
theorem spec_l1Split.mono : ∀ a0 a1 k, LeO (spec_l1Split.f k a0 a1) (spec_l1Split.f (k + 1) a0 a1) := by
 intro a0 a1 k
 have ih0 := spec_l1Split.mono_l k
 unfold spec_l1Split.f
 repeat' with_reducible first | apply ih0 | exact LeO.refl _ | exact LeO.none _ | refine LeO.ite ?_ ?_ | refine LeO.bind ?_ (fun _ => ?_)
set_option maxHeartbeats 8000000 in
set_option maxRecDepth 100000 in
theorem spec_l1Split.calls (k : Nat) (a0 : ByteArray) (a1 : Int) (r : List ByteArray) (w : World) (h : spec_l1Split.f k a0 a1 = some r) :
  Calls Tryd.prog 27 #[.string a0, .int .u8 a1] w fun e w' => ∃ v0_ : Value, e = .returned (v0_) ∧ Kd.R Kd.string 9 w' w.heap.size (fun _ => True) v0_ r ∧ Below w.heap.size w w' := by
 have HB := Aside0.mk (Below.refl w.heap.size w)
 have H := h
 clear h
 unfold spec_l1Split.f at H
 obtain ⟨y141, hy141⟩ : ∃ y_ : List ByteArray, y_ = (([] : List ByteArray)) := ⟨_, rfl⟩
 replace H : (spec_l1Split.l0 k a0 a1 y141 0 0) = some r := by first | (rw [hy141]; with_reducible exact H) | (have H2_ := (Option.bind_some _ _).symm.trans H; rw [hy141]; with_reducible exact H2_) | (have H2_ := (Option.bind_some _ _).symm.trans H; with_reducible exact H2_) | with_reducible exact H | (rw [hy141]; exact H) | exact H
 have Ny141 := Aside0.mk hy141
 clear hy141
 have H' := Aside0.mk H
 clear H
 go_enter Tryd.func27, Tryd.ntmps27
 go_wp2_with (first | ((with_reducible refine gate_dst (N := 8) rfl ?_); refine Kd.R_lit Kd.string _ 9 ?hg (N := 8) ?hd (xs := ([] : List ByteArray)) (inner := []) (ok := fun _ => True) (okp := fun _ => True) ?hr ?hp (fun _ hk => hk) trivial (Below.refl _ _) (Nat.le_refl _) (by simp) ?_; (case hd => rfl); (case hg => rfl); (case hr => first | (go_simp; done) | (go_simp; rfl)); (case hp => exact (Reps.none _ _)); intro v142 w3 ho4 hb hg_ hnew_; clear hg_ hnew_; (first | rw [← Ny141.out] at ho4 | (simp only [Int.reduceToNat] at ho4; rw [← Ny141.out] at ho4)); have HO143 := Aside0.mk (Kd.R_lower ho4 (below_size (bW HB))); replace HB := uB HB hb; clear hb ho4))
 (try simp only [Act.put, List.setIfInBounds_toArray, List.set_cons_zero, List.set_cons_succ])
 go_loopg [5, 6, 7] k (fun kq v5 v6 v7 w' => ∃ (x5_1 : List ByteArray) (x6_1 x7_1 : Int), v6 = .int .i64 x6_1 ∧ v7 = .int .i64 x7_1 ∧ Aside0 (spec_l1Split.l0 kq a0 a1 x5_1 x6_1 x7_1 = some r) ∧ Aside0 (kq ≤ k) ∧ Aside0 (Kd.R Kd.string 9 w' w.heap.size (fun _ => True) v5 x5_1) ∧ Aside0 (Below w.heap.size w w'))
 case atStart => exact ⟨(y141), (0), (0), rB, rB, H', ⟨Nat.le_refl _⟩, ⟨upR HO143.out⟩, (aB HB)⟩
 case round =>
  clear H'
  obtain ⟨x5_1, x6_1, x7_1, rfl, rfl, HA, HK1, HO_5, HB⟩ := hrel
  cases gk with
  | zero => exact absurd HA.out (by simp [spec_l1Split.l0])
  | succ k1 =>
   have H := HA.out
   clear HA
   simp only [spec_l1Split.l0] at H
   replace H := ifD H
   rcases H with ⟨H, -, c5b0⟩ | ⟨H, -, c5b0⟩
   ·by_cases c6 : 0 ≤ x7_1
    ·rw [if_pos c6] at H
     have c6b0 : decide (0 ≤ x7_1) = true := decide_eq_true c6
     clear c6
     replace H := ifI H
     rcases H with ⟨H, -, c8b0, c8b1⟩ | ⟨H, c8, c8b0, c8b1⟩
     ·by_cases c9 : 0 ≤ x6_1
      ·rw [if_pos c9] at H
       have c9b0 := eq_true c9
       have c9b1 : decide (0 ≤ x6_1) = true := decide_eq_true c9
       clear c9
       by_cases c10 : x6_1 ≤ x7_1
       ·rw [if_pos c10] at H
        have c10b0 := eq_true c10
        have c10b1 : decide (x6_1 ≤ x7_1) = true := decide_eq_true c10
        clear c10
        by_cases c11 : x7_1 ≤ (a0.size : Int)
        ·rw [if_pos c11] at H
         have c11b0 := eq_true c11
         have c11b1 : decide (x7_1 ≤ (a0.size : Int)) = true := decide_eq_true c11
         clear c11
         by_cases c12 : x5_1.length < 8796093022208
         ·rw [if_pos c12] at H
          have LMc12 := Aside0.mk c12
          clear c12
          obtain ⟨y144, hy144⟩ : ∃ y_ : List ByteArray, y_ = (x5_1 ++ [a0.extract (x6_1 : Int).toNat (x7_1 : Int).toNat]) := ⟨_, rfl⟩
          replace H : (spec_l1Split.l0 k1 a0 a1 y144 (wrap64 (x7_1 + 1)) (wrap64 (x7_1 + 1))) = some r := by first | (rw [hy144]; with_reducible exact H) | (have H2_ := (Option.bind_some _ _).symm.trans H; rw [hy144]; with_reducible exact H2_) | (have H2_ := (Option.bind_some _ _).symm.trans H; with_reducible exact H2_) | with_reducible exact H | (rw [hy144]; exact H) | exact H
          have Ny144 := Aside0.mk hy144
          clear hy144
          have H' := Aside0.mk H
          clear H
          have p7 : 0 ≤ (x7_1 : Int) := of_decide_eq_true asmB
          have q7 : x7_1 < (a0.size : Int) := of_decide_eq_true asmB
          have hx7 := bt_at a0 x7_1
          replace p7 := eq_true p7
          replace q7 := eq_true q7
          go_wp2_with (first | ((with_reducible refine gate_builtin (b := .append) (xs := #[.tmp 20, .tmp 25]) rfl ?_); at_builtin; refine Kd.R_append Kd.string (w0 := w) w.heap.size rfl (.tmp 20) (.tmp 25) 49 9 (.string ⟨#[]⟩) 16 rfl Tryd.underlying49 info9 rfl (by decide) (by omega) u5 x5_1 (a0.extract (x6_1 : Int).toNat (x7_1 : Int).toNat) [.string (a0.extract (x6_1 : Int).toNat (x7_1 : Int).toNat)] (fun _ => True) (fun _ => False) rfl rfl ?aP (fun _ hk => hk.elim) ?aF ?aO ?aB ?aS ?aL ?_; (case aP => exact rfl); (case aB => exact (bW HB)); (case aF => exact (fun _ _ => trivial)); (case aO => exact (upR HO_5.out)); (case aS => exact (below_size (bW HB))); (case aL => have := LMc12.out; omega); intro v145 w13 ho hb hg hat; rw [← Ny144.out] at ho; have HO146 := Aside0.mk (ho); replace HB := Aside0.mk (hb); clear HO_5; clear ho hb hg hat))
          go_roundg k1
          case measure => have := HK1.out; omega
          case rel => exact ⟨(y144), (wrap64 (x7_1 + 1)), (wrap64 (x7_1 + 1)), rB, rB, H', ⟨by have := HK1.out; omega⟩, ⟨upR HO146.out⟩, (aB HB)⟩
         ·rw [if_neg c12] at H
          exact absurd H (by simp)
        ·rw [if_neg c11] at H
         exact absurd H (by simp)
       ·rw [if_neg c10] at H
        exact absurd H (by simp)
      ·rw [if_neg c9] at H
       exact absurd H (by simp)
     ·have H' := Aside0.mk H
      clear H
      have p7 : 0 ≤ (x7_1 : Int) := of_decide_eq_true asmB
      have q7 : x7_1 < (a0.size : Int) := of_decide_eq_true asmB
      have hx7 := bt_at a0 x7_1
      replace p7 := eq_true p7
      replace q7 := eq_true q7
      go_wp2
      go_roundg k1
      case measure => have := HK1.out; omega
      case rel => exact ⟨(x5_1), (x6_1), (wrap64 (x7_1 + 1)), rB, rB, H', ⟨by have := HK1.out; omega⟩, ⟨upR HO_5.out⟩, (aB HB)⟩
    ·rw [if_neg c6] at H
     exact absurd H (by simp)
   ·by_cases c14 : 0 ≤ x6_1
    ·rw [if_pos c14] at H
     have c14b0 := eq_true c14
     have c14b1 : decide (0 ≤ x6_1) = true := decide_eq_true c14
     clear c14
     by_cases c15 : x6_1 ≤ (a0.size : Int)
     ·rw [if_pos c15] at H
      have c15b0 := eq_true c15
      have c15b1 : decide (x6_1 ≤ (a0.size : Int)) = true := decide_eq_true c15
      clear c15
      by_cases c16 : x5_1.length < 8796093022208
      ·rw [if_pos c16] at H
       have LMc16 := Aside0.mk c16
       clear c16
       obtain ⟨y147, hy147⟩ : ∃ y_ : List ByteArray, y_ = (x5_1 ++ [a0.extract (x6_1 : Int).toNat a0.size]) := ⟨_, rfl⟩
       replace H : (some y147) = some r := by first | (rw [hy147]; with_reducible exact H) | (have H2_ := (Option.bind_some _ _).symm.trans H; rw [hy147]; with_reducible exact H2_) | (have H2_ := (Option.bind_some _ _).symm.trans H; with_reducible exact H2_) | with_reducible exact H | (rw [hy147]; exact H) | exact H
       have Ny147 := Aside0.mk hy147
       clear hy147
       obtain rfl := Option.some.inj H
       go_wp2_with (first | ((with_reducible refine gate_builtin (b := .append) (xs := #[.tmp 29, .tmp 33]) rfl ?_); at_builtin; refine Kd.R_append Kd.string (w0 := w) w.heap.size rfl (.tmp 29) (.tmp 33) 49 9 (.string ⟨#[]⟩) 16 rfl Tryd.underlying49 info9 rfl (by decide) (by omega) u5 x5_1 (a0.extract (x6_1 : Int).toNat a0.size) [.string (a0.extract (x6_1 : Int).toNat a0.size)] (fun _ => True) (fun _ => False) rfl rfl ?aP (fun _ hk => hk.elim) ?aF ?aO ?aB ?aS ?aL ?_; (case aP => exact rfl); (case aB => exact (bW HB)); (case aF => exact (fun _ _ => trivial)); (case aO => exact (upR HO_5.out)); (case aS => exact (below_size (bW HB))); (case aL => have := LMc16.out; omega); intro v148 w17 ho hb hg hat; rw [← Ny147.out] at ho; have HO149 := Aside0.mk (ho); replace HB := Aside0.mk (hb); clear HO_5; clear ho hb hg hat))
       go_ret
       exact ⟨_, eB, upR HO149.out, (bW HB)⟩
      ·rw [if_neg c16] at H
       exact absurd H (by simp)
     ·rw [if_neg c15] at H
      exact absurd H (by simp)
    ·rw [if_neg c14] at H
     exact absurd H (by simp)

end Go.Proofs.YtldgjibimolcdaaDoor.QFnLeads
