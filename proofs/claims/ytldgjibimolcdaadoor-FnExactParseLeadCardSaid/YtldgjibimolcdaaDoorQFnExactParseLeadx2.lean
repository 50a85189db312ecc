/- Contracts of Go functions that FnExactParseLead reaches: the call computes what the plain function says. No condition. -/
import Derived.Test.YtldgjibimolcdaaDoorQFnExactParseLeadx0
import Derived.Test.YtldgjibimolcdaaDoorQFnExactParseLeadx1
namespace Go.Proofs.YtldgjibimolcdaaDoor.QFnExactParseLead
open Go.RowKit Go.Proofs.YtldgjibimolcdaaDoorW.PrintWords Go.Proofs.YtldgjibimolcdaaDoorW.PrintLast Go.Proofs.YtldgjibimolcdaaDoorW.PrintMore
attribute [local go_sem] max2_int min2_int max_two min_two max_three min_three max_four min_four   -- for this text's walks alone
set_option linter.unusedVariables false
set_option linter.unusedSimpArgs false

/-! ### spec_l18Text: function 25 -/
def spec_l18Text.f (k : Nat) (a0_0 : Int) (a0_1 : Int) (a0_2 : Int) (a0_3 : Int) (a0_4 : Int) : Option (ByteArray) := (spec_l1Num.f k a0_0).bind fun t112 => (if 5 + t112.size ≤ 9223372036854775807 then (if ((⟨#[108, 101, 97, 100, 32]⟩ : ByteArray) ++ t112).size + 4 ≤ 9223372036854775807 then ((spec_l1Num.f k a0_1).bind fun t113 => (if (((⟨#[108, 101, 97, 100, 32]⟩ : ByteArray) ++ t112) ++ (⟨#[32, 97, 116, 32]⟩ : ByteArray)).size + t113.size ≤ 9223372036854775807 then (if ((((⟨#[108, 101, 97, 100, 32]⟩ : ByteArray) ++ t112) ++ (⟨#[32, 97, 116, 32]⟩ : ByteArray)) ++ t113).size + 7 ≤ 9223372036854775807 then ((spec_l1Num.f k a0_2).bind fun t114 => (if (((((⟨#[108, 101, 97, 100, 32]⟩ : ByteArray) ++ t112) ++ (⟨#[32, 97, 116, 32]⟩ : ByteArray)) ++ t113) ++ (⟨#[58, 32, 115, 105, 122, 101, 32]⟩ : ByteArray)).size + t114.size ≤ 9223372036854775807 then (if ((((((⟨#[108, 101, 97, 100, 32]⟩ : ByteArray) ++ t112) ++ (⟨#[32, 97, 116, 32]⟩ : ByteArray)) ++ t113) ++ (⟨#[58, 32, 115, 105, 122, 101, 32]⟩ : ByteArray)) ++ t114).size + 6 ≤ 9223372036854775807 then ((spec_l1Num.f k a0_3).bind fun t115 => (if (((((((⟨#[108, 101, 97, 100, 32]⟩ : ByteArray) ++ t112) ++ (⟨#[32, 97, 116, 32]⟩ : ByteArray)) ++ t113) ++ (⟨#[58, 32, 115, 105, 122, 101, 32]⟩ : ByteArray)) ++ t114) ++ (⟨#[32, 101, 97, 115, 101, 32]⟩ : ByteArray)).size + t115.size ≤ 9223372036854775807 then (if ((((((((⟨#[108, 101, 97, 100, 32]⟩ : ByteArray) ++ t112) ++ (⟨#[32, 97, 116, 32]⟩ : ByteArray)) ++ t113) ++ (⟨#[58, 32, 115, 105, 122, 101, 32]⟩ : ByteArray)) ++ t114) ++ (⟨#[32, 101, 97, 115, 101, 32]⟩ : ByteArray)) ++ t115).size + 1 ≤ 9223372036854775807 then ((some (([(⟨#[111, 112, 101, 110]⟩ : ByteArray), (⟨#[116, 97, 107, 101, 110]⟩ : ByteArray), (⟨#[100, 111, 110, 101]⟩ : ByteArray), (⟨#[101, 110, 100, 101, 100]⟩ : ByteArray)] : List ByteArray) : List ByteArray)).bind fun y116 => (if 0 ≤ a0_4 then (if a0_4 < (y116.length : Int) then (if (((((((((⟨#[108, 101, 97, 100, 32]⟩ : ByteArray) ++ t112) ++ (⟨#[32, 97, 116, 32]⟩ : ByteArray)) ++ t113) ++ (⟨#[58, 32, 115, 105, 122, 101, 32]⟩ : ByteArray)) ++ t114) ++ (⟨#[32, 101, 97, 115, 101, 32]⟩ : ByteArray)) ++ t115) ++ (⟨#[32]⟩ : ByteArray)).size + (rdOf ByteArray.empty y116 a0_4).size ≤ 9223372036854775807 then (some ((((((((((⟨#[108, 101, 97, 100, 32]⟩ : ByteArray) ++ t112) ++ (⟨#[32, 97, 116, 32]⟩ : ByteArray)) ++ t113) ++ (⟨#[58, 32, 115, 105, 122, 101, 32]⟩ : ByteArray)) ++ t114) ++ (⟨#[32, 101, 97, 115, 101, 32]⟩ : ByteArray)) ++ t115) ++ (⟨#[32]⟩ : ByteArray)) ++ (rdOf ByteArray.empty y116 a0_4))) else (none)) else (none)) else (none))) else (none)) else (none))) else (none)) else (none))) else (none)) else (none))) else (none)) else (none))
theorem spec_l18Text.mono : ∀ a0 a1 a2 a3 a4 k, LeO (spec_l18Text.f k a0 a1 a2 a3 a4) (spec_l18Text.f (k + 1) a0 a1 a2 a3 a4) := by
  intro a0 a1 a2 a3 a4 k
  unfold spec_l18Text.f
  repeat' first
      | (with_reducible exact spec_l1Num.mono _ _)
      | (with_reducible exact LeO.refl _)
      | (with_reducible exact LeO.none _)
      | (with_reducible refine LeO.ite ?_ ?_)
      | (with_reducible refine LeO.bind ?_ (fun _ => ?_))
      | exact spec_l1Num.mono _ _
      | exact LeO.none _
      | refine LeO.ite ?_ ?_
      | refine LeO.bind ?_ (fun _ => ?_)
def spec_l18Text.T1 : Bool × List (List Nat × List Nat) := (true, [([], []), ([0], [0]), ([1], [1]), ([2], [2]), ([3], [3]), ([], []), ([5], [5]), ([6, 2], [6]), ([4, 7], [4, 7]), ([8], [8]), ([], []), ([10], [10]), ([11, 7], [11]), ([9, 12], [9, 12]), ([13], [13]), ([], []), ([15], [15]), ([16, 12], [16]), ([14, 17], [14, 17]), ([18], [18]), ([], []), ([], []), ([21], [21]), ([20, 22], [20, 22]), ([23], [23]), ([19, 24], [19, 24]), ([25, 17, 0, 1, 2, 3, 4, 5, 6, 7, 8, 9, 10, 11, 12, 13, 14, 15, 16, 17, 18, 19, 20, 21, 22, 23, 24, 25], [25])])
def spec_l18Text.B1 : List Nat := [0, 1, 3, 7, 15, 0, 32, 103, 255, 511, 0, 1024, 3303, 8191, 16383, 0, 32768, 105703, 262143, 524287, 0, 0, 2097152, 7340032, 15728640, 33554431, 67108863]
theorem spec_l18Text.tab1 : rtab .any (opsOf Tryd.f25 1) = spec_l18Text.T1 := by kernel_rfl
theorem spec_l18Text.bits1 : waitsOk spec_l18Text.T1.2 spec_l18Text.B1 = true := by kernel_rfl
set_option maxHeartbeats 8000000 in
set_option maxRecDepth 100000 in
theorem spec_l18Text.calls (k : Nat) (a0_0 : Int) (a0_1 : Int) (a0_2 : Int) (a0_3 : Int) (a0_4 : Int) (r : ByteArray) (w : World) (h : spec_l18Text.f k a0_0 a0_1 a0_2 a0_3 a0_4 = some r) :
    Calls Tryd.prog 25 #[.agg #[.int .i64 a0_0, .int .i64 a0_1, .int .i64 a0_2, .int .i64 a0_3, .int .i64 a0_4]] w fun e w' => e = .returned (.string r) ∧ Below w.heap.size w w' := by
  have hu26 := Tryd.underlying26
  have HB := Aside0.mk (Below.refl w.heap.size w)
  have H : ((spec_l1Num.f k a0_0).bind fun t112 => (if 5 + t112.size ≤ 9223372036854775807 then (if ((⟨#[108, 101, 97, 100, 32]⟩ : ByteArray) ++ t112).size + 4 ≤ 9223372036854775807 then ((spec_l1Num.f k a0_1).bind fun t113 => (if (((⟨#[108, 101, 97, 100, 32]⟩ : ByteArray) ++ t112) ++ (⟨#[32, 97, 116, 32]⟩ : ByteArray)).size + t113.size ≤ 9223372036854775807 then (if ((((⟨#[108, 101, 97, 100, 32]⟩ : ByteArray) ++ t112) ++ (⟨#[32, 97, 116, 32]⟩ : ByteArray)) ++ t113).size + 7 ≤ 9223372036854775807 then ((spec_l1Num.f k a0_2).bind fun t114 => (if (((((⟨#[108, 101, 97, 100, 32]⟩ : ByteArray) ++ t112) ++ (⟨#[32, 97, 116, 32]⟩ : ByteArray)) ++ t113) ++ (⟨#[58, 32, 115, 105, 122, 101, 32]⟩ : ByteArray)).size + t114.size ≤ 9223372036854775807 then (if ((((((⟨#[108, 101, 97, 100, 32]⟩ : ByteArray) ++ t112) ++ (⟨#[32, 97, 116, 32]⟩ : ByteArray)) ++ t113) ++ (⟨#[58, 32, 115, 105, 122, 101, 32]⟩ : ByteArray)) ++ t114).size + 6 ≤ 9223372036854775807 then ((spec_l1Num.f k a0_3).bind fun t115 => (if (((((((⟨#[108, 101, 97, 100, 32]⟩ : ByteArray) ++ t112) ++ (⟨#[32, 97, 116, 32]⟩ : ByteArray)) ++ t113) ++ (⟨#[58, 32, 115, 105, 122, 101, 32]⟩ : ByteArray)) ++ t114) ++ (⟨#[32, 101, 97, 115, 101, 32]⟩ : ByteArray)).size + t115.size ≤ 9223372036854775807 then (if ((((((((⟨#[108, 101, 97, 100, 32]⟩ : ByteArray) ++ t112) ++ (⟨#[32, 97, 116, 32]⟩ : ByteArray)) ++ t113) ++ (⟨#[58, 32, 115, 105, 122, 101, 32]⟩ : ByteArray)) ++ t114) ++ (⟨#[32, 101, 97, 115, 101, 32]⟩ : ByteArray)) ++ t115).size + 1 ≤ 9223372036854775807 then ((some (([(⟨#[111, 112, 101, 110]⟩ : ByteArray), (⟨#[116, 97, 107, 101, 110]⟩ : ByteArray), (⟨#[100, 111, 110, 101]⟩ : ByteArray), (⟨#[101, 110, 100, 101, 100]⟩ : ByteArray)] : List ByteArray) : List ByteArray)).bind fun y116 => (if 0 ≤ a0_4 then (if a0_4 < (y116.length : Int) then (if (((((((((⟨#[108, 101, 97, 100, 32]⟩ : ByteArray) ++ t112) ++ (⟨#[32, 97, 116, 32]⟩ : ByteArray)) ++ t113) ++ (⟨#[58, 32, 115, 105, 122, 101, 32]⟩ : ByteArray)) ++ t114) ++ (⟨#[32, 101, 97, 115, 101, 32]⟩ : ByteArray)) ++ t115) ++ (⟨#[32]⟩ : ByteArray)).size + (rdOf ByteArray.empty y116 a0_4).size ≤ 9223372036854775807 then (some ((((((((((⟨#[108, 101, 97, 100, 32]⟩ : ByteArray) ++ t112) ++ (⟨#[32, 97, 116, 32]⟩ : ByteArray)) ++ t113) ++ (⟨#[58, 32, 115, 105, 122, 101, 32]⟩ : ByteArray)) ++ t114) ++ (⟨#[32, 101, 97, 115, 101, 32]⟩ : ByteArray)) ++ t115) ++ (⟨#[32]⟩ : ByteArray)) ++ (rdOf ByteArray.empty y116 a0_4))) else (none)) else (none)) else (none))) else (none)) else (none))) else (none)) else (none))) else (none)) else (none))) else (none)) else (none))) = some r := h
  clear h
  replace H := Option.bind_eq_some_iff.mp H
  obtain ⟨t112, A20, H⟩ := H
  replace H : (if 5 + t112.size ≤ 9223372036854775807 then (if ((⟨#[108, 101, 97, 100, 32]⟩ : ByteArray) ++ t112).size + 4 ≤ 9223372036854775807 then ((spec_l1Num.f k a0_1).bind fun t113 => (if (((⟨#[108, 101, 97, 100, 32]⟩ : ByteArray) ++ t112) ++ (⟨#[32, 97, 116, 32]⟩ : ByteArray)).size + t113.size ≤ 9223372036854775807 then (if ((((⟨#[108, 101, 97, 100, 32]⟩ : ByteArray) ++ t112) ++ (⟨#[32, 97, 116, 32]⟩ : ByteArray)) ++ t113).size + 7 ≤ 9223372036854775807 then ((spec_l1Num.f k a0_2).bind fun t114 => (if (((((⟨#[108, 101, 97, 100, 32]⟩ : ByteArray) ++ t112) ++ (⟨#[32, 97, 116, 32]⟩ : ByteArray)) ++ t113) ++ (⟨#[58, 32, 115, 105, 122, 101, 32]⟩ : ByteArray)).size + t114.size ≤ 9223372036854775807 then (if ((((((⟨#[108, 101, 97, 100, 32]⟩ : ByteArray) ++ t112) ++ (⟨#[32, 97, 116, 32]⟩ : ByteArray)) ++ t113) ++ (⟨#[58, 32, 115, 105, 122, 101, 32]⟩ : ByteArray)) ++ t114).size + 6 ≤ 9223372036854775807 then ((spec_l1Num.f k a0_3).bind fun t115 => (if (((((((⟨#[108, 101, 97, 100, 32]⟩ : ByteArray) ++ t112) ++ (⟨#[32, 97, 116, 32]⟩ : ByteArray)) ++ t113) ++ (⟨#[58, 32, 115, 105, 122, 101, 32]⟩ : ByteArray)) ++ t114) ++ (⟨#[32, 101, 97, 115, 101, 32]⟩ : ByteArray)).size + t115.size ≤ 9223372036854775807 then (if ((((((((⟨#[108, 101, 97, 100, 32]⟩ : ByteArray) ++ t112) ++ (⟨#[32, 97, 116, 32]⟩ : ByteArray)) ++ t113) ++ (⟨#[58, 32, 115, 105, 122, 101, 32]⟩ : ByteArray)) ++ t114) ++ (⟨#[32, 101, 97, 115, 101, 32]⟩ : ByteArray)) ++ t115).size + 1 ≤ 9223372036854775807 then ((some (([(⟨#[111, 112, 101, 110]⟩ : ByteArray), (⟨#[116, 97, 107, 101, 110]⟩ : ByteArray), (⟨#[100, 111, 110, 101]⟩ : ByteArray), (⟨#[101, 110, 100, 101, 100]⟩ : ByteArray)] : List ByteArray) : List ByteArray)).bind fun y116 => (if 0 ≤ a0_4 then (if a0_4 < (y116.length : Int) then (if (((((((((⟨#[108, 101, 97, 100, 32]⟩ : ByteArray) ++ t112) ++ (⟨#[32, 97, 116, 32]⟩ : ByteArray)) ++ t113) ++ (⟨#[58, 32, 115, 105, 122, 101, 32]⟩ : ByteArray)) ++ t114) ++ (⟨#[32, 101, 97, 115, 101, 32]⟩ : ByteArray)) ++ t115) ++ (⟨#[32]⟩ : ByteArray)).size + (rdOf ByteArray.empty y116 a0_4).size ≤ 9223372036854775807 then (some ((((((((((⟨#[108, 101, 97, 100, 32]⟩ : ByteArray) ++ t112) ++ (⟨#[32, 97, 116, 32]⟩ : ByteArray)) ++ t113) ++ (⟨#[58, 32, 115, 105, 122, 101, 32]⟩ : ByteArray)) ++ t114) ++ (⟨#[32, 101, 97, 115, 101, 32]⟩ : ByteArray)) ++ t115) ++ (⟨#[32]⟩ : ByteArray)) ++ (rdOf ByteArray.empty y116 a0_4))) else (none)) else (none)) else (none))) else (none)) else (none))) else (none)) else (none))) else (none)) else (none))) else (none)) else (none)) = some r := H
  have A2 := Aside0.mk A20
  clear A20
  by_cases c3 : 5 + t112.size ≤ 9223372036854775807
  · rw [if_pos c3] at H
    have c3b0 := eq_true c3
    have c3b1 : decide (5 + t112.size ≤ 9223372036854775807) = true := decide_eq_true c3
    try have c3b2 : (9223372036854775807 < 5 + t112.size) = False := eq_false (Nat.not_lt.2 c3)
    by_cases c4 : ((⟨#[108, 101, 97, 100, 32]⟩ : ByteArray) ++ t112).size + 4 ≤ 9223372036854775807
    · rw [if_pos c4] at H
      have c4b0 := eq_true c4
      have c4b1 : decide (((⟨#[108, 101, 97, 100, 32]⟩ : ByteArray) ++ t112).size + 4 ≤ 9223372036854775807) = true := decide_eq_true c4
      try have c4b2 : (9223372036854775807 < ((⟨#[108, 101, 97, 100, 32]⟩ : ByteArray) ++ t112).size + 4) = False := eq_false (Nat.not_lt.2 c4)
      replace H := Option.bind_eq_some_iff.mp H
      obtain ⟨t113, A50, H⟩ := H
      replace H : (if (((⟨#[108, 101, 97, 100, 32]⟩ : ByteArray) ++ t112) ++ (⟨#[32, 97, 116, 32]⟩ : ByteArray)).size + t113.size ≤ 9223372036854775807 then (if ((((⟨#[108, 101, 97, 100, 32]⟩ : ByteArray) ++ t112) ++ (⟨#[32, 97, 116, 32]⟩ : ByteArray)) ++ t113).size + 7 ≤ 9223372036854775807 then ((spec_l1Num.f k a0_2).bind fun t114 => (if (((((⟨#[108, 101, 97, 100, 32]⟩ : ByteArray) ++ t112) ++ (⟨#[32, 97, 116, 32]⟩ : ByteArray)) ++ t113) ++ (⟨#[58, 32, 115, 105, 122, 101, 32]⟩ : ByteArray)).size + t114.size ≤ 9223372036854775807 then (if ((((((⟨#[108, 101, 97, 100, 32]⟩ : ByteArray) ++ t112) ++ (⟨#[32, 97, 116, 32]⟩ : ByteArray)) ++ t113) ++ (⟨#[58, 32, 115, 105, 122, 101, 32]⟩ : ByteArray)) ++ t114).size + 6 ≤ 9223372036854775807 then ((spec_l1Num.f k a0_3).bind fun t115 => (if (((((((⟨#[108, 101, 97, 100, 32]⟩ : ByteArray) ++ t112) ++ (⟨#[32, 97, 116, 32]⟩ : ByteArray)) ++ t113) ++ (⟨#[58, 32, 115, 105, 122, 101, 32]⟩ : ByteArray)) ++ t114) ++ (⟨#[32, 101, 97, 115, 101, 32]⟩ : ByteArray)).size + t115.size ≤ 9223372036854775807 then (if ((((((((⟨#[108, 101, 97, 100, 32]⟩ : ByteArray) ++ t112) ++ (⟨#[32, 97, 116, 32]⟩ : ByteArray)) ++ t113) ++ (⟨#[58, 32, 115, 105, 122, 101, 32]⟩ : ByteArray)) ++ t114) ++ (⟨#[32, 101, 97, 115, 101, 32]⟩ : ByteArray)) ++ t115).size + 1 ≤ 9223372036854775807 then ((some (([(⟨#[111, 112, 101, 110]⟩ : ByteArray), (⟨#[116, 97, 107, 101, 110]⟩ : ByteArray), (⟨#[100, 111, 110, 101]⟩ : ByteArray), (⟨#[101, 110, 100, 101, 100]⟩ : ByteArray)] : List ByteArray) : List ByteArray)).bind fun y116 => (if 0 ≤ a0_4 then (if a0_4 < (y116.length : Int) then (if (((((((((⟨#[108, 101, 97, 100, 32]⟩ : ByteArray) ++ t112) ++ (⟨#[32, 97, 116, 32]⟩ : ByteArray)) ++ t113) ++ (⟨#[58, 32, 115, 105, 122, 101, 32]⟩ : ByteArray)) ++ t114) ++ (⟨#[32, 101, 97, 115, 101, 32]⟩ : ByteArray)) ++ t115) ++ (⟨#[32]⟩ : ByteArray)).size + (rdOf ByteArray.empty y116 a0_4).size ≤ 9223372036854775807 then (some ((((((((((⟨#[108, 101, 97, 100, 32]⟩ : ByteArray) ++ t112) ++ (⟨#[32, 97, 116, 32]⟩ : ByteArray)) ++ t113) ++ (⟨#[58, 32, 115, 105, 122, 101, 32]⟩ : ByteArray)) ++ t114) ++ (⟨#[32, 101, 97, 115, 101, 32]⟩ : ByteArray)) ++ t115) ++ (⟨#[32]⟩ : ByteArray)) ++ (rdOf ByteArray.empty y116 a0_4))) else (none)) else (none)) else (none))) else (none)) else (none))) else (none)) else (none))) else (none)) else (none)) = some r := H
      have A5 := Aside0.mk A50
      clear A50
      by_cases c6 : (((⟨#[108, 101, 97, 100, 32]⟩ : ByteArray) ++ t112) ++ (⟨#[32, 97, 116, 32]⟩ : ByteArray)).size + t113.size ≤ 9223372036854775807
      · rw [if_pos c6] at H
        have c6b0 := eq_true c6
        have c6b1 : decide ((((⟨#[108, 101, 97, 100, 32]⟩ : ByteArray) ++ t112) ++ (⟨#[32, 97, 116, 32]⟩ : ByteArray)).size + t113.size ≤ 9223372036854775807) = true := decide_eq_true c6
        try have c6b2 : (9223372036854775807 < (((⟨#[108, 101, 97, 100, 32]⟩ : ByteArray) ++ t112) ++ (⟨#[32, 97, 116, 32]⟩ : ByteArray)).size + t113.size) = False := eq_false (Nat.not_lt.2 c6)
        by_cases c7 : ((((⟨#[108, 101, 97, 100, 32]⟩ : ByteArray) ++ t112) ++ (⟨#[32, 97, 116, 32]⟩ : ByteArray)) ++ t113).size + 7 ≤ 9223372036854775807
        · rw [if_pos c7] at H
          have c7b0 := eq_true c7
          have c7b1 : decide (((((⟨#[108, 101, 97, 100, 32]⟩ : ByteArray) ++ t112) ++ (⟨#[32, 97, 116, 32]⟩ : ByteArray)) ++ t113).size + 7 ≤ 9223372036854775807) = true := decide_eq_true c7
          try have c7b2 : (9223372036854775807 < ((((⟨#[108, 101, 97, 100, 32]⟩ : ByteArray) ++ t112) ++ (⟨#[32, 97, 116, 32]⟩ : ByteArray)) ++ t113).size + 7) = False := eq_false (Nat.not_lt.2 c7)
          replace H := Option.bind_eq_some_iff.mp H
          obtain ⟨t114, A80, H⟩ := H
          replace H : (if (((((⟨#[108, 101, 97, 100, 32]⟩ : ByteArray) ++ t112) ++ (⟨#[32, 97, 116, 32]⟩ : ByteArray)) ++ t113) ++ (⟨#[58, 32, 115, 105, 122, 101, 32]⟩ : ByteArray)).size + t114.size ≤ 9223372036854775807 then (if ((((((⟨#[108, 101, 97, 100, 32]⟩ : ByteArray) ++ t112) ++ (⟨#[32, 97, 116, 32]⟩ : ByteArray)) ++ t113) ++ (⟨#[58, 32, 115, 105, 122, 101, 32]⟩ : ByteArray)) ++ t114).size + 6 ≤ 9223372036854775807 then ((spec_l1Num.f k a0_3).bind fun t115 => (if (((((((⟨#[108, 101, 97, 100, 32]⟩ : ByteArray) ++ t112) ++ (⟨#[32, 97, 116, 32]⟩ : ByteArray)) ++ t113) ++ (⟨#[58, 32, 115, 105, 122, 101, 32]⟩ : ByteArray)) ++ t114) ++ (⟨#[32, 101, 97, 115, 101, 32]⟩ : ByteArray)).size + t115.size ≤ 9223372036854775807 then (if ((((((((⟨#[108, 101, 97, 100, 32]⟩ : ByteArray) ++ t112) ++ (⟨#[32, 97, 116, 32]⟩ : ByteArray)) ++ t113) ++ (⟨#[58, 32, 115, 105, 122, 101, 32]⟩ : ByteArray)) ++ t114) ++ (⟨#[32, 101, 97, 115, 101, 32]⟩ : ByteArray)) ++ t115).size + 1 ≤ 9223372036854775807 then ((some (([(⟨#[111, 112, 101, 110]⟩ : ByteArray), (⟨#[116, 97, 107, 101, 110]⟩ : ByteArray), (⟨#[100, 111, 110, 101]⟩ : ByteArray), (⟨#[101, 110, 100, 101, 100]⟩ : ByteArray)] : List ByteArray) : List ByteArray)).bind fun y116 => (if 0 ≤ a0_4 then (if a0_4 < (y116.length : Int) then (if (((((((((⟨#[108, 101, 97, 100, 32]⟩ : ByteArray) ++ t112) ++ (⟨#[32, 97, 116, 32]⟩ : ByteArray)) ++ t113) ++ (⟨#[58, 32, 115, 105, 122, 101, 32]⟩ : ByteArray)) ++ t114) ++ (⟨#[32, 101, 97, 115, 101, 32]⟩ : ByteArray)) ++ t115) ++ (⟨#[32]⟩ : ByteArray)).size + (rdOf ByteArray.empty y116 a0_4).size ≤ 9223372036854775807 then (some ((((((((((⟨#[108, 101, 97, 100, 32]⟩ : ByteArray) ++ t112) ++ (⟨#[32, 97, 116, 32]⟩ : ByteArray)) ++ t113) ++ (⟨#[58, 32, 115, 105, 122, 101, 32]⟩ : ByteArray)) ++ t114) ++ (⟨#[32, 101, 97, 115, 101, 32]⟩ : ByteArray)) ++ t115) ++ (⟨#[32]⟩ : ByteArray)) ++ (rdOf ByteArray.empty y116 a0_4))) else (none)) else (none)) else (none))) else (none)) else (none))) else (none)) else (none)) = some r := H
          have A8 := Aside0.mk A80
          clear A80
          by_cases c9 : (((((⟨#[108, 101, 97, 100, 32]⟩ : ByteArray) ++ t112) ++ (⟨#[32, 97, 116, 32]⟩ : ByteArray)) ++ t113) ++ (⟨#[58, 32, 115, 105, 122, 101, 32]⟩ : ByteArray)).size + t114.size ≤ 9223372036854775807
          · rw [if_pos c9] at H
            have c9b0 := eq_true c9
            have c9b1 : decide ((((((⟨#[108, 101, 97, 100, 32]⟩ : ByteArray) ++ t112) ++ (⟨#[32, 97, 116, 32]⟩ : ByteArray)) ++ t113) ++ (⟨#[58, 32, 115, 105, 122, 101, 32]⟩ : ByteArray)).size + t114.size ≤ 9223372036854775807) = true := decide_eq_true c9
            try have c9b2 : (9223372036854775807 < (((((⟨#[108, 101, 97, 100, 32]⟩ : ByteArray) ++ t112) ++ (⟨#[32, 97, 116, 32]⟩ : ByteArray)) ++ t113) ++ (⟨#[58, 32, 115, 105, 122, 101, 32]⟩ : ByteArray)).size + t114.size) = False := eq_false (Nat.not_lt.2 c9)
            by_cases c10 : ((((((⟨#[108, 101, 97, 100, 32]⟩ : ByteArray) ++ t112) ++ (⟨#[32, 97, 116, 32]⟩ : ByteArray)) ++ t113) ++ (⟨#[58, 32, 115, 105, 122, 101, 32]⟩ : ByteArray)) ++ t114).size + 6 ≤ 9223372036854775807
            · rw [if_pos c10] at H
              have c10b0 := eq_true c10
              have c10b1 : decide (((((((⟨#[108, 101, 97, 100, 32]⟩ : ByteArray) ++ t112) ++ (⟨#[32, 97, 116, 32]⟩ : ByteArray)) ++ t113) ++ (⟨#[58, 32, 115, 105, 122, 101, 32]⟩ : ByteArray)) ++ t114).size + 6 ≤ 9223372036854775807) = true := decide_eq_true c10
              try have c10b2 : (9223372036854775807 < ((((((⟨#[108, 101, 97, 100, 32]⟩ : ByteArray) ++ t112) ++ (⟨#[32, 97, 116, 32]⟩ : ByteArray)) ++ t113) ++ (⟨#[58, 32, 115, 105, 122, 101, 32]⟩ : ByteArray)) ++ t114).size + 6) = False := eq_false (Nat.not_lt.2 c10)
              replace H := Option.bind_eq_some_iff.mp H
              obtain ⟨t115, A110, H⟩ := H
              replace H : (if (((((((⟨#[108, 101, 97, 100, 32]⟩ : ByteArray) ++ t112) ++ (⟨#[32, 97, 116, 32]⟩ : ByteArray)) ++ t113) ++ (⟨#[58, 32, 115, 105, 122, 101, 32]⟩ : ByteArray)) ++ t114) ++ (⟨#[32, 101, 97, 115, 101, 32]⟩ : ByteArray)).size + t115.size ≤ 9223372036854775807 then (if ((((((((⟨#[108, 101, 97, 100, 32]⟩ : ByteArray) ++ t112) ++ (⟨#[32, 97, 116, 32]⟩ : ByteArray)) ++ t113) ++ (⟨#[58, 32, 115, 105, 122, 101, 32]⟩ : ByteArray)) ++ t114) ++ (⟨#[32, 101, 97, 115, 101, 32]⟩ : ByteArray)) ++ t115).size + 1 ≤ 9223372036854775807 then ((some (([(⟨#[111, 112, 101, 110]⟩ : ByteArray), (⟨#[116, 97, 107, 101, 110]⟩ : ByteArray), (⟨#[100, 111, 110, 101]⟩ : ByteArray), (⟨#[101, 110, 100, 101, 100]⟩ : ByteArray)] : List ByteArray) : List ByteArray)).bind fun y116 => (if 0 ≤ a0_4 then (if a0_4 < (y116.length : Int) then (if (((((((((⟨#[108, 101, 97, 100, 32]⟩ : ByteArray) ++ t112) ++ (⟨#[32, 97, 116, 32]⟩ : ByteArray)) ++ t113) ++ (⟨#[58, 32, 115, 105, 122, 101, 32]⟩ : ByteArray)) ++ t114) ++ (⟨#[32, 101, 97, 115, 101, 32]⟩ : ByteArray)) ++ t115) ++ (⟨#[32]⟩ : ByteArray)).size + (rdOf ByteArray.empty y116 a0_4).size ≤ 9223372036854775807 then (some ((((((((((⟨#[108, 101, 97, 100, 32]⟩ : ByteArray) ++ t112) ++ (⟨#[32, 97, 116, 32]⟩ : ByteArray)) ++ t113) ++ (⟨#[58, 32, 115, 105, 122, 101, 32]⟩ : ByteArray)) ++ t114) ++ (⟨#[32, 101, 97, 115, 101, 32]⟩ : ByteArray)) ++ t115) ++ (⟨#[32]⟩ : ByteArray)) ++ (rdOf ByteArray.empty y116 a0_4))) else (none)) else (none)) else (none))) else (none)) else (none)) = some r := H
              have A11 := Aside0.mk A110
              clear A110
              by_cases c12 : (((((((⟨#[108, 101, 97, 100, 32]⟩ : ByteArray) ++ t112) ++ (⟨#[32, 97, 116, 32]⟩ : ByteArray)) ++ t113) ++ (⟨#[58, 32, 115, 105, 122, 101, 32]⟩ : ByteArray)) ++ t114) ++ (⟨#[32, 101, 97, 115, 101, 32]⟩ : ByteArray)).size + t115.size ≤ 9223372036854775807
              · rw [if_pos c12] at H
                have c12b0 := eq_true c12
                have c12b1 : decide ((((((((⟨#[108, 101, 97, 100, 32]⟩ : ByteArray) ++ t112) ++ (⟨#[32, 97, 116, 32]⟩ : ByteArray)) ++ t113) ++ (⟨#[58, 32, 115, 105, 122, 101, 32]⟩ : ByteArray)) ++ t114) ++ (⟨#[32, 101, 97, 115, 101, 32]⟩ : ByteArray)).size + t115.size ≤ 9223372036854775807) = true := decide_eq_true c12
                try have c12b2 : (9223372036854775807 < (((((((⟨#[108, 101, 97, 100, 32]⟩ : ByteArray) ++ t112) ++ (⟨#[32, 97, 116, 32]⟩ : ByteArray)) ++ t113) ++ (⟨#[58, 32, 115, 105, 122, 101, 32]⟩ : ByteArray)) ++ t114) ++ (⟨#[32, 101, 97, 115, 101, 32]⟩ : ByteArray)).size + t115.size) = False := eq_false (Nat.not_lt.2 c12)
                by_cases c13 : ((((((((⟨#[108, 101, 97, 100, 32]⟩ : ByteArray) ++ t112) ++ (⟨#[32, 97, 116, 32]⟩ : ByteArray)) ++ t113) ++ (⟨#[58, 32, 115, 105, 122, 101, 32]⟩ : ByteArray)) ++ t114) ++ (⟨#[32, 101, 97, 115, 101, 32]⟩ : ByteArray)) ++ t115).size + 1 ≤ 9223372036854775807
                · rw [if_pos c13] at H
                  have c13b0 := eq_true c13
                  have c13b1 : decide (((((((((⟨#[108, 101, 97, 100, 32]⟩ : ByteArray) ++ t112) ++ (⟨#[32, 97, 116, 32]⟩ : ByteArray)) ++ t113) ++ (⟨#[58, 32, 115, 105, 122, 101, 32]⟩ : ByteArray)) ++ t114) ++ (⟨#[32, 101, 97, 115, 101, 32]⟩ : ByteArray)) ++ t115).size + 1 ≤ 9223372036854775807) = true := decide_eq_true c13
                  try have c13b2 : (9223372036854775807 < ((((((((⟨#[108, 101, 97, 100, 32]⟩ : ByteArray) ++ t112) ++ (⟨#[32, 97, 116, 32]⟩ : ByteArray)) ++ t113) ++ (⟨#[58, 32, 115, 105, 122, 101, 32]⟩ : ByteArray)) ++ t114) ++ (⟨#[32, 101, 97, 115, 101, 32]⟩ : ByteArray)) ++ t115).size + 1) = False := eq_false (Nat.not_lt.2 c13)
                  obtain ⟨y116, hy116⟩ : ∃ y_ : List ByteArray, y_ = (([(⟨#[111, 112, 101, 110]⟩ : ByteArray), (⟨#[116, 97, 107, 101, 110]⟩ : ByteArray), (⟨#[100, 111, 110, 101]⟩ : ByteArray), (⟨#[101, 110, 100, 101, 100]⟩ : ByteArray)] : List ByteArray)) := ⟨_, rfl⟩
                  replace H : (if 0 ≤ a0_4 then (if a0_4 < (y116.length : Int) then (if (((((((((⟨#[108, 101, 97, 100, 32]⟩ : ByteArray) ++ t112) ++ (⟨#[32, 97, 116, 32]⟩ : ByteArray)) ++ t113) ++ (⟨#[58, 32, 115, 105, 122, 101, 32]⟩ : ByteArray)) ++ t114) ++ (⟨#[32, 101, 97, 115, 101, 32]⟩ : ByteArray)) ++ t115) ++ (⟨#[32]⟩ : ByteArray)).size + (rdOf ByteArray.empty y116 a0_4).size ≤ 9223372036854775807 then (some ((((((((((⟨#[108, 101, 97, 100, 32]⟩ : ByteArray) ++ t112) ++ (⟨#[32, 97, 116, 32]⟩ : ByteArray)) ++ t113) ++ (⟨#[58, 32, 115, 105, 122, 101, 32]⟩ : ByteArray)) ++ t114) ++ (⟨#[32, 101, 97, 115, 101, 32]⟩ : ByteArray)) ++ t115) ++ (⟨#[32]⟩ : ByteArray)) ++ (rdOf ByteArray.empty y116 a0_4))) else (none)) else (none)) else (none)) = some r := by first | (rw [hy116]; with_reducible exact H) | (have H2_ := (Option.bind_some _ _).symm.trans H; rw [hy116]; with_reducible exact H2_) | (have H2_ := (Option.bind_some _ _).symm.trans H; with_reducible exact H2_) | with_reducible exact H | (rw [hy116]; exact H) | exact H
                  have Ny116 := Aside0.mk hy116
                  clear hy116
                  by_cases c14 : 0 ≤ a0_4
                  · rw [if_pos c14] at H
                    have c14b0 : decide (0 ≤ a0_4) = true := decide_eq_true c14
                    clear c14
                    by_cases c15 : a0_4 < (y116.length : Int)
                    · rw [if_pos c15] at H
                      have c15b0 : decide (a0_4 < (y116.length : Int)) = true := decide_eq_true c15
                      clear c15
                      by_cases c16 : (((((((((⟨#[108, 101, 97, 100, 32]⟩ : ByteArray) ++ t112) ++ (⟨#[32, 97, 116, 32]⟩ : ByteArray)) ++ t113) ++ (⟨#[58, 32, 115, 105, 122, 101, 32]⟩ : ByteArray)) ++ t114) ++ (⟨#[32, 101, 97, 115, 101, 32]⟩ : ByteArray)) ++ t115) ++ (⟨#[32]⟩ : ByteArray)).size + (rdOf ByteArray.empty y116 a0_4).size ≤ 9223372036854775807
                      · rw [if_pos c16] at H
                        have c16b0 := eq_true c16
                        have c16b1 : decide ((((((((((⟨#[108, 101, 97, 100, 32]⟩ : ByteArray) ++ t112) ++ (⟨#[32, 97, 116, 32]⟩ : ByteArray)) ++ t113) ++ (⟨#[58, 32, 115, 105, 122, 101, 32]⟩ : ByteArray)) ++ t114) ++ (⟨#[32, 101, 97, 115, 101, 32]⟩ : ByteArray)) ++ t115) ++ (⟨#[32]⟩ : ByteArray)).size + (rdOf ByteArray.empty y116 a0_4).size ≤ 9223372036854775807) = true := decide_eq_true c16
                        try have c16b2 : (9223372036854775807 < (((((((((⟨#[108, 101, 97, 100, 32]⟩ : ByteArray) ++ t112) ++ (⟨#[32, 97, 116, 32]⟩ : ByteArray)) ++ t113) ++ (⟨#[58, 32, 115, 105, 122, 101, 32]⟩ : ByteArray)) ++ t114) ++ (⟨#[32, 101, 97, 115, 101, 32]⟩ : ByteArray)) ++ t115) ++ (⟨#[32]⟩ : ByteArray)).size + (rdOf ByteArray.empty y116 a0_4).size) = False := eq_false (Nat.not_lt.2 c16)
                        obtain rfl := Option.some.inj H
                        go_enter Tryd.func25, Tryd.ntmps25
                        try go_wp2_with (first | ((with_reducible refine gate_dst (N := 1) rfl ?_); refine box_event ?hg (N := 1) ?hd (cs := #[.int .i64 a0_0, .int .i64 a0_1, .int .i64 a0_2, .int .i64 a0_3, .int .i64 a0_4]) (t := 26) ?hr ?_; (case hd => rfl); (case hg => rfl); (case hr => first | (go_simp; done) | (go_simp; rfl)); intro gb111 hg w17 hbox hb; have n0_ := Aside0.mk (below_step (by repeat (first | (with_reducible first | exact HB.out | apply below_alloc | apply pw_below_drewN | apply below_drew1) | exact HB.out)) hb); have n1_ := Aside0.mk (hbox); have n2_ := Aside0.mk ((by rw [hg]; exact (below_size (by repeat (first | (with_reducible first | exact HB.out | apply below_alloc | apply pw_below_drewN | apply below_drew1) | exact HB.out))) : w.heap.size ≤ gb111)); have n3_ := Aside0.mk ((by rw [hg]; exact (below_size (by repeat (first | (with_reducible first | exact HB.out | apply below_alloc | apply pw_below_drewN | apply below_drew1) | exact HB.out))) : w.heap.size ≤ gb111)); clear HB; have HB := n0_; have BK111 := n1_; have GW111 := n2_; have GE111 := n3_; clear n0_ n1_ n2_ n3_; clear hb hbox hg))
                        have pi119 : (0 ≤ (a0_4 : Int)) = True := eq_true (of_decide_eq_true (by first | (with_reducible assumption) | assumption))
                        have qi119 : (a0_4 < (y116.length : Int)) = True := eq_true (of_decide_eq_true (by first | (with_reducible assumption) | assumption))
                        have n0_ := Aside0.mk (blk_drew BK111.out)
                        have n1_ := Aside0.mk (below_drew1 HB.out)
                        clear BK111
                        clear HB
                        have BK111 := n0_
                        have HB := n1_
                        clear n0_ n1_
                        refine start_ (n := 27) (S := fun w' => True) (ds := []) #[false, false, false, false, false, false, false, false, false, false, false, false, false, false, false, false, false, false, false, false, false, false, false, false, false, false, false] (by kernel_rfl) rfl rfl trivial (fun hHeld => ?_); refine with_tabW spec_l18Text.tab1 spec_l18Text.bits1 (fun HT_ HW_ => ?_)
                        generalize w17.drew = w18 at BK111 HB hHeld ⊢
                        refine pure_ (i := 0) (N := some 3) (v := ?_) (a' := ?_) #[true, false, false, false, false, false, false, false, false, false, false, false, false, false, false, false, false, false, false, false, false, false, false, false, false, false, false] rfl rfl (any_of HT_.out (by kernel_rfl)) (fun _ _ _ h => h) (Or.inl ⟨by rfl, ?_⟩) ?_ ?_
                        rotate_left
                        · intro w'
                          go_simp
                          with_reducible rfl
                        rotate_left
                        · simp only [Act.put, List.setIfInBounds_toArray, List.set_cons_zero, List.set_cons_succ, i64_w, i32_w]
                          rfl
                        refine pure_ (i := 5) (N := some 8) (v := ?_) (a' := ?_) #[true, false, false, false, false, true, false, false, false, false, false, false, false, false, false, false, false, false, false, false, false, false, false, false, false, false, false] rfl rfl (any_of HT_.out (by kernel_rfl)) (fun _ _ _ h => h) (Or.inl ⟨by rfl, ?_⟩) ?_ ?_
                        rotate_left
                        · intro w'
                          go_simp
                          with_reducible rfl
                        rotate_left
                        · simp only [Act.put, List.setIfInBounds_toArray, List.set_cons_zero, List.set_cons_succ, i64_w, i32_w]
                          rfl
                        refine pure_ (i := 10) (N := some 13) (v := ?_) (a' := ?_) #[true, false, false, false, false, true, false, false, false, false, true, false, false, false, false, false, false, false, false, false, false, false, false, false, false, false, false] rfl rfl (any_of HT_.out (by kernel_rfl)) (fun _ _ _ h => h) (Or.inl ⟨by rfl, ?_⟩) ?_ ?_
                        rotate_left
                        · intro w'
                          go_simp
                          with_reducible rfl
                        rotate_left
                        · simp only [Act.put, List.setIfInBounds_toArray, List.set_cons_zero, List.set_cons_succ, i64_w, i32_w]
                          rfl
                        refine pure_ (i := 15) (N := some 18) (v := ?_) (a' := ?_) #[true, false, false, false, false, true, false, false, false, false, true, false, false, false, false, true, false, false, false, false, false, false, false, false, false, false, false] rfl rfl (any_of HT_.out (by kernel_rfl)) (fun _ _ _ h => h) (Or.inl ⟨by rfl, ?_⟩) ?_ ?_
                        rotate_left
                        · intro w'
                          go_simp
                          with_reducible rfl
                        rotate_left
                        · simp only [Act.put, List.setIfInBounds_toArray, List.set_cons_zero, List.set_cons_succ, i64_w, i32_w]
                          rfl
                        refine pure_ (i := 21) (N := some 24) (v := ?_) (a' := ?_) #[true, false, false, false, false, true, false, false, false, false, true, false, false, false, false, true, false, false, false, false, false, true, false, false, false, false, false] rfl rfl (any_of HT_.out (by kernel_rfl)) (fun _ _ _ h => h) (Or.inl ⟨by rfl, ?_⟩) ?_ ?_
                        rotate_left
                        · intro w'
                          go_simp
                          with_reducible rfl
                        rotate_left
                        · simp only [Act.put, List.setIfInBounds_toArray, List.set_cons_zero, List.set_cons_succ, i64_w, i32_w]
                          rfl
                        refine inv_at [1, 2, 3, 4, 6, 7, 8, 9, 11, 12, 13, 14, 16, 17, 18, 19, 20, 22, 23, 24, 25, 26] (fun a0_ b a w' => ∃ (v117 : Value) (adz_v117 : Addr) (m23_ : Value), a = putSel a0_ b [(1, 4, .int .i64 a0_0), (2, 5, .string t112), (3, 6, .string ((⟨#[108, 101, 97, 100, 32]⟩ : ByteArray) ++ t112)), (4, 7, .string (((⟨#[108, 101, 97, 100, 32]⟩ : ByteArray) ++ t112) ++ (⟨#[32, 97, 116, 32]⟩ : ByteArray))), (6, 9, .int .i64 a0_1), (7, 10, .string t113), (8, 11, .string ((((⟨#[108, 101, 97, 100, 32]⟩ : ByteArray) ++ t112) ++ (⟨#[32, 97, 116, 32]⟩ : ByteArray)) ++ t113)), (9, 12, .string (((((⟨#[108, 101, 97, 100, 32]⟩ : ByteArray) ++ t112) ++ (⟨#[32, 97, 116, 32]⟩ : ByteArray)) ++ t113) ++ (⟨#[58, 32, 115, 105, 122, 101, 32]⟩ : ByteArray))), (11, 14, .int .i64 a0_2), (12, 15, .string t114), (13, 16, .string ((((((⟨#[108, 101, 97, 100, 32]⟩ : ByteArray) ++ t112) ++ (⟨#[32, 97, 116, 32]⟩ : ByteArray)) ++ t113) ++ (⟨#[58, 32, 115, 105, 122, 101, 32]⟩ : ByteArray)) ++ t114)), (14, 17, .string (((((((⟨#[108, 101, 97, 100, 32]⟩ : ByteArray) ++ t112) ++ (⟨#[32, 97, 116, 32]⟩ : ByteArray)) ++ t113) ++ (⟨#[58, 32, 115, 105, 122, 101, 32]⟩ : ByteArray)) ++ t114) ++ (⟨#[32, 101, 97, 115, 101, 32]⟩ : ByteArray))), (16, 19, .int .i64 a0_3), (17, 20, .string t115), (18, 21, .string ((((((((⟨#[108, 101, 97, 100, 32]⟩ : ByteArray) ++ t112) ++ (⟨#[32, 97, 116, 32]⟩ : ByteArray)) ++ t113) ++ (⟨#[58, 32, 115, 105, 122, 101, 32]⟩ : ByteArray)) ++ t114) ++ (⟨#[32, 101, 97, 115, 101, 32]⟩ : ByteArray)) ++ t115)), (19, 22, .string (((((((((⟨#[108, 101, 97, 100, 32]⟩ : ByteArray) ++ t112) ++ (⟨#[32, 97, 116, 32]⟩ : ByteArray)) ++ t113) ++ (⟨#[58, 32, 115, 105, 122, 101, 32]⟩ : ByteArray)) ++ t114) ++ (⟨#[32, 101, 97, 115, 101, 32]⟩ : ByteArray)) ++ t115) ++ (⟨#[32]⟩ : ByteArray))), (20, 23, v117), (22, 25, .int .i64 a0_4), (23, 26, m23_), (24, 27, .string (rdOf ByteArray.empty y116 a0_4)), (25, 28, .string ((((((((((⟨#[108, 101, 97, 100, 32]⟩ : ByteArray) ++ t112) ++ (⟨#[32, 97, 116, 32]⟩ : ByteArray)) ++ t113) ++ (⟨#[58, 32, 115, 105, 122, 101, 32]⟩ : ByteArray)) ++ t114) ++ (⟨#[32, 101, 97, 115, 101, 32]⟩ : ByteArray)) ++ t115) ++ (⟨#[32]⟩ : ByteArray)) ++ (rdOf ByteArray.empty y116 a0_4))), (26, 2, .string ((((((((((⟨#[108, 101, 97, 100, 32]⟩ : ByteArray) ++ t112) ++ (⟨#[32, 97, 116, 32]⟩ : ByteArray)) ++ t113) ++ (⟨#[58, 32, 115, 105, 122, 101, 32]⟩ : ByteArray)) ++ t114) ++ (⟨#[32, 101, 97, 115, 101, 32]⟩ : ByteArray)) ++ t115) ++ (⟨#[32]⟩ : ByteArray)) ++ (rdOf ByteArray.empty y116 a0_4)))] ∧ (w'.heap[gb111]? = some (.cells #[.int .i64 a0_0, .int .i64 a0_1, .int .i64 a0_2, .int .i64 a0_3, .int .i64 a0_4] 26 (0, 0))) ∧ (Below w.heap.size w w') ∧ (b 20 = true → Kd.R Kd.string 9 w' w.heap.size (fun _ => True) v117 y116) ∧ (b 20 = true → ∃ c_, (v117 : Value) = .slice (some adz_v117) y116.length c_) ∧ (b 23 = true → (m23_ : Value) = .pointer (some (adz_v117.add (a0_4).toNat)))) HT_.out HW_.out (by kernel_rfl) (by kernel_rfl) ?_ ?_ ?_
                        · exact ⟨.bool false, ⟨0, 0, none⟩, .bool false, by simp only [putSel, Bool.false_eq_true, if_false], BK111.out, HB.out, fun h_ => absurd h_ (by decide), fun h_ => absurd h_ (by decide), fun h_ => absurd h_ (by decide)⟩
                        · skip
                          clear BK111 HB
                          refine steps_cons ?_ ?_
                          · rintro b a w' ⟨v117, adz_v117, m23_, ha, Q_BK111, Q_HB, Q_HO118, Q_HA_HO118, Q_X23_⟩ hb_ hon hoff
                            refine ⟨_, rfl, fun K hK => ?_⟩
                            have e3 : a.tmps[3]? = some (.pointer (some ⟨gb111, 0, none⟩)) := by rw [ha]; exact (putSel_off rfl).trans rfl
                            replace ha := Aside0.mk ha
                            have BK111 := Aside0.mk Q_BK111
                            have HB := Aside0.mk Q_HB
                            have hc0_ : w'.cell? ⟨gb111, 0, none⟩ = some (.int .i64 a0_0) := (blk_cell BK111.out 0).trans rfl
                            have hc1_ : w'.cell? ⟨gb111, 1, none⟩ = some (.int .i64 a0_1) := (blk_cell BK111.out 1).trans rfl
                            have hc2_ : w'.cell? ⟨gb111, 2, none⟩ = some (.int .i64 a0_2) := (blk_cell BK111.out 2).trans rfl
                            have hc3_ : w'.cell? ⟨gb111, 3, none⟩ = some (.int .i64 a0_3) := (blk_cell BK111.out 3).trans rfl
                            have hc4_ : w'.cell? ⟨gb111, 4, none⟩ = some (.int .i64 a0_4) := (blk_cell BK111.out 4).trans rfl
                            refine value_ (w1 := w') (v := .int .i64 a0_0) (by rfl) rfl ?_ ?_
                            · go_simp
                              (try simp only [i64_w])
                              try rfl
                              try (have e_ := c16; simp only [ByteArray.size_append, show (⟨#[108, 101, 97, 100, 32]⟩ : ByteArray).size = 5 from rfl, show (⟨#[32, 97, 116, 32]⟩ : ByteArray).size = 4 from rfl, show (⟨#[58, 32, 115, 105, 122, 101, 32]⟩ : ByteArray).size = 7 from rfl, show (⟨#[32, 101, 97, 115, 101, 32]⟩ : ByteArray).size = 6 from rfl, show (⟨#[111, 112, 101, 110]⟩ : ByteArray).size = 4 from rfl, show (⟨#[116, 97, 107, 101, 110]⟩ : ByteArray).size = 5 from rfl, show (⟨#[100, 111, 110, 101]⟩ : ByteArray).size = 4 from rfl, show (⟨#[101, 110, 100, 101, 100]⟩ : ByteArray).size = 5 from rfl, show (⟨#[32]⟩ : ByteArray).size = 1 from rfl] at e_; omega)
                            refine hK.out _ _ ⟨v117, adz_v117, m23_, (by rw [ha.out]; exact putSel_upk 0 hb_ rfl rfl rfl), Q_BK111, Q_HB, Q_HO118, Q_HA_HO118, Q_X23_⟩
                          refine steps_cons ?_ ?_
                          · rintro b a w' ⟨v117, adz_v117, m23_, ha, Q_BK111, Q_HB, Q_HO118, Q_HA_HO118, Q_X23_⟩ hb_ hon hoff
                            refine ⟨_, rfl, fun K hK => ?_⟩
                            have e4 : a.tmps[4]? = some (.int .i64 a0_0) := by rw [ha]; exact putSel_on (e := (1, 4, .int .i64 a0_0)) 0 rfl rfl (hon 1 (by kernel_rfl)) rfl
                            replace ha := Aside0.mk ha
                            have BK111 := Aside0.mk Q_BK111
                            have HB := Aside0.mk Q_HB
                            refine goes_ Tryd.func48 (by kernel_rfl) rfl #[.int .i64 a0_0] (by rfl) rfl rfl (by first | (simp only [List.map_toArray, List.map_cons, List.map_nil, Act.eval, Array.getD_eq_getD_getElem?, Option.getD_some, e4]; done) | (simp only [List.map_toArray, List.map_cons, List.map_nil, Act.eval, Array.getD_eq_getD_getElem?, Option.getD_some, e4]; rfl)) ?_
                            with_reducible refine (spec_l1Num.calls k a0_0 t112 _ A2.out).mono ?_
                            rintro e w19 ⟨rfl, hb⟩
                            refine ⟨_, rfl, ?_⟩
                            have n0_ := Aside0.mk (blk_below (g := gb111) (o := .cells #[.int .i64 a0_0, .int .i64 a0_1, .int .i64 a0_2, .int .i64 a0_3, .int .i64 a0_4] 26 (0, 0)) (by (with_reducible repeat (first | refine blk_drewN ?_ _ | refine blk_drew ?_ | refine blk_alloc ?_ _)); exact BK111.out) hb)
                            have n1_ := Aside0.mk (below_step (by repeat (first | (with_reducible first | exact HB.out | apply below_alloc | apply pw_below_drewN | apply below_drew1 | refine below_set ?_ GE111.out) | exact HB.out)) hb)
                            have z_HO118 := fun (h0_ : b 20 = true) => (show Kd.R Kd.string 9 w19 w.heap.size (fun _ => True) v117 y116 from by first | exact (Kd.R_below (by (with_reducible repeat (first | apply Kd.R_alloc | apply Kd.R_drewN | apply Kd.R_drew)); exact (Q_HO118 h0_)) hb) | exact Kd.R_mono (Kd.R_below (by (with_reducible repeat (first | apply Kd.R_alloc | apply Kd.R_drewN | apply Kd.R_drew)); exact (Q_HO118 h0_)) hb) (fun _ h_ => by first | trivial | exact h_ | exact h_.1))
                            clear BK111
                            clear HB
                            have BK111 := n0_
                            have HB := n1_
                            clear n0_ n1_
                            (try clear hb)
                            (try clear hb2)
                            (try clear hk)
                            (try clear hi)
                            refine hK.out _ _ ⟨v117, adz_v117, m23_, (by rw [ha.out]; exact putSel_upk 1 hb_ rfl rfl rfl), (by (with_reducible repeat (first | refine blk_drewN ?_ _ | refine blk_drew ?_ | refine blk_alloc ?_ _)); exact BK111.out), (by repeat (first | (with_reducible first | exact HB.out | apply below_alloc | apply pw_below_drewN | apply below_drew1 | refine below_set ?_ GE111.out) | exact HB.out)), z_HO118, Q_HA_HO118, Q_X23_⟩
                          refine steps_cons ?_ ?_
                          · rintro b a w' ⟨v117, adz_v117, m23_, ha, Q_BK111, Q_HB, Q_HO118, Q_HA_HO118, Q_X23_⟩ hb_ hon hoff
                            refine ⟨_, rfl, fun K hK => ?_⟩
                            have e5 : a.tmps[5]? = some (.string t112) := by rw [ha]; exact putSel_on (e := (2, 5, .string t112)) 1 rfl rfl (hon 2 (by kernel_rfl)) rfl
                            replace ha := Aside0.mk ha
                            have BK111 := Aside0.mk Q_BK111
                            have HB := Aside0.mk Q_HB
                            refine value_ (w1 := w') (v := .string ((⟨#[108, 101, 97, 100, 32]⟩ : ByteArray) ++ t112)) (by rfl) rfl ?_ ?_
                            · go_simp
                              (try simp only [i64_w])
                              try rfl
                              try (have e_ := c16; simp only [ByteArray.size_append, show (⟨#[108, 101, 97, 100, 32]⟩ : ByteArray).size = 5 from rfl, show (⟨#[32, 97, 116, 32]⟩ : ByteArray).size = 4 from rfl, show (⟨#[58, 32, 115, 105, 122, 101, 32]⟩ : ByteArray).size = 7 from rfl, show (⟨#[32, 101, 97, 115, 101, 32]⟩ : ByteArray).size = 6 from rfl, show (⟨#[111, 112, 101, 110]⟩ : ByteArray).size = 4 from rfl, show (⟨#[116, 97, 107, 101, 110]⟩ : ByteArray).size = 5 from rfl, show (⟨#[100, 111, 110, 101]⟩ : ByteArray).size = 4 from rfl, show (⟨#[101, 110, 100, 101, 100]⟩ : ByteArray).size = 5 from rfl, show (⟨#[32]⟩ : ByteArray).size = 1 from rfl] at e_; omega)
                            refine hK.out _ _ ⟨v117, adz_v117, m23_, (by rw [ha.out]; exact putSel_upk 2 hb_ rfl rfl rfl), Q_BK111, Q_HB, Q_HO118, Q_HA_HO118, Q_X23_⟩
                          refine steps_cons ?_ ?_
                          · rintro b a w' ⟨v117, adz_v117, m23_, ha, Q_BK111, Q_HB, Q_HO118, Q_HA_HO118, Q_X23_⟩ hb_ hon hoff
                            refine ⟨_, rfl, fun K hK => ?_⟩
                            have e6 : a.tmps[6]? = some (.string ((⟨#[108, 101, 97, 100, 32]⟩ : ByteArray) ++ t112)) := by rw [ha]; exact putSel_on (e := (3, 6, .string ((⟨#[108, 101, 97, 100, 32]⟩ : ByteArray) ++ t112))) 2 rfl rfl (hon 3 (by kernel_rfl)) rfl
                            replace ha := Aside0.mk ha
                            have BK111 := Aside0.mk Q_BK111
                            have HB := Aside0.mk Q_HB
                            refine value_ (w1 := w') (v := .string (((⟨#[108, 101, 97, 100, 32]⟩ : ByteArray) ++ t112) ++ (⟨#[32, 97, 116, 32]⟩ : ByteArray))) (by rfl) rfl ?_ ?_
                            · go_simp
                              (try simp only [i64_w])
                              try rfl
                              try (have e_ := c16; simp only [ByteArray.size_append, show (⟨#[108, 101, 97, 100, 32]⟩ : ByteArray).size = 5 from rfl, show (⟨#[32, 97, 116, 32]⟩ : ByteArray).size = 4 from rfl, show (⟨#[58, 32, 115, 105, 122, 101, 32]⟩ : ByteArray).size = 7 from rfl, show (⟨#[32, 101, 97, 115, 101, 32]⟩ : ByteArray).size = 6 from rfl, show (⟨#[111, 112, 101, 110]⟩ : ByteArray).size = 4 from rfl, show (⟨#[116, 97, 107, 101, 110]⟩ : ByteArray).size = 5 from rfl, show (⟨#[100, 111, 110, 101]⟩ : ByteArray).size = 4 from rfl, show (⟨#[101, 110, 100, 101, 100]⟩ : ByteArray).size = 5 from rfl, show (⟨#[32]⟩ : ByteArray).size = 1 from rfl] at e_; omega)
                            refine hK.out _ _ ⟨v117, adz_v117, m23_, (by rw [ha.out]; exact putSel_upk 3 hb_ rfl rfl rfl), Q_BK111, Q_HB, Q_HO118, Q_HA_HO118, Q_X23_⟩
                          refine steps_cons ?_ ?_
                          · rintro b a w' ⟨v117, adz_v117, m23_, ha, Q_BK111, Q_HB, Q_HO118, Q_HA_HO118, Q_X23_⟩ hb_ hon hoff
                            refine ⟨_, rfl, fun K hK => ?_⟩
                            have e8 : a.tmps[8]? = some (.pointer (some ⟨gb111, 1, none⟩)) := by rw [ha]; exact (putSel_off rfl).trans rfl
                            replace ha := Aside0.mk ha
                            have BK111 := Aside0.mk Q_BK111
                            have HB := Aside0.mk Q_HB
                            have hc0_ : w'.cell? ⟨gb111, 0, none⟩ = some (.int .i64 a0_0) := (blk_cell BK111.out 0).trans rfl
                            have hc1_ : w'.cell? ⟨gb111, 1, none⟩ = some (.int .i64 a0_1) := (blk_cell BK111.out 1).trans rfl
                            have hc2_ : w'.cell? ⟨gb111, 2, none⟩ = some (.int .i64 a0_2) := (blk_cell BK111.out 2).trans rfl
                            have hc3_ : w'.cell? ⟨gb111, 3, none⟩ = some (.int .i64 a0_3) := (blk_cell BK111.out 3).trans rfl
                            have hc4_ : w'.cell? ⟨gb111, 4, none⟩ = some (.int .i64 a0_4) := (blk_cell BK111.out 4).trans rfl
                            refine value_ (w1 := w') (v := .int .i64 a0_1) (by rfl) rfl ?_ ?_
                            · go_simp
                              (try simp only [i64_w])
                              try rfl
                              try (have e_ := c16; simp only [ByteArray.size_append, show (⟨#[108, 101, 97, 100, 32]⟩ : ByteArray).size = 5 from rfl, show (⟨#[32, 97, 116, 32]⟩ : ByteArray).size = 4 from rfl, show (⟨#[58, 32, 115, 105, 122, 101, 32]⟩ : ByteArray).size = 7 from rfl, show (⟨#[32, 101, 97, 115, 101, 32]⟩ : ByteArray).size = 6 from rfl, show (⟨#[111, 112, 101, 110]⟩ : ByteArray).size = 4 from rfl, show (⟨#[116, 97, 107, 101, 110]⟩ : ByteArray).size = 5 from rfl, show (⟨#[100, 111, 110, 101]⟩ : ByteArray).size = 4 from rfl, show (⟨#[101, 110, 100, 101, 100]⟩ : ByteArray).size = 5 from rfl, show (⟨#[32]⟩ : ByteArray).size = 1 from rfl] at e_; omega)
                            refine hK.out _ _ ⟨v117, adz_v117, m23_, (by rw [ha.out]; exact putSel_upk 4 hb_ rfl rfl rfl), Q_BK111, Q_HB, Q_HO118, Q_HA_HO118, Q_X23_⟩
                          refine steps_cons ?_ ?_
                          · rintro b a w' ⟨v117, adz_v117, m23_, ha, Q_BK111, Q_HB, Q_HO118, Q_HA_HO118, Q_X23_⟩ hb_ hon hoff
                            refine ⟨_, rfl, fun K hK => ?_⟩
                            have e9 : a.tmps[9]? = some (.int .i64 a0_1) := by rw [ha]; exact putSel_on (e := (6, 9, .int .i64 a0_1)) 4 rfl rfl (hon 6 (by kernel_rfl)) rfl
                            replace ha := Aside0.mk ha
                            have BK111 := Aside0.mk Q_BK111
                            have HB := Aside0.mk Q_HB
                            refine goes_ Tryd.func48 (by kernel_rfl) rfl #[.int .i64 a0_1] (by rfl) rfl rfl (by first | (simp only [List.map_toArray, List.map_cons, List.map_nil, Act.eval, Array.getD_eq_getD_getElem?, Option.getD_some, e9]; done) | (simp only [List.map_toArray, List.map_cons, List.map_nil, Act.eval, Array.getD_eq_getD_getElem?, Option.getD_some, e9]; rfl)) ?_
                            with_reducible refine (spec_l1Num.calls k a0_1 t113 _ A5.out).mono ?_
                            rintro e w21 ⟨rfl, hb⟩
                            refine ⟨_, rfl, ?_⟩
                            have n0_ := Aside0.mk (blk_below (g := gb111) (o := .cells #[.int .i64 a0_0, .int .i64 a0_1, .int .i64 a0_2, .int .i64 a0_3, .int .i64 a0_4] 26 (0, 0)) (by (with_reducible repeat (first | refine blk_drewN ?_ _ | refine blk_drew ?_ | refine blk_alloc ?_ _)); exact BK111.out) hb)
                            have n1_ := Aside0.mk (below_step (by repeat (first | (with_reducible first | exact HB.out | apply below_alloc | apply pw_below_drewN | apply below_drew1 | refine below_set ?_ GE111.out) | exact HB.out)) hb)
                            have z_HO118 := fun (h0_ : b 20 = true) => (show Kd.R Kd.string 9 w21 w.heap.size (fun _ => True) v117 y116 from by first | exact (Kd.R_below (by (with_reducible repeat (first | apply Kd.R_alloc | apply Kd.R_drewN | apply Kd.R_drew)); exact (Q_HO118 h0_)) hb) | exact Kd.R_mono (Kd.R_below (by (with_reducible repeat (first | apply Kd.R_alloc | apply Kd.R_drewN | apply Kd.R_drew)); exact (Q_HO118 h0_)) hb) (fun _ h_ => by first | trivial | exact h_ | exact h_.1))
                            clear BK111
                            clear HB
                            have BK111 := n0_
                            have HB := n1_
                            clear n0_ n1_
                            (try clear hb)
                            (try clear hb2)
                            (try clear hk)
                            (try clear hi)
                            refine hK.out _ _ ⟨v117, adz_v117, m23_, (by rw [ha.out]; exact putSel_upk 5 hb_ rfl rfl rfl), (by (with_reducible repeat (first | refine blk_drewN ?_ _ | refine blk_drew ?_ | refine blk_alloc ?_ _)); exact BK111.out), (by repeat (first | (with_reducible first | exact HB.out | apply below_alloc | apply pw_below_drewN | apply below_drew1 | refine below_set ?_ GE111.out) | exact HB.out)), z_HO118, Q_HA_HO118, Q_X23_⟩
                          refine steps_cons ?_ ?_
                          · rintro b a w' ⟨v117, adz_v117, m23_, ha, Q_BK111, Q_HB, Q_HO118, Q_HA_HO118, Q_X23_⟩ hb_ hon hoff
                            refine ⟨_, rfl, fun K hK => ?_⟩
                            have e7 : a.tmps[7]? = some (.string (((⟨#[108, 101, 97, 100, 32]⟩ : ByteArray) ++ t112) ++ (⟨#[32, 97, 116, 32]⟩ : ByteArray))) := by rw [ha]; exact putSel_on (e := (4, 7, .string (((⟨#[108, 101, 97, 100, 32]⟩ : ByteArray) ++ t112) ++ (⟨#[32, 97, 116, 32]⟩ : ByteArray)))) 3 rfl rfl (hon 4 (by kernel_rfl)) rfl
                            have e10 : a.tmps[10]? = some (.string t113) := by rw [ha]; exact putSel_on (e := (7, 10, .string t113)) 5 rfl rfl (hon 7 (by kernel_rfl)) rfl
                            replace ha := Aside0.mk ha
                            have BK111 := Aside0.mk Q_BK111
                            have HB := Aside0.mk Q_HB
                            refine value_ (w1 := w') (v := .string ((((⟨#[108, 101, 97, 100, 32]⟩ : ByteArray) ++ t112) ++ (⟨#[32, 97, 116, 32]⟩ : ByteArray)) ++ t113)) (by rfl) rfl ?_ ?_
                            · go_simp
                              (try simp only [i64_w])
                              try rfl
                              try (have e_ := c16; simp only [ByteArray.size_append, show (⟨#[108, 101, 97, 100, 32]⟩ : ByteArray).size = 5 from rfl, show (⟨#[32, 97, 116, 32]⟩ : ByteArray).size = 4 from rfl, show (⟨#[58, 32, 115, 105, 122, 101, 32]⟩ : ByteArray).size = 7 from rfl, show (⟨#[32, 101, 97, 115, 101, 32]⟩ : ByteArray).size = 6 from rfl, show (⟨#[111, 112, 101, 110]⟩ : ByteArray).size = 4 from rfl, show (⟨#[116, 97, 107, 101, 110]⟩ : ByteArray).size = 5 from rfl, show (⟨#[100, 111, 110, 101]⟩ : ByteArray).size = 4 from rfl, show (⟨#[101, 110, 100, 101, 100]⟩ : ByteArray).size = 5 from rfl, show (⟨#[32]⟩ : ByteArray).size = 1 from rfl] at e_; omega)
                            refine hK.out _ _ ⟨v117, adz_v117, m23_, (by rw [ha.out]; exact putSel_upk 6 hb_ rfl rfl rfl), Q_BK111, Q_HB, Q_HO118, Q_HA_HO118, Q_X23_⟩
                          refine steps_cons ?_ ?_
                          · rintro b a w' ⟨v117, adz_v117, m23_, ha, Q_BK111, Q_HB, Q_HO118, Q_HA_HO118, Q_X23_⟩ hb_ hon hoff
                            refine ⟨_, rfl, fun K hK => ?_⟩
                            have e11 : a.tmps[11]? = some (.string ((((⟨#[108, 101, 97, 100, 32]⟩ : ByteArray) ++ t112) ++ (⟨#[32, 97, 116, 32]⟩ : ByteArray)) ++ t113)) := by rw [ha]; exact putSel_on (e := (8, 11, .string ((((⟨#[108, 101, 97, 100, 32]⟩ : ByteArray) ++ t112) ++ (⟨#[32, 97, 116, 32]⟩ : ByteArray)) ++ t113))) 6 rfl rfl (hon 8 (by kernel_rfl)) rfl
                            replace ha := Aside0.mk ha
                            have BK111 := Aside0.mk Q_BK111
                            have HB := Aside0.mk Q_HB
                            refine value_ (w1 := w') (v := .string (((((⟨#[108, 101, 97, 100, 32]⟩ : ByteArray) ++ t112) ++ (⟨#[32, 97, 116, 32]⟩ : ByteArray)) ++ t113) ++ (⟨#[58, 32, 115, 105, 122, 101, 32]⟩ : ByteArray))) (by rfl) rfl ?_ ?_
                            · go_simp
                              (try simp only [i64_w])
                              try rfl
                              try (have e_ := c16; simp only [ByteArray.size_append, show (⟨#[108, 101, 97, 100, 32]⟩ : ByteArray).size = 5 from rfl, show (⟨#[32, 97, 116, 32]⟩ : ByteArray).size = 4 from rfl, show (⟨#[58, 32, 115, 105, 122, 101, 32]⟩ : ByteArray).size = 7 from rfl, show (⟨#[32, 101, 97, 115, 101, 32]⟩ : ByteArray).size = 6 from rfl, show (⟨#[111, 112, 101, 110]⟩ : ByteArray).size = 4 from rfl, show (⟨#[116, 97, 107, 101, 110]⟩ : ByteArray).size = 5 from rfl, show (⟨#[100, 111, 110, 101]⟩ : ByteArray).size = 4 from rfl, show (⟨#[101, 110, 100, 101, 100]⟩ : ByteArray).size = 5 from rfl, show (⟨#[32]⟩ : ByteArray).size = 1 from rfl] at e_; omega)
                            refine hK.out _ _ ⟨v117, adz_v117, m23_, (by rw [ha.out]; exact putSel_upk 7 hb_ rfl rfl rfl), Q_BK111, Q_HB, Q_HO118, Q_HA_HO118, Q_X23_⟩
                          refine steps_cons ?_ ?_
                          · rintro b a w' ⟨v117, adz_v117, m23_, ha, Q_BK111, Q_HB, Q_HO118, Q_HA_HO118, Q_X23_⟩ hb_ hon hoff
                            refine ⟨_, rfl, fun K hK => ?_⟩
                            have e13 : a.tmps[13]? = some (.pointer (some ⟨gb111, 2, none⟩)) := by rw [ha]; exact (putSel_off rfl).trans rfl
                            replace ha := Aside0.mk ha
                            have BK111 := Aside0.mk Q_BK111
                            have HB := Aside0.mk Q_HB
                            have hc0_ : w'.cell? ⟨gb111, 0, none⟩ = some (.int .i64 a0_0) := (blk_cell BK111.out 0).trans rfl
                            have hc1_ : w'.cell? ⟨gb111, 1, none⟩ = some (.int .i64 a0_1) := (blk_cell BK111.out 1).trans rfl
                            have hc2_ : w'.cell? ⟨gb111, 2, none⟩ = some (.int .i64 a0_2) := (blk_cell BK111.out 2).trans rfl
                            have hc3_ : w'.cell? ⟨gb111, 3, none⟩ = some (.int .i64 a0_3) := (blk_cell BK111.out 3).trans rfl
                            have hc4_ : w'.cell? ⟨gb111, 4, none⟩ = some (.int .i64 a0_4) := (blk_cell BK111.out 4).trans rfl
                            refine value_ (w1 := w') (v := .int .i64 a0_2) (by rfl) rfl ?_ ?_
                            · go_simp
                              (try simp only [i64_w])
                              try rfl
                              try (have e_ := c16; simp only [ByteArray.size_append, show (⟨#[108, 101, 97, 100, 32]⟩ : ByteArray).size = 5 from rfl, show (⟨#[32, 97, 116, 32]⟩ : ByteArray).size = 4 from rfl, show (⟨#[58, 32, 115, 105, 122, 101, 32]⟩ : ByteArray).size = 7 from rfl, show (⟨#[32, 101, 97, 115, 101, 32]⟩ : ByteArray).size = 6 from rfl, show (⟨#[111, 112, 101, 110]⟩ : ByteArray).size = 4 from rfl, show (⟨#[116, 97, 107, 101, 110]⟩ : ByteArray).size = 5 from rfl, show (⟨#[100, 111, 110, 101]⟩ : ByteArray).size = 4 from rfl, show (⟨#[101, 110, 100, 101, 100]⟩ : ByteArray).size = 5 from rfl, show (⟨#[32]⟩ : ByteArray).size = 1 from rfl] at e_; omega)
                            refine hK.out _ _ ⟨v117, adz_v117, m23_, (by rw [ha.out]; exact putSel_upk 8 hb_ rfl rfl rfl), Q_BK111, Q_HB, Q_HO118, Q_HA_HO118, Q_X23_⟩
                          refine steps_cons ?_ ?_
                          · rintro b a w' ⟨v117, adz_v117, m23_, ha, Q_BK111, Q_HB, Q_HO118, Q_HA_HO118, Q_X23_⟩ hb_ hon hoff
                            refine ⟨_, rfl, fun K hK => ?_⟩
                            have e14 : a.tmps[14]? = some (.int .i64 a0_2) := by rw [ha]; exact putSel_on (e := (11, 14, .int .i64 a0_2)) 8 rfl rfl (hon 11 (by kernel_rfl)) rfl
                            replace ha := Aside0.mk ha
                            have BK111 := Aside0.mk Q_BK111
                            have HB := Aside0.mk Q_HB
                            refine goes_ Tryd.func48 (by kernel_rfl) rfl #[.int .i64 a0_2] (by rfl) rfl rfl (by first | (simp only [List.map_toArray, List.map_cons, List.map_nil, Act.eval, Array.getD_eq_getD_getElem?, Option.getD_some, e14]; done) | (simp only [List.map_toArray, List.map_cons, List.map_nil, Act.eval, Array.getD_eq_getD_getElem?, Option.getD_some, e14]; rfl)) ?_
                            with_reducible refine (spec_l1Num.calls k a0_2 t114 _ A8.out).mono ?_
                            rintro e w22 ⟨rfl, hb⟩
                            refine ⟨_, rfl, ?_⟩
                            have n0_ := Aside0.mk (blk_below (g := gb111) (o := .cells #[.int .i64 a0_0, .int .i64 a0_1, .int .i64 a0_2, .int .i64 a0_3, .int .i64 a0_4] 26 (0, 0)) (by (with_reducible repeat (first | refine blk_drewN ?_ _ | refine blk_drew ?_ | refine blk_alloc ?_ _)); exact BK111.out) hb)
                            have n1_ := Aside0.mk (below_step (by repeat (first | (with_reducible first | exact HB.out | apply below_alloc | apply pw_below_drewN | apply below_drew1 | refine below_set ?_ GE111.out) | exact HB.out)) hb)
                            have z_HO118 := fun (h0_ : b 20 = true) => (show Kd.R Kd.string 9 w22 w.heap.size (fun _ => True) v117 y116 from by first | exact (Kd.R_below (by (with_reducible repeat (first | apply Kd.R_alloc | apply Kd.R_drewN | apply Kd.R_drew)); exact (Q_HO118 h0_)) hb) | exact Kd.R_mono (Kd.R_below (by (with_reducible repeat (first | apply Kd.R_alloc | apply Kd.R_drewN | apply Kd.R_drew)); exact (Q_HO118 h0_)) hb) (fun _ h_ => by first | trivial | exact h_ | exact h_.1))
                            clear BK111
                            clear HB
                            have BK111 := n0_
                            have HB := n1_
                            clear n0_ n1_
                            (try clear hb)
                            (try clear hb2)
                            (try clear hk)
                            (try clear hi)
                            refine hK.out _ _ ⟨v117, adz_v117, m23_, (by rw [ha.out]; exact putSel_upk 9 hb_ rfl rfl rfl), (by (with_reducible repeat (first | refine blk_drewN ?_ _ | refine blk_drew ?_ | refine blk_alloc ?_ _)); exact BK111.out), (by repeat (first | (with_reducible first | exact HB.out | apply below_alloc | apply pw_below_drewN | apply below_drew1 | refine below_set ?_ GE111.out) | exact HB.out)), z_HO118, Q_HA_HO118, Q_X23_⟩
                          refine steps_cons ?_ ?_
                          · rintro b a w' ⟨v117, adz_v117, m23_, ha, Q_BK111, Q_HB, Q_HO118, Q_HA_HO118, Q_X23_⟩ hb_ hon hoff
                            refine ⟨_, rfl, fun K hK => ?_⟩
                            have e12 : a.tmps[12]? = some (.string (((((⟨#[108, 101, 97, 100, 32]⟩ : ByteArray) ++ t112) ++ (⟨#[32, 97, 116, 32]⟩ : ByteArray)) ++ t113) ++ (⟨#[58, 32, 115, 105, 122, 101, 32]⟩ : ByteArray))) := by rw [ha]; exact putSel_on (e := (9, 12, .string (((((⟨#[108, 101, 97, 100, 32]⟩ : ByteArray) ++ t112) ++ (⟨#[32, 97, 116, 32]⟩ : ByteArray)) ++ t113) ++ (⟨#[58, 32, 115, 105, 122, 101, 32]⟩ : ByteArray)))) 7 rfl rfl (hon 9 (by kernel_rfl)) rfl
                            have e15 : a.tmps[15]? = some (.string t114) := by rw [ha]; exact putSel_on (e := (12, 15, .string t114)) 9 rfl rfl (hon 12 (by kernel_rfl)) rfl
                            replace ha := Aside0.mk ha
                            have BK111 := Aside0.mk Q_BK111
                            have HB := Aside0.mk Q_HB
                            refine value_ (w1 := w') (v := .string ((((((⟨#[108, 101, 97, 100, 32]⟩ : ByteArray) ++ t112) ++ (⟨#[32, 97, 116, 32]⟩ : ByteArray)) ++ t113) ++ (⟨#[58, 32, 115, 105, 122, 101, 32]⟩ : ByteArray)) ++ t114)) (by rfl) rfl ?_ ?_
                            · go_simp
                              (try simp only [i64_w])
                              try rfl
                              try (have e_ := c16; simp only [ByteArray.size_append, show (⟨#[108, 101, 97, 100, 32]⟩ : ByteArray).size = 5 from rfl, show (⟨#[32, 97, 116, 32]⟩ : ByteArray).size = 4 from rfl, show (⟨#[58, 32, 115, 105, 122, 101, 32]⟩ : ByteArray).size = 7 from rfl, show (⟨#[32, 101, 97, 115, 101, 32]⟩ : ByteArray).size = 6 from rfl, show (⟨#[111, 112, 101, 110]⟩ : ByteArray).size = 4 from rfl, show (⟨#[116, 97, 107, 101, 110]⟩ : ByteArray).size = 5 from rfl, show (⟨#[100, 111, 110, 101]⟩ : ByteArray).size = 4 from rfl, show (⟨#[101, 110, 100, 101, 100]⟩ : ByteArray).size = 5 from rfl, show (⟨#[32]⟩ : ByteArray).size = 1 from rfl] at e_; omega)
                            refine hK.out _ _ ⟨v117, adz_v117, m23_, (by rw [ha.out]; exact putSel_upk 10 hb_ rfl rfl rfl), Q_BK111, Q_HB, Q_HO118, Q_HA_HO118, Q_X23_⟩
                          refine steps_cons ?_ ?_
                          · rintro b a w' ⟨v117, adz_v117, m23_, ha, Q_BK111, Q_HB, Q_HO118, Q_HA_HO118, Q_X23_⟩ hb_ hon hoff
                            refine ⟨_, rfl, fun K hK => ?_⟩
                            have e16 : a.tmps[16]? = some (.string ((((((⟨#[108, 101, 97, 100, 32]⟩ : ByteArray) ++ t112) ++ (⟨#[32, 97, 116, 32]⟩ : ByteArray)) ++ t113) ++ (⟨#[58, 32, 115, 105, 122, 101, 32]⟩ : ByteArray)) ++ t114)) := by rw [ha]; exact putSel_on (e := (13, 16, .string ((((((⟨#[108, 101, 97, 100, 32]⟩ : ByteArray) ++ t112) ++ (⟨#[32, 97, 116, 32]⟩ : ByteArray)) ++ t113) ++ (⟨#[58, 32, 115, 105, 122, 101, 32]⟩ : ByteArray)) ++ t114))) 10 rfl rfl (hon 13 (by kernel_rfl)) rfl
                            replace ha := Aside0.mk ha
                            have BK111 := Aside0.mk Q_BK111
                            have HB := Aside0.mk Q_HB
                            refine value_ (w1 := w') (v := .string (((((((⟨#[108, 101, 97, 100, 32]⟩ : ByteArray) ++ t112) ++ (⟨#[32, 97, 116, 32]⟩ : ByteArray)) ++ t113) ++ (⟨#[58, 32, 115, 105, 122, 101, 32]⟩ : ByteArray)) ++ t114) ++ (⟨#[32, 101, 97, 115, 101, 32]⟩ : ByteArray))) (by rfl) rfl ?_ ?_
                            · go_simp
                              (try simp only [i64_w])
                              try rfl
                              try (have e_ := c16; simp only [ByteArray.size_append, show (⟨#[108, 101, 97, 100, 32]⟩ : ByteArray).size = 5 from rfl, show (⟨#[32, 97, 116, 32]⟩ : ByteArray).size = 4 from rfl, show (⟨#[58, 32, 115, 105, 122, 101, 32]⟩ : ByteArray).size = 7 from rfl, show (⟨#[32, 101, 97, 115, 101, 32]⟩ : ByteArray).size = 6 from rfl, show (⟨#[111, 112, 101, 110]⟩ : ByteArray).size = 4 from rfl, show (⟨#[116, 97, 107, 101, 110]⟩ : ByteArray).size = 5 from rfl, show (⟨#[100, 111, 110, 101]⟩ : ByteArray).size = 4 from rfl, show (⟨#[101, 110, 100, 101, 100]⟩ : ByteArray).size = 5 from rfl, show (⟨#[32]⟩ : ByteArray).size = 1 from rfl] at e_; omega)
                            refine hK.out _ _ ⟨v117, adz_v117, m23_, (by rw [ha.out]; exact putSel_upk 11 hb_ rfl rfl rfl), Q_BK111, Q_HB, Q_HO118, Q_HA_HO118, Q_X23_⟩
                          refine steps_cons ?_ ?_
                          · rintro b a w' ⟨v117, adz_v117, m23_, ha, Q_BK111, Q_HB, Q_HO118, Q_HA_HO118, Q_X23_⟩ hb_ hon hoff
                            refine ⟨_, rfl, fun K hK => ?_⟩
                            have e18 : a.tmps[18]? = some (.pointer (some ⟨gb111, 3, none⟩)) := by rw [ha]; exact (putSel_off rfl).trans rfl
                            replace ha := Aside0.mk ha
                            have BK111 := Aside0.mk Q_BK111
                            have HB := Aside0.mk Q_HB
                            have hc0_ : w'.cell? ⟨gb111, 0, none⟩ = some (.int .i64 a0_0) := (blk_cell BK111.out 0).trans rfl
                            have hc1_ : w'.cell? ⟨gb111, 1, none⟩ = some (.int .i64 a0_1) := (blk_cell BK111.out 1).trans rfl
                            have hc2_ : w'.cell? ⟨gb111, 2, none⟩ = some (.int .i64 a0_2) := (blk_cell BK111.out 2).trans rfl
                            have hc3_ : w'.cell? ⟨gb111, 3, none⟩ = some (.int .i64 a0_3) := (blk_cell BK111.out 3).trans rfl
                            have hc4_ : w'.cell? ⟨gb111, 4, none⟩ = some (.int .i64 a0_4) := (blk_cell BK111.out 4).trans rfl
                            refine value_ (w1 := w') (v := .int .i64 a0_3) (by rfl) rfl ?_ ?_
                            · go_simp
                              (try simp only [i64_w])
                              try rfl
                              try (have e_ := c16; simp only [ByteArray.size_append, show (⟨#[108, 101, 97, 100, 32]⟩ : ByteArray).size = 5 from rfl, show (⟨#[32, 97, 116, 32]⟩ : ByteArray).size = 4 from rfl, show (⟨#[58, 32, 115, 105, 122, 101, 32]⟩ : ByteArray).size = 7 from rfl, show (⟨#[32, 101, 97, 115, 101, 32]⟩ : ByteArray).size = 6 from rfl, show (⟨#[111, 112, 101, 110]⟩ : ByteArray).size = 4 from rfl, show (⟨#[116, 97, 107, 101, 110]⟩ : ByteArray).size = 5 from rfl, show (⟨#[100, 111, 110, 101]⟩ : ByteArray).size = 4 from rfl, show (⟨#[101, 110, 100, 101, 100]⟩ : ByteArray).size = 5 from rfl, show (⟨#[32]⟩ : ByteArray).size = 1 from rfl] at e_; omega)
                            refine hK.out _ _ ⟨v117, adz_v117, m23_, (by rw [ha.out]; exact putSel_upk 12 hb_ rfl rfl rfl), Q_BK111, Q_HB, Q_HO118, Q_HA_HO118, Q_X23_⟩
                          refine steps_cons ?_ ?_
                          · rintro b a w' ⟨v117, adz_v117, m23_, ha, Q_BK111, Q_HB, Q_HO118, Q_HA_HO118, Q_X23_⟩ hb_ hon hoff
                            refine ⟨_, rfl, fun K hK => ?_⟩
                            have e19 : a.tmps[19]? = some (.int .i64 a0_3) := by rw [ha]; exact putSel_on (e := (16, 19, .int .i64 a0_3)) 12 rfl rfl (hon 16 (by kernel_rfl)) rfl
                            replace ha := Aside0.mk ha
                            have BK111 := Aside0.mk Q_BK111
                            have HB := Aside0.mk Q_HB
                            refine goes_ Tryd.func48 (by kernel_rfl) rfl #[.int .i64 a0_3] (by rfl) rfl rfl (by first | (simp only [List.map_toArray, List.map_cons, List.map_nil, Act.eval, Array.getD_eq_getD_getElem?, Option.getD_some, e19]; done) | (simp only [List.map_toArray, List.map_cons, List.map_nil, Act.eval, Array.getD_eq_getD_getElem?, Option.getD_some, e19]; rfl)) ?_
                            with_reducible refine (spec_l1Num.calls k a0_3 t115 _ A11.out).mono ?_
                            rintro e w23 ⟨rfl, hb⟩
                            refine ⟨_, rfl, ?_⟩
                            have n0_ := Aside0.mk (blk_below (g := gb111) (o := .cells #[.int .i64 a0_0, .int .i64 a0_1, .int .i64 a0_2, .int .i64 a0_3, .int .i64 a0_4] 26 (0, 0)) (by (with_reducible repeat (first | refine blk_drewN ?_ _ | refine blk_drew ?_ | refine blk_alloc ?_ _)); exact BK111.out) hb)
                            have n1_ := Aside0.mk (below_step (by repeat (first | (with_reducible first | exact HB.out | apply below_alloc | apply pw_below_drewN | apply below_drew1 | refine below_set ?_ GE111.out) | exact HB.out)) hb)
                            have z_HO118 := fun (h0_ : b 20 = true) => (show Kd.R Kd.string 9 w23 w.heap.size (fun _ => True) v117 y116 from by first | exact (Kd.R_below (by (with_reducible repeat (first | apply Kd.R_alloc | apply Kd.R_drewN | apply Kd.R_drew)); exact (Q_HO118 h0_)) hb) | exact Kd.R_mono (Kd.R_below (by (with_reducible repeat (first | apply Kd.R_alloc | apply Kd.R_drewN | apply Kd.R_drew)); exact (Q_HO118 h0_)) hb) (fun _ h_ => by first | trivial | exact h_ | exact h_.1))
                            clear BK111
                            clear HB
                            have BK111 := n0_
                            have HB := n1_
                            clear n0_ n1_
                            (try clear hb)
                            (try clear hb2)
                            (try clear hk)
                            (try clear hi)
                            refine hK.out _ _ ⟨v117, adz_v117, m23_, (by rw [ha.out]; exact putSel_upk 13 hb_ rfl rfl rfl), (by (with_reducible repeat (first | refine blk_drewN ?_ _ | refine blk_drew ?_ | refine blk_alloc ?_ _)); exact BK111.out), (by repeat (first | (with_reducible first | exact HB.out | apply below_alloc | apply pw_below_drewN | apply below_drew1 | refine below_set ?_ GE111.out) | exact HB.out)), z_HO118, Q_HA_HO118, Q_X23_⟩
                          refine steps_cons ?_ ?_
                          · rintro b a w' ⟨v117, adz_v117, m23_, ha, Q_BK111, Q_HB, Q_HO118, Q_HA_HO118, Q_X23_⟩ hb_ hon hoff
                            refine ⟨_, rfl, fun K hK => ?_⟩
                            have e17 : a.tmps[17]? = some (.string (((((((⟨#[108, 101, 97, 100, 32]⟩ : ByteArray) ++ t112) ++ (⟨#[32, 97, 116, 32]⟩ : ByteArray)) ++ t113) ++ (⟨#[58, 32, 115, 105, 122, 101, 32]⟩ : ByteArray)) ++ t114) ++ (⟨#[32, 101, 97, 115, 101, 32]⟩ : ByteArray))) := by rw [ha]; exact putSel_on (e := (14, 17, .string (((((((⟨#[108, 101, 97, 100, 32]⟩ : ByteArray) ++ t112) ++ (⟨#[32, 97, 116, 32]⟩ : ByteArray)) ++ t113) ++ (⟨#[58, 32, 115, 105, 122, 101, 32]⟩ : ByteArray)) ++ t114) ++ (⟨#[32, 101, 97, 115, 101, 32]⟩ : ByteArray)))) 11 rfl rfl (hon 14 (by kernel_rfl)) rfl
                            have e20 : a.tmps[20]? = some (.string t115) := by rw [ha]; exact putSel_on (e := (17, 20, .string t115)) 13 rfl rfl (hon 17 (by kernel_rfl)) rfl
                            replace ha := Aside0.mk ha
                            have BK111 := Aside0.mk Q_BK111
                            have HB := Aside0.mk Q_HB
                            refine value_ (w1 := w') (v := .string ((((((((⟨#[108, 101, 97, 100, 32]⟩ : ByteArray) ++ t112) ++ (⟨#[32, 97, 116, 32]⟩ : ByteArray)) ++ t113) ++ (⟨#[58, 32, 115, 105, 122, 101, 32]⟩ : ByteArray)) ++ t114) ++ (⟨#[32, 101, 97, 115, 101, 32]⟩ : ByteArray)) ++ t115)) (by rfl) rfl ?_ ?_
                            · go_simp
                              (try simp only [i64_w])
                              try rfl
                              try (have e_ := c16; simp only [ByteArray.size_append, show (⟨#[108, 101, 97, 100, 32]⟩ : ByteArray).size = 5 from rfl, show (⟨#[32, 97, 116, 32]⟩ : ByteArray).size = 4 from rfl, show (⟨#[58, 32, 115, 105, 122, 101, 32]⟩ : ByteArray).size = 7 from rfl, show (⟨#[32, 101, 97, 115, 101, 32]⟩ : ByteArray).size = 6 from rfl, show (⟨#[111, 112, 101, 110]⟩ : ByteArray).size = 4 from rfl, show (⟨#[116, 97, 107, 101, 110]⟩ : ByteArray).size = 5 from rfl, show (⟨#[100, 111, 110, 101]⟩ : ByteArray).size = 4 from rfl, show (⟨#[101, 110, 100, 101, 100]⟩ : ByteArray).size = 5 from rfl, show (⟨#[32]⟩ : ByteArray).size = 1 from rfl] at e_; omega)
                            refine hK.out _ _ ⟨v117, adz_v117, m23_, (by rw [ha.out]; exact putSel_upk 14 hb_ rfl rfl rfl), Q_BK111, Q_HB, Q_HO118, Q_HA_HO118, Q_X23_⟩
                          refine steps_cons ?_ ?_
                          · rintro b a w' ⟨v117, adz_v117, m23_, ha, Q_BK111, Q_HB, Q_HO118, Q_HA_HO118, Q_X23_⟩ hb_ hon hoff
                            refine ⟨_, rfl, fun K hK => ?_⟩
                            have e21 : a.tmps[21]? = some (.string ((((((((⟨#[108, 101, 97, 100, 32]⟩ : ByteArray) ++ t112) ++ (⟨#[32, 97, 116, 32]⟩ : ByteArray)) ++ t113) ++ (⟨#[58, 32, 115, 105, 122, 101, 32]⟩ : ByteArray)) ++ t114) ++ (⟨#[32, 101, 97, 115, 101, 32]⟩ : ByteArray)) ++ t115)) := by rw [ha]; exact putSel_on (e := (18, 21, .string ((((((((⟨#[108, 101, 97, 100, 32]⟩ : ByteArray) ++ t112) ++ (⟨#[32, 97, 116, 32]⟩ : ByteArray)) ++ t113) ++ (⟨#[58, 32, 115, 105, 122, 101, 32]⟩ : ByteArray)) ++ t114) ++ (⟨#[32, 101, 97, 115, 101, 32]⟩ : ByteArray)) ++ t115))) 14 rfl rfl (hon 18 (by kernel_rfl)) rfl
                            replace ha := Aside0.mk ha
                            have BK111 := Aside0.mk Q_BK111
                            have HB := Aside0.mk Q_HB
                            refine value_ (w1 := w') (v := .string (((((((((⟨#[108, 101, 97, 100, 32]⟩ : ByteArray) ++ t112) ++ (⟨#[32, 97, 116, 32]⟩ : ByteArray)) ++ t113) ++ (⟨#[58, 32, 115, 105, 122, 101, 32]⟩ : ByteArray)) ++ t114) ++ (⟨#[32, 101, 97, 115, 101, 32]⟩ : ByteArray)) ++ t115) ++ (⟨#[32]⟩ : ByteArray))) (by rfl) rfl ?_ ?_
                            · go_simp
                              (try simp only [i64_w])
                              try rfl
                              try (have e_ := c16; simp only [ByteArray.size_append, show (⟨#[108, 101, 97, 100, 32]⟩ : ByteArray).size = 5 from rfl, show (⟨#[32, 97, 116, 32]⟩ : ByteArray).size = 4 from rfl, show (⟨#[58, 32, 115, 105, 122, 101, 32]⟩ : ByteArray).size = 7 from rfl, show (⟨#[32, 101, 97, 115, 101, 32]⟩ : ByteArray).size = 6 from rfl, show (⟨#[111, 112, 101, 110]⟩ : ByteArray).size = 4 from rfl, show (⟨#[116, 97, 107, 101, 110]⟩ : ByteArray).size = 5 from rfl, show (⟨#[100, 111, 110, 101]⟩ : ByteArray).size = 4 from rfl, show (⟨#[101, 110, 100, 101, 100]⟩ : ByteArray).size = 5 from rfl, show (⟨#[32]⟩ : ByteArray).size = 1 from rfl] at e_; omega)
                            refine hK.out _ _ ⟨v117, adz_v117, m23_, (by rw [ha.out]; exact putSel_upk 15 hb_ rfl rfl rfl), Q_BK111, Q_HB, Q_HO118, Q_HA_HO118, Q_X23_⟩
                          refine steps_cons ?_ ?_
                          · rintro b a w' ⟨v117, adz_v117, m23_, ha, Q_BK111, Q_HB, Q_HO118, Q_HA_HO118, Q_X23_⟩ hb_ hon hoff
                            refine ⟨_, rfl, fun K hK => ?_⟩
                            replace ha := Aside0.mk ha
                            have BK111 := Aside0.mk Q_BK111
                            have HB := Aside0.mk Q_HB
                            refine Kd.R_lit_step Kd.string _ 9 ?hg (N := 23) ?hd (xs := ([(⟨#[111, 112, 101, 110]⟩ : ByteArray), (⟨#[116, 97, 107, 101, 110]⟩ : ByteArray), (⟨#[100, 111, 110, 101]⟩ : ByteArray), (⟨#[101, 110, 100, 101, 100]⟩ : ByteArray)] : List ByteArray)) (inner := [.string (⟨#[111, 112, 101, 110]⟩ : ByteArray), .string (⟨#[116, 97, 107, 101, 110]⟩ : ByteArray), .string (⟨#[100, 111, 110, 101]⟩ : ByteArray), .string (⟨#[101, 110, 100, 101, 100]⟩ : ByteArray)]) (ok := fun _ => True) (okp := fun _ => True) ?hr ?hp (fun _ hk => hk) trivial (Below.refl _ _) (Nat.le_refl _) (by simp) ?_; (case hd => rfl); (case hg => rfl); (case hr => first | (go_simp; done) | (go_simp; rfl)); (case hp => exact (Reps.one (show Kd.M Kd.string _ _ _ (⟨#[111, 112, 101, 110]⟩ : ByteArray) [.string (⟨#[111, 112, 101, 110]⟩ : ByteArray)] from rfl) (Reps.one (show Kd.M Kd.string _ _ _ (⟨#[116, 97, 107, 101, 110]⟩ : ByteArray) [.string (⟨#[116, 97, 107, 101, 110]⟩ : ByteArray)] from rfl) (Reps.one (show Kd.M Kd.string _ _ _ (⟨#[100, 111, 110, 101]⟩ : ByteArray) [.string (⟨#[100, 111, 110, 101]⟩ : ByteArray)] from rfl) (Reps.one (show Kd.M Kd.string _ _ _ (⟨#[101, 110, 100, 101, 100]⟩ : ByteArray) [.string (⟨#[101, 110, 100, 101, 100]⟩ : ByteArray)] from rfl) (Reps.none _ _))))))
                            intro v117 w19 ho20 hb hg_ hnew_
                            clear hg_ hnew_
                            (first | rw [← Ny116.out] at ho20 | (simp only [Int.reduceToNat] at ho20; rw [← Ny116.out] at ho20))
                            have n0_ := Aside0.mk (Kd.R_lower ho20 (below_size (by repeat (first | (with_reducible first | exact HB.out | apply below_alloc | apply pw_below_drewN | apply below_drew1 | refine below_set ?_ GE111.out) | exact HB.out))))
                            have n1_ := Aside0.mk (blk_below (g := gb111) (o := .cells #[.int .i64 a0_0, .int .i64 a0_1, .int .i64 a0_2, .int .i64 a0_3, .int .i64 a0_4] 26 (0, 0)) (by (with_reducible repeat (first | refine blk_drewN ?_ _ | refine blk_drew ?_ | refine blk_alloc ?_ _)); exact BK111.out) hb)
                            have n2_ := Aside0.mk (below_step (by repeat (first | (with_reducible first | exact HB.out | apply below_alloc | apply pw_below_drewN | apply below_drew1 | refine below_set ?_ GE111.out) | exact HB.out)) hb)
                            clear BK111
                            clear HB
                            have HO118 := n0_
                            have BK111 := n1_
                            have HB := n2_
                            clear n0_ n1_ n2_
                            clear hb ho20
                            obtain ⟨Ao21, co21, eo21⟩ := Kd.R_slice HO118.out
                            subst eo21
                            obtain ⟨ado21, fo21, _⟩ := Kd.at_string (Kd.R_reads' HO118.out).2.2 0 (by decide) (by rw [Ny116.out]; simp)
                            cases fo21
                            refine hK.out _ _ ⟨.slice (some ado21) y116.length co21, ado21, m23_, (by rw [ha.out]; exact putSel_upk 16 hb_ rfl rfl rfl), (by (with_reducible repeat (first | refine blk_drewN ?_ _ | refine blk_drew ?_ | refine blk_alloc ?_ _)); exact BK111.out), (by repeat (first | (with_reducible first | exact HB.out | apply below_alloc | apply pw_below_drewN | apply below_drew1 | refine below_set ?_ GE111.out) | exact HB.out)), fun _ => (by (with_reducible repeat (first | apply Kd.R_alloc | apply Kd.R_drewN | apply Kd.R_drew)); exact HO118.out), fun _ => ⟨_, rfl⟩, fun h0_ => absurd ((hoff 23 (by kernel_rfl)).symm.trans h0_) (by decide)⟩
                          refine steps_cons ?_ ?_
                          · rintro b a w' ⟨v117, adz_v117, m23_, ha, Q_BK111, Q_HB, Q_HO118, Q_HA_HO118, Q_X23_⟩ hb_ hon hoff
                            refine ⟨_, rfl, fun K hK => ?_⟩
                            have e24 : a.tmps[24]? = some (.pointer (some ⟨gb111, 4, none⟩)) := by rw [ha]; exact (putSel_off rfl).trans rfl
                            replace ha := Aside0.mk ha
                            have BK111 := Aside0.mk Q_BK111
                            have HB := Aside0.mk Q_HB
                            have hc0_ : w'.cell? ⟨gb111, 0, none⟩ = some (.int .i64 a0_0) := (blk_cell BK111.out 0).trans rfl
                            have hc1_ : w'.cell? ⟨gb111, 1, none⟩ = some (.int .i64 a0_1) := (blk_cell BK111.out 1).trans rfl
                            have hc2_ : w'.cell? ⟨gb111, 2, none⟩ = some (.int .i64 a0_2) := (blk_cell BK111.out 2).trans rfl
                            have hc3_ : w'.cell? ⟨gb111, 3, none⟩ = some (.int .i64 a0_3) := (blk_cell BK111.out 3).trans rfl
                            have hc4_ : w'.cell? ⟨gb111, 4, none⟩ = some (.int .i64 a0_4) := (blk_cell BK111.out 4).trans rfl
                            refine value_ (w1 := w') (v := .int .i64 a0_4) (by rfl) rfl ?_ ?_
                            · go_simp
                              (try simp only [i64_w])
                              try rfl
                              try (have e_ := c16; simp only [ByteArray.size_append, show (⟨#[108, 101, 97, 100, 32]⟩ : ByteArray).size = 5 from rfl, show (⟨#[32, 97, 116, 32]⟩ : ByteArray).size = 4 from rfl, show (⟨#[58, 32, 115, 105, 122, 101, 32]⟩ : ByteArray).size = 7 from rfl, show (⟨#[32, 101, 97, 115, 101, 32]⟩ : ByteArray).size = 6 from rfl, show (⟨#[111, 112, 101, 110]⟩ : ByteArray).size = 4 from rfl, show (⟨#[116, 97, 107, 101, 110]⟩ : ByteArray).size = 5 from rfl, show (⟨#[100, 111, 110, 101]⟩ : ByteArray).size = 4 from rfl, show (⟨#[101, 110, 100, 101, 100]⟩ : ByteArray).size = 5 from rfl, show (⟨#[32]⟩ : ByteArray).size = 1 from rfl] at e_; omega)
                            refine hK.out _ _ ⟨v117, adz_v117, m23_, (by rw [ha.out]; exact putSel_upk 17 hb_ rfl rfl rfl), Q_BK111, Q_HB, Q_HO118, Q_HA_HO118, fun h0_ => absurd ((hoff 23 (by kernel_rfl)).symm.trans h0_) (by decide)⟩
                          refine steps_cons ?_ ?_
                          · rintro b a w' ⟨v117, adz_v117, m23_, ha, Q_BK111, Q_HB, Q_HO118, Q_HA_HO118, Q_X23_⟩ hb_ hon hoff
                            refine ⟨_, rfl, fun K hK => ?_⟩
                            have e23 : a.tmps[23]? = some (v117) := by rw [ha]; exact putSel_on (e := (20, 23, v117)) 16 rfl rfl (hon 20 (by kernel_rfl)) rfl
                            have e25 : a.tmps[25]? = some (.int .i64 a0_4) := by rw [ha]; exact putSel_on (e := (22, 25, .int .i64 a0_4)) 17 rfl rfl (hon 22 (by kernel_rfl)) rfl
                            replace ha := Aside0.mk ha
                            have BK111 := Aside0.mk Q_BK111
                            have HB := Aside0.mk Q_HB
                            have HO118 := Aside0.mk (Q_HO118 (hon 20 (by kernel_rfl)))
                            have HA_HO118 := Aside0.mk (Q_HA_HO118 (hon 20 (by kernel_rfl)))
                            obtain ⟨c_, hv_⟩ := HA_HO118.out
                            rw [hv_] at e23
                            refine value_ (w1 := w') (v := .pointer (some (adz_v117.add (a0_4).toNat))) (by rfl) rfl ?_ ?_
                            · go_simp
                              (try simp only [i64_w])
                              try rfl
                              try (have e_ := c16; simp only [ByteArray.size_append, show (⟨#[108, 101, 97, 100, 32]⟩ : ByteArray).size = 5 from rfl, show (⟨#[32, 97, 116, 32]⟩ : ByteArray).size = 4 from rfl, show (⟨#[58, 32, 115, 105, 122, 101, 32]⟩ : ByteArray).size = 7 from rfl, show (⟨#[32, 101, 97, 115, 101, 32]⟩ : ByteArray).size = 6 from rfl, show (⟨#[111, 112, 101, 110]⟩ : ByteArray).size = 4 from rfl, show (⟨#[116, 97, 107, 101, 110]⟩ : ByteArray).size = 5 from rfl, show (⟨#[100, 111, 110, 101]⟩ : ByteArray).size = 4 from rfl, show (⟨#[101, 110, 100, 101, 100]⟩ : ByteArray).size = 5 from rfl, show (⟨#[32]⟩ : ByteArray).size = 1 from rfl] at e_; omega)
                            refine hK.out _ _ ⟨v117, adz_v117, (.pointer (some (adz_v117.add (a0_4).toNat))), (by rw [ha.out]; exact putSel_upk 18 hb_ rfl rfl rfl), Q_BK111, Q_HB, Q_HO118, Q_HA_HO118, fun _ => rfl⟩
                          refine steps_cons ?_ ?_
                          · rintro b a w' ⟨v117, adz_v117, m23_, ha, Q_BK111, Q_HB, Q_HO118, Q_HA_HO118, Q_X23_⟩ hb_ hon hoff
                            refine ⟨_, rfl, fun K hK => ?_⟩
                            have e26 : a.tmps[26]? = some (m23_) := by rw [ha]; exact putSel_on (e := (23, 26, m23_)) 18 rfl rfl (hon 23 (by kernel_rfl)) rfl
                            rw [Q_X23_ (hon 23 (by kernel_rfl))] at e26
                            replace ha := Aside0.mk ha
                            have BK111 := Aside0.mk Q_BK111
                            have HB := Aside0.mk Q_HB
                            have HO118 := Aside0.mk (Q_HO118 (hon 20 (by kernel_rfl)))
                            have HA_HO118 := Aside0.mk (Q_HA_HO118 (hon 20 (by kernel_rfl)))
                            obtain ⟨c_, hv_⟩ := HA_HO118.out
                            have hF_ := HO118.out
                            rw [hv_] at hF_
                            obtain ⟨ad_, ea_, hx_⟩ := Kd.at_string (Kd.R_reads' hF_).2.2 a0_4 (of_eq_true pi119) (of_eq_true qi119)
                            cases ea_
                            refine value_ (w1 := w') (v := .string (rdOf ByteArray.empty y116 a0_4)) (by rfl) rfl ?_ ?_
                            · go_simp
                              (try simp only [i64_w])
                              try rfl
                              try (have e_ := c16; simp only [ByteArray.size_append, show (⟨#[108, 101, 97, 100, 32]⟩ : ByteArray).size = 5 from rfl, show (⟨#[32, 97, 116, 32]⟩ : ByteArray).size = 4 from rfl, show (⟨#[58, 32, 115, 105, 122, 101, 32]⟩ : ByteArray).size = 7 from rfl, show (⟨#[32, 101, 97, 115, 101, 32]⟩ : ByteArray).size = 6 from rfl, show (⟨#[111, 112, 101, 110]⟩ : ByteArray).size = 4 from rfl, show (⟨#[116, 97, 107, 101, 110]⟩ : ByteArray).size = 5 from rfl, show (⟨#[100, 111, 110, 101]⟩ : ByteArray).size = 4 from rfl, show (⟨#[101, 110, 100, 101, 100]⟩ : ByteArray).size = 5 from rfl, show (⟨#[32]⟩ : ByteArray).size = 1 from rfl] at e_; omega)
                            refine hK.out _ _ ⟨v117, adz_v117, m23_, (by rw [ha.out]; exact putSel_upk 19 hb_ rfl rfl rfl), Q_BK111, Q_HB, Q_HO118, Q_HA_HO118, Q_X23_⟩
                          refine steps_cons ?_ ?_
                          · rintro b a w' ⟨v117, adz_v117, m23_, ha, Q_BK111, Q_HB, Q_HO118, Q_HA_HO118, Q_X23_⟩ hb_ hon hoff
                            refine ⟨_, rfl, fun K hK => ?_⟩
                            have e22 : a.tmps[22]? = some (.string (((((((((⟨#[108, 101, 97, 100, 32]⟩ : ByteArray) ++ t112) ++ (⟨#[32, 97, 116, 32]⟩ : ByteArray)) ++ t113) ++ (⟨#[58, 32, 115, 105, 122, 101, 32]⟩ : ByteArray)) ++ t114) ++ (⟨#[32, 101, 97, 115, 101, 32]⟩ : ByteArray)) ++ t115) ++ (⟨#[32]⟩ : ByteArray))) := by rw [ha]; exact putSel_on (e := (19, 22, .string (((((((((⟨#[108, 101, 97, 100, 32]⟩ : ByteArray) ++ t112) ++ (⟨#[32, 97, 116, 32]⟩ : ByteArray)) ++ t113) ++ (⟨#[58, 32, 115, 105, 122, 101, 32]⟩ : ByteArray)) ++ t114) ++ (⟨#[32, 101, 97, 115, 101, 32]⟩ : ByteArray)) ++ t115) ++ (⟨#[32]⟩ : ByteArray)))) 15 rfl rfl (hon 19 (by kernel_rfl)) rfl
                            have e27 : a.tmps[27]? = some (.string (rdOf ByteArray.empty y116 a0_4)) := by rw [ha]; exact putSel_on (e := (24, 27, .string (rdOf ByteArray.empty y116 a0_4))) 19 rfl rfl (hon 24 (by kernel_rfl)) rfl
                            replace ha := Aside0.mk ha
                            have BK111 := Aside0.mk Q_BK111
                            have HB := Aside0.mk Q_HB
                            have HO118 := Aside0.mk (Q_HO118 (hon 20 (by kernel_rfl)))
                            have HA_HO118 := Aside0.mk (Q_HA_HO118 (hon 20 (by kernel_rfl)))
                            refine value_ (w1 := w') (v := .string ((((((((((⟨#[108, 101, 97, 100, 32]⟩ : ByteArray) ++ t112) ++ (⟨#[32, 97, 116, 32]⟩ : ByteArray)) ++ t113) ++ (⟨#[58, 32, 115, 105, 122, 101, 32]⟩ : ByteArray)) ++ t114) ++ (⟨#[32, 101, 97, 115, 101, 32]⟩ : ByteArray)) ++ t115) ++ (⟨#[32]⟩ : ByteArray)) ++ (rdOf ByteArray.empty y116 a0_4))) (by rfl) rfl ?_ ?_
                            · go_simp
                              (try simp only [i64_w])
                              try rfl
                              try (have e_ := c16; simp only [ByteArray.size_append, show (⟨#[108, 101, 97, 100, 32]⟩ : ByteArray).size = 5 from rfl, show (⟨#[32, 97, 116, 32]⟩ : ByteArray).size = 4 from rfl, show (⟨#[58, 32, 115, 105, 122, 101, 32]⟩ : ByteArray).size = 7 from rfl, show (⟨#[32, 101, 97, 115, 101, 32]⟩ : ByteArray).size = 6 from rfl, show (⟨#[111, 112, 101, 110]⟩ : ByteArray).size = 4 from rfl, show (⟨#[116, 97, 107, 101, 110]⟩ : ByteArray).size = 5 from rfl, show (⟨#[100, 111, 110, 101]⟩ : ByteArray).size = 4 from rfl, show (⟨#[101, 110, 100, 101, 100]⟩ : ByteArray).size = 5 from rfl, show (⟨#[32]⟩ : ByteArray).size = 1 from rfl] at e_; omega)
                            refine hK.out _ _ ⟨v117, adz_v117, m23_, (by rw [ha.out]; exact putSel_upk 20 hb_ rfl rfl rfl), Q_BK111, Q_HB, Q_HO118, Q_HA_HO118, Q_X23_⟩
                          refine steps_cons ?_ ?_
                          · rintro b a w' ⟨v117, adz_v117, m23_, ha, Q_BK111, Q_HB, Q_HO118, Q_HA_HO118, Q_X23_⟩ hb_ hon hoff
                            refine ⟨_, rfl, fun K hK => ?_⟩
                            have e28 : a.tmps[28]? = some (.string ((((((((((⟨#[108, 101, 97, 100, 32]⟩ : ByteArray) ++ t112) ++ (⟨#[32, 97, 116, 32]⟩ : ByteArray)) ++ t113) ++ (⟨#[58, 32, 115, 105, 122, 101, 32]⟩ : ByteArray)) ++ t114) ++ (⟨#[32, 101, 97, 115, 101, 32]⟩ : ByteArray)) ++ t115) ++ (⟨#[32]⟩ : ByteArray)) ++ (rdOf ByteArray.empty y116 a0_4))) := by rw [ha]; exact putSel_on (e := (25, 28, .string ((((((((((⟨#[108, 101, 97, 100, 32]⟩ : ByteArray) ++ t112) ++ (⟨#[32, 97, 116, 32]⟩ : ByteArray)) ++ t113) ++ (⟨#[58, 32, 115, 105, 122, 101, 32]⟩ : ByteArray)) ++ t114) ++ (⟨#[32, 101, 97, 115, 101, 32]⟩ : ByteArray)) ++ t115) ++ (⟨#[32]⟩ : ByteArray)) ++ (rdOf ByteArray.empty y116 a0_4)))) 20 rfl rfl (hon 25 (by kernel_rfl)) rfl
                            replace ha := Aside0.mk ha
                            have BK111 := Aside0.mk Q_BK111
                            have HB := Aside0.mk Q_HB
                            have HO118 := Aside0.mk (Q_HO118 (hon 20 (by kernel_rfl)))
                            have HA_HO118 := Aside0.mk (Q_HA_HO118 (hon 20 (by kernel_rfl)))
                            refine value_ (w1 := w') (v := .string ((((((((((⟨#[108, 101, 97, 100, 32]⟩ : ByteArray) ++ t112) ++ (⟨#[32, 97, 116, 32]⟩ : ByteArray)) ++ t113) ++ (⟨#[58, 32, 115, 105, 122, 101, 32]⟩ : ByteArray)) ++ t114) ++ (⟨#[32, 101, 97, 115, 101, 32]⟩ : ByteArray)) ++ t115) ++ (⟨#[32]⟩ : ByteArray)) ++ (rdOf ByteArray.empty y116 a0_4))) (by rfl) rfl ?_ ?_
                            · go_simp
                              (try simp only [i64_w])
                              try rfl
                              try (have e_ := c16; simp only [ByteArray.size_append, show (⟨#[108, 101, 97, 100, 32]⟩ : ByteArray).size = 5 from rfl, show (⟨#[32, 97, 116, 32]⟩ : ByteArray).size = 4 from rfl, show (⟨#[58, 32, 115, 105, 122, 101, 32]⟩ : ByteArray).size = 7 from rfl, show (⟨#[32, 101, 97, 115, 101, 32]⟩ : ByteArray).size = 6 from rfl, show (⟨#[111, 112, 101, 110]⟩ : ByteArray).size = 4 from rfl, show (⟨#[116, 97, 107, 101, 110]⟩ : ByteArray).size = 5 from rfl, show (⟨#[100, 111, 110, 101]⟩ : ByteArray).size = 4 from rfl, show (⟨#[101, 110, 100, 101, 100]⟩ : ByteArray).size = 5 from rfl, show (⟨#[32]⟩ : ByteArray).size = 1 from rfl] at e_; omega)
                            refine hK.out _ _ ⟨v117, adz_v117, m23_, (by rw [ha.out]; exact putSel_upk 21 hb_ rfl rfl rfl), Q_BK111, Q_HB, Q_HO118, Q_HA_HO118, Q_X23_⟩
                          exact steps_nil
                        rintro b a w26 hall ⟨v117, adz_v117, m23_, ha, Q_BK111, Q_HB, Q_HO118, Q_HA_HO118, Q_X23_⟩
                        clear BK111 HB
                        have hb1_ := hall 1 (by kernel_rfl)
                        have hb2_ := hall 2 (by kernel_rfl)
                        have hb3_ := hall 3 (by kernel_rfl)
                        have hb4_ := hall 4 (by kernel_rfl)
                        have hb6_ := hall 6 (by kernel_rfl)
                        have hb7_ := hall 7 (by kernel_rfl)
                        have hb8_ := hall 8 (by kernel_rfl)
                        have hb9_ := hall 9 (by kernel_rfl)
                        have hb11_ := hall 11 (by kernel_rfl)
                        have hb12_ := hall 12 (by kernel_rfl)
                        have hb13_ := hall 13 (by kernel_rfl)
                        have hb14_ := hall 14 (by kernel_rfl)
                        have hb16_ := hall 16 (by kernel_rfl)
                        have hb17_ := hall 17 (by kernel_rfl)
                        have hb18_ := hall 18 (by kernel_rfl)
                        have hb19_ := hall 19 (by kernel_rfl)
                        have hb20_ := hall 20 (by kernel_rfl)
                        have hb22_ := hall 22 (by kernel_rfl)
                        have hb23_ := hall 23 (by kernel_rfl)
                        have hb24_ := hall 24 (by kernel_rfl)
                        have hb25_ := hall 25 (by kernel_rfl)
                        have hb26_ := hall 26 (by kernel_rfl)
                        subst ha
                        obtain rfl := Q_X23_ hb23_
                        simp only [putSel, hb1_, hb2_, hb3_, hb4_, hb6_, hb7_, hb8_, hb9_, hb11_, hb12_, hb13_, hb14_, hb16_, hb17_, hb18_, hb19_, hb20_, hb22_, hb23_, hb24_, hb25_, hb26_, if_true, Act.put, List.setIfInBounds_toArray, List.set_cons_zero, List.set_cons_succ]
                        have BK111 := Aside0.mk Q_BK111
                        clear Q_BK111
                        have HB := Aside0.mk Q_HB
                        clear Q_HB
                        have HO118 := Aside0.mk (Q_HO118 hb20_)
                        clear Q_HO118
                        have HA_HO118 := Aside0.mk (Q_HA_HO118 hb20_)
                        clear Q_HA_HO118
                        clear hall hb1_ hb2_ hb3_ hb4_ hb6_ hb7_ hb8_ hb9_ hb11_ hb12_ hb13_ hb14_ hb16_ hb17_ hb18_ hb19_ hb20_ hb22_ hb23_ hb24_ hb25_ hb26_
                        obtain ⟨co27, eo27⟩ := HA_HO118.out
                        clear HA_HO118
                        subst eo27
                        try go_wp2
                        go_ret
                        exact ⟨by first | rfl | (simp [errW_none, errW_some] <;> rfl) | (simp [*, errW_none, errW_some] <;> rfl), by repeat (first | (with_reducible first | exact HB.out | apply below_alloc | apply pw_below_drewN | apply below_drew1 | refine below_set ?_ GE111.out) | exact HB.out)⟩
                      · rw [if_neg c16] at H
                        exact absurd H (by simp)
                    · rw [if_neg c15] at H
                      exact absurd H (by simp)
                  · rw [if_neg c14] at H
                    exact absurd H (by simp)
                · rw [if_neg c13] at H
                  exact absurd H (by simp)
              · rw [if_neg c12] at H
                exact absurd H (by simp)
            · rw [if_neg c10] at H
              exact absurd H (by simp)
          · rw [if_neg c9] at H
            exact absurd H (by simp)
        · rw [if_neg c7] at H
          exact absurd H (by simp)
      · rw [if_neg c6] at H
        exact absurd H (by simp)
    · rw [if_neg c4] at H
      exact absurd H (by simp)
  · rw [if_neg c3] at H
    exact absurd H (by simp)

/-! ### spec_l1Split: function 27 -/
def spec_l1Split.l0 : Nat → ByteArray → Int → List ByteArray → Int → Int → Option (List ByteArray)
  | 0, _, _, _, _, _ => none
  | k + 1, x0, x1, x5, x6, x7 => if x7 < (x0.size : Int) then (if 0 ≤ x7 then (if (bt x0 x7) = x1 then (if 0 ≤ x6 then (if x6 ≤ x7 then (if x7 ≤ (x0.size : Int) then (if x5.length < 8796093022208 then (spec_l1Split.l0 k x0 x1 (x5 ++ [x0.extract (x6 : Int).toNat (x7 : Int).toNat]) (wrap64 (x7 + 1)) (wrap64 (x7 + 1))) else (none)) else (none)) else (none)) else (none)) else (spec_l1Split.l0 k x0 x1 x5 x6 (wrap64 (x7 + 1)))) else (none)) else (if 0 ≤ x6 then (if x6 ≤ (x0.size : Int) then (if x5.length < 8796093022208 then (some (x5 ++ [x0.extract (x6 : Int).toNat x0.size])) else (none)) else (none)) else (none))
def spec_l1Split.f (k : Nat) (a0 : ByteArray) (a1 : Int) : Option (List ByteArray) := spec_l1Split.l0 k a0 a1 (([] : List ByteArray)) 0 0
theorem spec_l1Split.mono_l : ∀ k, (∀ y0 y1 y2 y3 y4, LeO (spec_l1Split.l0 k y0 y1 y2 y3 y4) (spec_l1Split.l0 (k + 1) y0 y1 y2 y3 y4))
  | 0 => fun _ _ _ _ _ r h => by simp [spec_l1Split.l0] at h
  | k + 1 => by
    have ih0 := spec_l1Split.mono_l k
    · intro y0 y1 y2 y3 y4
      unfold spec_l1Split.l0
      repeat' first
      | (with_reducible exact ih0 _ _ _ _ _)
      | (with_reducible exact LeO.refl _)
      | (with_reducible exact LeO.none _)
      | (with_reducible refine LeO.ite ?_ ?_)
      | (with_reducible refine LeO.bind ?_ (fun _ => ?_))
      | exact ih0 _ _ _ _ _
      | exact LeO.none _
      | refine LeO.ite ?_ ?_
      | refine LeO.bind ?_ (fun _ => ?_)
theorem spec_l1Split.mono : ∀ a0 a1 k, LeO (spec_l1Split.f k a0 a1) (spec_l1Split.f (k + 1) a0 a1) := by
  intro a0 a1 k
  have ih0 := spec_l1Split.mono_l k
  unfold spec_l1Split.f
  repeat' first
      | (with_reducible exact ih0 _ _ _ _ _)
      | (with_reducible exact LeO.refl _)
      | (with_reducible exact LeO.none _)
      | (with_reducible refine LeO.ite ?_ ?_)
      | (with_reducible refine LeO.bind ?_ (fun _ => ?_))
      | exact ih0 _ _ _ _ _
      | exact LeO.none _
      | refine LeO.ite ?_ ?_
      | refine LeO.bind ?_ (fun _ => ?_)
set_option maxHeartbeats 8000000 in
set_option maxRecDepth 100000 in
theorem spec_l1Split.calls (k : Nat) (a0 : ByteArray) (a1 : Int) (r : List ByteArray) (w : World) (h : spec_l1Split.f k a0 a1 = some r) :
    Calls Tryd.prog 27 #[.string a0, .int .u8 a1] w fun e w' => ∃ v0_ : Value, e = .returned (v0_) ∧ Kd.R Kd.string 9 w' w.heap.size (fun _ => True) v0_ r ∧ Below w.heap.size w w' := by
  have HB := Aside0.mk (Below.refl w.heap.size w)
  have H : (spec_l1Split.l0 k a0 a1 (([] : List ByteArray)) 0 0) = some r := h
  clear h
  obtain ⟨y120, hy120⟩ : ∃ y_ : List ByteArray, y_ = (([] : List ByteArray)) := ⟨_, rfl⟩
  replace H : (spec_l1Split.l0 k a0 a1 y120 0 0) = some r := by first | (rw [hy120]; with_reducible exact H) | (have H2_ := (Option.bind_some _ _).symm.trans H; rw [hy120]; with_reducible exact H2_) | (have H2_ := (Option.bind_some _ _).symm.trans H; with_reducible exact H2_) | with_reducible exact H | (rw [hy120]; exact H) | exact H
  have Ny120 := Aside0.mk hy120
  clear hy120
  have H' := Aside0.mk H
  clear H
  go_enter Tryd.func27, Tryd.ntmps27
  go_wp2_with (first | ((with_reducible refine gate_dst (N := 8) rfl ?_); refine Kd.R_lit Kd.string _ 9 ?hg (N := 8) ?hd (xs := ([] : List ByteArray)) (inner := []) (ok := fun _ => True) (okp := fun _ => True) ?hr ?hp (fun _ hk => hk) trivial (Below.refl _ _) (Nat.le_refl _) (by simp) ?_; (case hd => rfl); (case hg => rfl); (case hr => first | (go_simp; done) | (go_simp; rfl)); (case hp => exact (Reps.none _ _)); intro v121 w3 ho4 hb hg_ hnew_; clear hg_ hnew_; (first | rw [← Ny120.out] at ho4 | (simp only [Int.reduceToNat] at ho4; rw [← Ny120.out] at ho4)); have n0_ := Aside0.mk (Kd.R_lower ho4 (below_size (by repeat (first | (with_reducible first | exact HB.out | apply below_alloc | apply pw_below_drewN | apply below_drew1) | exact HB.out)))); have n1_ := Aside0.mk (below_step (by repeat (first | (with_reducible first | exact HB.out | apply below_alloc | apply pw_below_drewN | apply below_drew1) | exact HB.out)) hb); clear HB; have HO122 := n0_; have HB := n1_; clear n0_ n1_; clear hb ho4))
  go_loopg [5, 6, 7] k (fun kq v5 v6 v7 w' => ∃ (x5_1 : List ByteArray) (x6_1 : Int) (x7_1 : Int), v6 = .int .i64 x6_1 ∧ v7 = .int .i64 x7_1 ∧ Aside0 (spec_l1Split.l0 kq a0 a1 x5_1 x6_1 x7_1 = some r) ∧ Aside0 (kq ≤ k) ∧ Aside0 (Kd.R Kd.string 9 w' w.heap.size (fun _ => True) v5 x5_1) ∧ Aside0 (Below w.heap.size w w'))
  case atStart => exact ⟨(y120), (0), (0), (by first | rfl | (simp; done) | (simp [*]; done)), (by first | rfl | (simp; done) | (simp [*]; done)), H', ⟨Nat.le_refl _⟩, ⟨by (with_reducible repeat (first | apply Kd.R_alloc | apply Kd.R_drewN | apply Kd.R_drew)); exact HO122.out⟩, ⟨by repeat (first | (with_reducible first | exact HB.out | apply below_alloc | apply pw_below_drewN | apply below_drew1) | exact HB.out)⟩⟩
  case round =>
    clear H'
    try clear c2
    try clear p2
    obtain ⟨x5_1, x6_1, x7_1, rfl, rfl, HA, HK1, HO_5, HB⟩ := hrel
    cases gk with
    | zero => exact absurd HA.out (by simp [spec_l1Split.l0])
    | succ k1 =>
      have H := HA.out
      clear HA
      simp only [spec_l1Split.l0] at H
      by_cases c5 : x7_1 < (a0.size : Int)
      · rw [if_pos c5] at H
        have c5b0 : decide (x7_1 < (a0.size : Int)) = true := decide_eq_true c5
        clear c5
        by_cases c6 : 0 ≤ x7_1
        · rw [if_pos c6] at H
          have c6b0 : decide (0 ≤ x7_1) = true := decide_eq_true c6
          clear c6
          by_cases c8 : (bt a0 x7_1) = a1
          · rw [if_pos c8] at H
            have c8b0 : ((bt a0 x7_1) == a1) = true := beq_iff_eq.mpr c8
            have c8b1 : ((bt a0 x7_1) != a1) = false := bne_eq_false_iff_eq.mpr c8
            clear c8
            by_cases c9 : 0 ≤ x6_1
            · rw [if_pos c9] at H
              have c9b0 := eq_true c9
              have c9b1 : decide (0 ≤ x6_1) = true := decide_eq_true c9
              clear c9
              by_cases c10 : x6_1 ≤ x7_1
              · rw [if_pos c10] at H
                have c10b0 := eq_true c10
                have c10b1 : decide (x6_1 ≤ x7_1) = true := decide_eq_true c10
                clear c10
                by_cases c11 : x7_1 ≤ (a0.size : Int)
                · rw [if_pos c11] at H
                  have c11b0 := eq_true c11
                  have c11b1 : decide (x7_1 ≤ (a0.size : Int)) = true := decide_eq_true c11
                  clear c11
                  by_cases c12 : x5_1.length < 8796093022208
                  · rw [if_pos c12] at H
                    have LMc12 := Aside0.mk c12
                    clear c12
                    obtain ⟨y123, hy123⟩ : ∃ y_ : List ByteArray, y_ = (x5_1 ++ [a0.extract (x6_1 : Int).toNat (x7_1 : Int).toNat]) := ⟨_, rfl⟩
                    replace H : (spec_l1Split.l0 k1 a0 a1 y123 (wrap64 (x7_1 + 1)) (wrap64 (x7_1 + 1))) = some r := by first | (rw [hy123]; with_reducible exact H) | (have H2_ := (Option.bind_some _ _).symm.trans H; rw [hy123]; with_reducible exact H2_) | (have H2_ := (Option.bind_some _ _).symm.trans H; with_reducible exact H2_) | with_reducible exact H | (rw [hy123]; exact H) | exact H
                    have Ny123 := Aside0.mk hy123
                    clear hy123
                    have H' := Aside0.mk H
                    clear H
                    have p7 : 0 ≤ (x7_1 : Int) := of_decide_eq_true (by first | (with_reducible assumption) | assumption)
                    have q7 : x7_1 < (a0.size : Int) := of_decide_eq_true (by first | (with_reducible assumption) | assumption)
                    have hx7 := bt_at a0 x7_1
                    replace p7 := eq_true p7
                    replace q7 := eq_true q7
                    go_wp2_with (first | ((with_reducible refine gate_builtin (b := .append) (xs := #[.tmp 20, .tmp 25]) rfl ?_); at_builtin; refine Kd.R_append Kd.string (w0 := w) w.heap.size rfl (.tmp 20) (.tmp 25) 49 9 (.string ⟨#[]⟩) 16 rfl Tryd.underlying49 info9 rfl (by decide) (by omega) u5 x5_1 (a0.extract (x6_1 : Int).toNat (x7_1 : Int).toNat) [.string (a0.extract (x6_1 : Int).toNat (x7_1 : Int).toNat)] (fun _ => True) (fun _ => False) rfl rfl ?aP (fun _ hk => hk.elim) ?aF ?aO ?aB ?aS ?aL ?_; (case aP => exact rfl); (case aB => exact (by repeat (first | (with_reducible first | exact HB.out | apply below_alloc | apply pw_below_drewN | apply below_drew1) | exact HB.out))); (case aF => exact (fun _ _ => trivial)); (case aO => exact (by (with_reducible repeat (first | apply Kd.R_alloc | apply Kd.R_drewN | apply Kd.R_drew)); exact HO_5.out)); (case aS => exact (below_size (by repeat (first | (with_reducible first | exact HB.out | apply below_alloc | apply pw_below_drewN | apply below_drew1) | exact HB.out)))); (case aL => have := LMc12.out; omega); intro v124 w13 ho hb hg hat; rw [← Ny123.out] at ho; have n0_ := Aside0.mk (hb); have n1_ := Aside0.mk (ho); clear HB; clear HO_5; have HB := n0_; have HO125 := n1_; clear n0_ n1_; clear ho hb hg hat))
                    go_roundg k1
                    case measure => have := HK1.out; omega
                    case rel => exact ⟨(y123), (wrap64 (x7_1 + 1)), (wrap64 (x7_1 + 1)), (by first | rfl | (simp; done) | (simp [*]; done)), (by first | rfl | (simp; done) | (simp [*]; done)), H', ⟨by have := HK1.out; omega⟩, ⟨by (with_reducible repeat (first | apply Kd.R_alloc | apply Kd.R_drewN | apply Kd.R_drew)); exact HO125.out⟩, ⟨by repeat (first | (with_reducible first | exact HB.out | apply below_alloc | apply pw_below_drewN | apply below_drew1) | exact HB.out)⟩⟩
                  · rw [if_neg c12] at H
                    exact absurd H (by simp)
                · rw [if_neg c11] at H
                  exact absurd H (by simp)
              · rw [if_neg c10] at H
                exact absurd H (by simp)
            · rw [if_neg c9] at H
              exact absurd H (by simp)
          · rw [if_neg c8] at H
            have c8b0 : ((bt a0 x7_1) == a1) = false := beq_eq_false_iff_ne.mpr c8
            have c8b1 : ((bt a0 x7_1) != a1) = true := bne_iff_ne.mpr c8
            have H' := Aside0.mk H
            clear H
            have p7 : 0 ≤ (x7_1 : Int) := of_decide_eq_true (by first | (with_reducible assumption) | assumption)
            have q7 : x7_1 < (a0.size : Int) := of_decide_eq_true (by first | (with_reducible assumption) | assumption)
            have hx7 := bt_at a0 x7_1
            replace p7 := eq_true p7
            replace q7 := eq_true q7
            go_wp2
            go_roundg k1
            case measure => have := HK1.out; omega
            case rel => exact ⟨(x5_1), (x6_1), (wrap64 (x7_1 + 1)), (by first | rfl | (simp; done) | (simp [*]; done)), (by first | rfl | (simp; done) | (simp [*]; done)), H', ⟨by have := HK1.out; omega⟩, ⟨by (with_reducible repeat (first | apply Kd.R_alloc | apply Kd.R_drewN | apply Kd.R_drew)); exact HO_5.out⟩, ⟨by repeat (first | (with_reducible first | exact HB.out | apply below_alloc | apply pw_below_drewN | apply below_drew1) | exact HB.out)⟩⟩
        · rw [if_neg c6] at H
          exact absurd H (by simp)
      · rw [if_neg c5] at H
        have c5b0 : decide (x7_1 < (a0.size : Int)) = false := decide_eq_false c5
        clear c5
        by_cases c14 : 0 ≤ x6_1
        · rw [if_pos c14] at H
          have c14b0 := eq_true c14
          have c14b1 : decide (0 ≤ x6_1) = true := decide_eq_true c14
          clear c14
          by_cases c15 : x6_1 ≤ (a0.size : Int)
          · rw [if_pos c15] at H
            have c15b0 := eq_true c15
            have c15b1 : decide (x6_1 ≤ (a0.size : Int)) = true := decide_eq_true c15
            clear c15
            by_cases c16 : x5_1.length < 8796093022208
            · rw [if_pos c16] at H
              have LMc16 := Aside0.mk c16
              clear c16
              obtain ⟨y126, hy126⟩ : ∃ y_ : List ByteArray, y_ = (x5_1 ++ [a0.extract (x6_1 : Int).toNat a0.size]) := ⟨_, rfl⟩
              replace H : (some y126) = some r := by first | (rw [hy126]; with_reducible exact H) | (have H2_ := (Option.bind_some _ _).symm.trans H; rw [hy126]; with_reducible exact H2_) | (have H2_ := (Option.bind_some _ _).symm.trans H; with_reducible exact H2_) | with_reducible exact H | (rw [hy126]; exact H) | exact H
              have Ny126 := Aside0.mk hy126
              clear hy126
              obtain rfl := Option.some.inj H
              go_wp2_with (first | ((with_reducible refine gate_builtin (b := .append) (xs := #[.tmp 29, .tmp 33]) rfl ?_); at_builtin; refine Kd.R_append Kd.string (w0 := w) w.heap.size rfl (.tmp 29) (.tmp 33) 49 9 (.string ⟨#[]⟩) 16 rfl Tryd.underlying49 info9 rfl (by decide) (by omega) u5 x5_1 (a0.extract (x6_1 : Int).toNat a0.size) [.string (a0.extract (x6_1 : Int).toNat a0.size)] (fun _ => True) (fun _ => False) rfl rfl ?aP (fun _ hk => hk.elim) ?aF ?aO ?aB ?aS ?aL ?_; (case aP => exact rfl); (case aB => exact (by repeat (first | (with_reducible first | exact HB.out | apply below_alloc | apply pw_below_drewN | apply below_drew1) | exact HB.out))); (case aF => exact (fun _ _ => trivial)); (case aO => exact (by (with_reducible repeat (first | apply Kd.R_alloc | apply Kd.R_drewN | apply Kd.R_drew)); exact HO_5.out)); (case aS => exact (below_size (by repeat (first | (with_reducible first | exact HB.out | apply below_alloc | apply pw_below_drewN | apply below_drew1) | exact HB.out)))); (case aL => have := LMc16.out; omega); intro v127 w17 ho hb hg hat; rw [← Ny126.out] at ho; have n0_ := Aside0.mk (hb); have n1_ := Aside0.mk (ho); clear HB; clear HO_5; have HB := n0_; have HO128 := n1_; clear n0_ n1_; clear ho hb hg hat))
              go_ret
              exact ⟨_, by first | rfl | (simp [errW_none, errW_some] <;> rfl) | (simp [*, errW_none, errW_some] <;> rfl), by (with_reducible repeat (first | apply Kd.R_alloc | apply Kd.R_drewN | apply Kd.R_drew)); exact HO128.out, by repeat (first | (with_reducible first | exact HB.out | apply below_alloc | apply pw_below_drewN | apply below_drew1) | exact HB.out)⟩
            · rw [if_neg c16] at H
              exact absurd H (by simp)
          · rw [if_neg c15] at H
            exact absurd H (by simp)
        · rw [if_neg c14] at H
          exact absurd H (by simp)

end Go.Proofs.YtldgjibimolcdaaDoor.QFnExactParseLead
