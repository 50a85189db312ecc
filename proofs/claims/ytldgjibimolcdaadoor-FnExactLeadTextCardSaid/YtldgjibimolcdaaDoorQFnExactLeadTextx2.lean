/- Contracts of Go functions that FnExactLeadText reaches: the call computes what the plain function says. No condition. -/
import Derived.Test.YtldgjibimolcdaaDoorQFnExactLeadTextx0
import Derived.Test.YtldgjibimolcdaaDoorQFnExactLeadTextx1
namespace Go.Proofs.YtldgjibimolcdaaDoor.QFnExactLeadText
open Go.RowKit Go.Proofs.YtldgjibimolcdaaDoorW.PrintWords Go.Proofs.YtldgjibimolcdaaDoorW.PrintLast Go.Proofs.YtldgjibimolcdaaDoorW.PrintMore
attribute [local go_sem] max2_int min2_int max_two min_two max_three min_three max_four min_four   -- for this text's walks alone
set_option linter.unusedVariables false
set_option linter.unusedSimpArgs false

/-! ### spec_l18Text: function 25 -/
def spec_l18Text.f (k : Nat) (a0_0 : Int) (a0_1 : Int) (a0_2 : Int) (a0_3 : Int) (a0_4 : Int) : Option (ByteArray) := (spec_l1Num.f k a0_0).bind fun t112 => (if 5 + t112.size ≤ 9223372036854775807 then (if ((⟨#[108, 101, 97, 100, 32]⟩ : ByteArray) ++ t112).size + 4 ≤ 9223372036854775807 then ((spec_l1Num.f k a0_1).bind fun t113 => (if (((⟨#[108, 101, 97, 100, 32]⟩ : ByteArray) ++ t112) ++ (⟨#[32, 97, 116, 32]⟩ : ByteArray)).size + t113.size ≤ 9223372036854775807 then (if ((((⟨#[108, 101, 97, 100, 32]⟩ : ByteArray) ++ t112) ++ (⟨#[32, 97, 116, 32]⟩ : ByteArray)) ++ t113).size + 7 ≤ 9223372036854775807 then ((spec_l1Num.f k a0_2).bind fun t114 => (if (((((⟨#[108, 101, 97, 100, 32]⟩ : ByteArray) ++ t112) ++ (⟨#[32, 97, 116, 32]⟩ : ByteArray)) ++ t113) ++ (⟨#[58, 32, 115, 105, 122, 101, 32]⟩ : ByteArray)).size + t114.size ≤ 9223372036854775807 then (if ((((((⟨#[108, 101, 97, 100, 32]⟩ : ByteArray) ++ t112) ++ (⟨#[32, 97, 116, 32]⟩ : ByteArray)) ++ t113) ++ (⟨#[58, 32, 115, 105, 122, 101, 32]⟩ : ByteArray)) ++ t114).size + 6 ≤ 9223372036854775807 then ((spec_l1Num.f k a0_3).bind fun t115 => (if (((((((⟨#[108, 101, 97, 100, 32]⟩ : ByteArray) ++ t112) ++ (⟨#[32, 97, 116, 32]⟩ : ByteArray)) ++ t113) ++ (⟨#[58, 32, 115, 105, 122, 101, 32]⟩ : ByteArray)) ++ t114) ++ (⟨#[32, 101, 97, 115, 101, 32]⟩ : ByteArray)).size + t115.size ≤ 9223372036854775807 then (if ((((((((⟨#[108, 101, 97, 100, 32]⟩ : ByteArray) ++ t112) ++ (⟨#[32, 97, 116, 32]⟩ : ByteArray)) ++ t113) ++ (⟨#[58, 32, 115, 105, 122, 101, 32]⟩ : ByteArray)) ++ t114) ++ (⟨#[32, 101, 97, 115, 101, 32]⟩ : ByteArray)) ++ t115).size + 1 ≤ 9223372036854775807 then ((some (([(⟨#[111, 112, 101, 110]⟩ : ByteArray), (⟨#[116, 97, 107, 101, 110]⟩ : ByteArray), (⟨#[100, 111, 110, 101]⟩ : ByteArray), (⟨#[101, 110, 100, 101, 100]⟩ : ByteArray)] : List ByteArray) : List ByteArray)).bind fun y116 => (if 0 ≤ a0_4 then (if a0_4 < (y116.length : Int) then (if (((((((((⟨#[108, 101, 97, 100, 32]⟩ : ByteArray) ++ t112) ++ (⟨#[32, 97, 116, 32]⟩ : ByteArray)) ++ t113) ++ (⟨#[58, 32, 115, 105, 122, 101, 32]⟩ : ByteArray)) ++ t114) ++ (⟨#[32, 101, 97, 115, 101, 32]⟩ : ByteArray)) ++ t115) ++ (⟨#[32]⟩ : ByteArray)).size + (rdOf ByteArray.empty y116 a0_4).size ≤ 9223372036854775807 then (some ((((((((((⟨#[108, 101, 97, 100, 32]⟩ : ByteArray) ++ t112) ++ (⟨#[32, 97, 116, 32]⟩ : ByteArray)) ++ t113) ++ (⟨#[58, 32, 115, 105, 122, 101, 32]⟩ : ByteArray)) ++ t114) ++ (⟨#[32, 101, 97, 115, 101, 32]⟩ : ByteArray)) ++ t115) ++ (⟨#[32]⟩ : ByteArray)) ++ (rdOf ByteArray.empty y116 a0_4))) else (none)) else (none)) else (none))) else (none)) else (none))) else (none)) else (none))) else (none)) else (none))) else (none)) else (none))
theorem spec_l18Text.mono : ∀ a0 a1 a2 a3 a4 k, LeO (spec_l18Text.f k a0 a1 a2 a3 a4) (spec_l18Text.f (k + 1) a0 a1 a2 a3 a4) := by
  intro a0 a1 a2 a3 a4 k
  unfold spec_l18Text.f
  repeat' first
      | (with_reducible exact spec_l1Num.mono _ _)
      | (with_reducible exact LeO.refl _)
      | (with_reducible exact LeO.none _)
      | (with_reducible refine LeO.ite ?_ ?_)
      | (with_reducible refine LeO.bind ?_ (fun _ => ?_))
      | exact spec_l1Num.mono _ _
      | exact LeO.none _
      | refine LeO.ite ?_ ?_
      | refine LeO.bind ?_ (fun _ => ?_)
def spec_l18Text.T1 : Bool × List (List Nat × List Nat) := (true, [([], []), ([0], [0]), ([1], [1]), ([2], [2]), ([3], [3]), ([], []), ([5], [5]), ([6, 2], [6]), ([4, 7], [4, 7]), ([8], [8]), ([], []), ([10], [10]), ([11, 7], [11]), ([9, 12], [9, 12]), ([13], [13]), ([], []), ([15], [15]), ([16, 12], [16]), ([14, 17], [14, 17]), ([18], [18]), ([], []), ([], []), ([21], [21]), ([20, 22], [20, 22]), ([23], [23]), ([19, 24], [19, 24]), ([25, 17, 0, 1, 2, 3, 4, 5, 6, 7, 8, 9, 10, 11, 12, 13, 14, 15, 16, 17, 18, 19, 20, 21, 22, 23, 24, 25], [25])])
def spec_l18Text.B1 : List Nat := [0, 1, 3, 7, 15, 0, 32, 103, 255, 511, 0, 1024, 3303, 8191, 16383, 0, 32768, 105703, 262143, 524287, 0, 0, 2097152, 7340032, 15728640, 33554431, 67108863]
theorem spec_l18Text.tab1 : rtab .any (opsOf Tryd.f25 1) = spec_l18Text.T1 := by kernel_rfl
theorem spec_l18Text.bits1 : waitsOk spec_l18Text.T1.2 spec_l18Text.B1 = true := by kernel_rfl
set_option maxHeartbeats 8000000 in
set_option maxRecDepth 100000 in
theorem spec_l18Text.calls (k : Nat) (a0_0 : Int) (a0_1 : Int) (a0_2 : Int) (a0_3 : Int) (a0_4 : Int) (r : ByteArray) (w : World) (h : spec_l18Text.f k a0_0 a0_1 a0_2 a0_3 a0_4 = some r) :
    Calls Tryd.prog 25 #[.agg #[.int .i64 a0_0, .int .i64 a0_1, .int .i64 a0_2, .int .i64 a0_3, .int .i64 a0_4]] w fun e w' => e = .returned (.string r) ∧ Below w.heap.size w w' := by
  have hu26 := Tryd.underlying26
  have HB := Aside0.mk (Below.refl w.heap.size w)
  have H : ((spec_l1Num.f k a0_0).bind fun t112 => (if 5 + t112.size ≤ 9223372036854775807 then (if ((⟨#[108, 101, 97, 100, 32]⟩ : ByteArray) ++ t112).size + 4 ≤ 9223372036854775807 then ((spec_l1Num.f k a0_1).bind fun t113 => (if (((⟨#[108, 101, 97, 100, 32]⟩ : ByteArray) ++ t112) ++ (⟨#[32, 97, 116, 32]⟩ : ByteArray)).size + t113.size ≤ 9223372036854775807 then (if ((((⟨#[108, 101, 97, 100, 32]⟩ : ByteArray) ++ t112) ++ (⟨#[32, 97, 116, 32]⟩ : ByteArray)) ++ t113).size + 7 ≤ 9223372036854775807 then ((spec_l1Num.f k a0_2).bind fun t114 => (if (((((⟨#[108, 101, 97, 100, 32]⟩ : ByteArray) ++ t112) ++ (⟨#[32, 97, 116, 32]⟩ : ByteArray)) ++ t113) ++ (⟨#[58, 32, 115, 105, 122, 101, 32]⟩ : ByteArray)).size + t114.size ≤ 9223372036854775807 then (if ((((((⟨#[108, 101, 97, 100, 32]⟩ : ByteArray) ++ t112) ++ (⟨#[32, 97, 116, 32]⟩ : ByteArray)) ++ t113) ++ (⟨#[58, 32, 115, 105, 122, 101, 32]⟩ : ByteArray)) ++ t114).size + 6 ≤ 9223372036854775807 then ((spec_l1Num.f k a0_3).bind fun t115 => (if (((((((⟨#[108, 101, 97, 100, 32]⟩ : ByteArray) ++ t112) ++ (⟨#[32, 97, 116, 32]⟩ : ByteArray)) ++ t113) ++ (⟨#[58, 32, 115, 105, 122, 101, 32]⟩ : ByteArray)) ++ t114) ++ (⟨#[32, 101, 97, 115, 101, 32]⟩ : ByteArray)).size + t115.size ≤ 9223372036854775807 then (if ((((((((⟨#[108, 101, 97, 100, 32]⟩ : ByteArray) ++ t112) ++ (⟨#[32, 97, 116, 32]⟩ : ByteArray)) ++ t113) ++ (⟨#[58, 32, 115, 105, 122, 101, 32]⟩ : ByteArray)) ++ t114) ++ (⟨#[32, 101, 97, 115, 101, 32]⟩ : ByteArray)) ++ t115).size + 1 ≤ 9223372036854775807 then ((some (([(⟨#[111, 112, 101, 110]⟩ : ByteArray), (⟨#[116, 97, 107, 101, 110]⟩ : ByteArray), (⟨#[100, 111, 110, 101]⟩ : ByteArray), (⟨#[101, 110, 100, 101, 100]⟩ : ByteArray)] : List ByteArray) : List ByteArray)).bind fun y116 => (if 0 ≤ a0_4 then (if a0_4 < (y116.length : Int) then (if (((((((((⟨#[108, 101, 97, 100, 32]⟩ : ByteArray) ++ t112) ++ (⟨#[32, 97, 116, 32]⟩ : ByteArray)) ++ t113) ++ (⟨#[58, 32, 115, 105, 122, 101, 32]⟩ : ByteArray)) ++ t114) ++ (⟨#[32, 101, 97, 115, 101, 32]⟩ : ByteArray)) ++ t115) ++ (⟨#[32]⟩ : ByteArray)).size + (rdOf ByteArray.empty y116 a0_4).size ≤ 9223372036854775807 then (some ((((((((((⟨#[108, 101, 97, 100, 32]⟩ : ByteArray) ++ t112) ++ (⟨#[32, 97, 116, 32]⟩ : ByteArray)) ++ t113) ++ (⟨#[58, 32, 115, 105, 122, 101, 32]⟩ : ByteArray)) ++ t114) ++ (⟨#[32, 101, 97, 115, 101, 32]⟩ : ByteArray)) ++ t115) ++ (⟨#[32]⟩ : ByteArray)) ++ (rdOf ByteArray.empty y116 a0_4))) else (none)) else (none)) else (none))) else (none)) else (none))) else (none)) else (none))) else (none)) else (none))) else (none)) else (none))) = some r := h
  clear h
  replace H := Option.bind_eq_some_iff.mp H
  obtain ⟨t112, A20, H⟩ := H
  replace H : (if 5 + t112.size ≤ 9223372036854775807 then (if ((⟨#[108, 101, 97, 100, 32]⟩ : ByteArray) ++ t112).size + 4 ≤ 9223372036854775807 then ((spec_l1Num.f k a0_1).bind fun t113 => (if (((⟨#[108, 101, 97, 100, 32]⟩ : ByteArray) ++ t112) ++ (⟨#[32, 97, 116, 32]⟩ : ByteArray)).size + t113.size ≤ 9223372036854775807 then (if ((((⟨#[108, 101, 97, 100, 32]⟩ : ByteArray) ++ t112) ++ (⟨#[32, 97, 116, 32]⟩ : ByteArray)) ++ t113).size + 7 ≤ 9223372036854775807 then ((spec_l1Num.f k a0_2).bind fun t114 => (if (((((⟨#[108, 101, 97, 100, 32]⟩ : ByteArray) ++ t112) ++ (⟨#[32, 97, 116, 32]⟩ : ByteArray)) ++ t113) ++ (⟨#[58, 32, 115, 105, 122, 101, 32]⟩ : ByteArray)).size + t114.size ≤ 9223372036854775807 then (if ((((((⟨#[108, 101, 97, 100, 32]⟩ : ByteArray) ++ t112) ++ (⟨#[32, 97, 116, 32]⟩ : ByteArray)) ++ t113) ++ (⟨#[58, 32, 115, 105, 122, 101, 32]⟩ : ByteArray)) ++ t114).size + 6 ≤ 9223372036854775807 then ((spec_l1Num.f k a0_3).bind fun t115 => (if (((((((⟨#[108, 101, 97, 100, 32]⟩ : ByteArray) ++ t112) ++ (⟨#[32, 97, 116, 32]⟩ : ByteArray)) ++ t113) ++ (⟨#[58, 32, 115, 105, 122, 101, 32]⟩ : ByteArray)) ++ t114) ++ (⟨#[32, 101, 97, 115, 101, 32]⟩ : ByteArray)).size + t115.size ≤ 9223372036854775807 then (if ((((((((⟨#[108, 101, 97, 100, 32]⟩ : ByteArray) ++ t112) ++ (⟨#[32, 97, 116, 32]⟩ : ByteArray)) ++ t113) ++ (⟨#[58, 32, 115, 105, 122, 101, 32]⟩ : ByteArray)) ++ t114) ++ (⟨#[32, 101, 97, 115, 101, 32]⟩ : ByteArray)) ++ t115).size + 1 ≤ 9223372036854775807 then ((some (([(⟨#[111, 112, 101, 110]⟩ : ByteArray), (⟨#[116, 97, 107, 101, 110]⟩ : ByteArray), (⟨#[100, 111, 110, 101]⟩ : ByteArray), (⟨#[101, 110, 100, 101, 100]⟩ : ByteArray)] : List ByteArray) : List ByteArray)).bind fun y116 => (if 0 ≤ a0_4 then (if a0_4 < (y116.length : Int) then (if (((((((((⟨#[108, 101, 97, 100, 32]⟩ : ByteArray) ++ t112) ++ (⟨#[32, 97, 116, 32]⟩ : ByteArray)) ++ t113) ++ (⟨#[58, 32, 115, 105, 122, 101, 32]⟩ : ByteArray)) ++ t114) ++ (⟨#[32, 101, 97, 115, 101, 32]⟩ : ByteArray)) ++ t115) ++ (⟨#[32]⟩ : ByteArray)).size + (rdOf ByteArray.empty y116 a0_4).size ≤ 9223372036854775807 then (some ((((((((((⟨#[108, 101, 97, 100, 32]⟩ : ByteArray) ++ t112) ++ (⟨#[32, 97, 116, 32]⟩ : ByteArray)) ++ t113) ++ (⟨#[58, 32, 115, 105, 122, 101, 32]⟩ : ByteArray)) ++ t114) ++ (⟨#[32, 101, 97, 115, 101, 32]⟩ : ByteArray)) ++ t115) ++ (⟨#[32]⟩ : ByteArray)) ++ (rdOf ByteArray.empty y116 a0_4))) else (none)) else (none)) else (none))) else (none)) else (none))) else (none)) else (none))) else (none)) else (none))) else (none)) else (none)) = some r := H
  have A2 := Aside0.mk A20
  clear A20
  by_cases c3 : 5 + t112.size ≤ 9223372036854775807
  · rw [if_pos c3] at H
    have c3b0 := eq_true c3
    have c3b1 : decide (5 + t112.size ≤ 9223372036854775807) = true := decide_eq_true c3
    try have c3b2 : (9223372036854775807 < 5 + t112.size) = False := eq_false (Nat.not_lt.2 c3)
    by_cases c4 : ((⟨#[108, 101, 97, 100, 32]⟩ : ByteArray) ++ t112).size + 4 ≤ 9223372036854775807
    · rw [if_pos c4] at H
      have c4b0 := eq_true c4
      have c4b1 : decide (((⟨#[108, 101, 97, 100, 32]⟩ : ByteArray) ++ t112).size + 4 ≤ 9223372036854775807) = true := decide_eq_true c4
      try have c4b2 : (9223372036854775807 < ((⟨#[108, 101, 97, 100, 32]⟩ : ByteArray) ++ t112).size + 4) = False := eq_false (Nat.not_lt.2 c4)
      replace H := Option.bind_eq_some_iff.mp H
      obtain ⟨t113, A50, H⟩ := H
      replace H : (if (((⟨#[108, 101, 97, 100, 32]⟩ : ByteArray) ++ t112) ++ (⟨#[32, 97, 116, 32]⟩ : ByteArray)).size + t113.size ≤ 9223372036854775807 then (if ((((⟨#[108, 101, 97, 100, 32]⟩ : ByteArray) ++ t112) ++ (⟨#[32, 97, 116, 32]⟩ : ByteArray)) ++ t113).size + 7 ≤ 9223372036854775807 then ((spec_l1Num.f k a0_2).bind fun t114 => (if (((((⟨#[108, 101, 97, 100, 32]⟩ : ByteArray) ++ t112) ++ (⟨#[32, 97, 116, 32]⟩ : ByteArray)) ++ t113) ++ (⟨#[58, 32, 115, 105, 122, 101, 32]⟩ : ByteArray)).size + t114.size ≤ 9223372036854775807 then (if ((((((⟨#[108, 101, 97, 100, 32]⟩ : ByteArray) ++ t112) ++ (⟨#[32, 97, 116, 32]⟩ : ByteArray)) ++ t113) ++ (⟨#[58, 32, 115, 105, 122, 101, 32]⟩ : ByteArray)) ++ t114).size + 6 ≤ 9223372036854775807 then ((spec_l1Num.f k a0_3).bind fun t115 => (if (((((((⟨#[108, 101, 97, 100, 32]⟩ : ByteArray) ++ t112) ++ (⟨#[32, 97, 116, 32]⟩ : ByteArray)) ++ t113) ++ (⟨#[58, 32, 115, 105, 122, 101, 32]⟩ : ByteArray)) ++ t114) ++ (⟨#[32, 101, 97, 115, 101, 32]⟩ : ByteArray)).size + t115.size ≤ 9223372036854775807 then (if ((((((((⟨#[108, 101, 97, 100, 32]⟩ : ByteArray) ++ t112) ++ (⟨#[32, 97, 116, 32]⟩ : ByteArray)) ++ t113) ++ (⟨#[58, 32, 115, 105, 122, 101, 32]⟩ : ByteArray)) ++ t114) ++ (⟨#[32, 101, 97, 115, 101, 32]⟩ : ByteArray)) ++ t115).size + 1 ≤ 9223372036854775807 then ((some (([(⟨#[111, 112, 101, 110]⟩ : ByteArray), (⟨#[116, 97, 107, 101, 110]⟩ : ByteArray), (⟨#[100, 111, 110, 101]⟩ : ByteArray), (⟨#[101, 110, 100, 101, 100]⟩ : ByteArray)] : List ByteArray) : List ByteArray)).bind fun y116 => (if 0 ≤ a0_4 then (if a0_4 < (y116.length : Int) then (if (((((((((⟨#[108, 101, 97, 100, 32]⟩ : ByteArray) ++ t112) ++ (⟨#[32, 97, 116, 32]⟩ : ByteArray)) ++ t113) ++ (⟨#[58, 32, 115, 105, 122, 101, 32]⟩ : ByteArray)) ++ t114) ++ (⟨#[32, 101, 97, 115, 101, 32]⟩ : ByteArray)) ++ t115) ++ (⟨#[32]⟩ : ByteArray)).size + (rdOf ByteArray.empty y116 a0_4).size ≤ 9223372036854775807 then (some ((((((((((⟨#[108, 101, 97, 100, 32]⟩ : ByteArray) ++ t112) ++ (⟨#[32, 97, 116, 32]⟩ : ByteArray)) ++ t113) ++ (⟨#[58, 32, 115, 105, 122, 101, 32]⟩ : ByteArray)) ++ t114) ++ (⟨#[32, 101, 97, 115, 101, 32]⟩ : ByteArray)) ++ t115) ++ (⟨#[32]⟩ : ByteArray)) ++ (rdOf ByteArray.empty y116 a0_4))) else (none)) else (none)) else (none))) else (none)) else (none))) else (none)) else (none))) else (none)) else (none)) = some r := H
      have A5 := Aside0.mk A50
      clear A50
      by_cases c6 : (((⟨#[108, 101, 97, 100, 32]⟩ : ByteArray) ++ t112) ++ (⟨#[32, 97, 116, 32]⟩ : ByteArray)).size + t113.size ≤ 9223372036854775807
      · rw [if_pos c6] at H
        have c6b0 := eq_true c6
        have c6b1 : decide ((((⟨#[108, 101, 97, 100, 32]⟩ : ByteArray) ++ t112) ++ (⟨#[32, 97, 116, 32]⟩ : ByteArray)).size + t113.size ≤ 9223372036854775807) = true := decide_eq_true c6
        try have c6b2 : (9223372036854775807 < (((⟨#[108, 101, 97, 100, 32]⟩ : ByteArray) ++ t112) ++ (⟨#[32, 97, 116, 32]⟩ : ByteArray)).size + t113.size) = False := eq_false (Nat.not_lt.2 c6)
        by_cases c7 : ((((⟨#[108, 101, 97, 100, 32]⟩ : ByteArray) ++ t112) ++ (⟨#[32, 97, 116, 32]⟩ : ByteArray)) ++ t113).size + 7 ≤ 9223372036854775807
        · rw [if_pos c7] at H
          have c7b0 := eq_true c7
          have c7b1 : decide (((((⟨#[108, 101, 97, 100, 32]⟩ : ByteArray) ++ t112) ++ (⟨#[32, 97, 116, 32]⟩ : ByteArray)) ++ t113).size + 7 ≤ 9223372036854775807) = true := decide_eq_true c7
          try have c7b2 : (9223372036854775807 < ((((⟨#[108, 101, 97, 100, 32]⟩ : ByteArray) ++ t112) ++ (⟨#[32, 97, 116, 32]⟩ : ByteArray)) ++ t113).size + 7) = False := eq_false (Nat.not_lt.2 c7)
          replace H := Option.bind_eq_some_iff.mp H
          obtain ⟨t114, A80, H⟩ := H
          replace H : (if (((((⟨#[108, 101, 97, 100, 32]⟩ : ByteArray) ++ t112) ++ (⟨#[32, 97, 116, 32]⟩ : ByteArray)) ++ t113) ++ (⟨#[58, 32, 115, 105, 122, 101, 32]⟩ : ByteArray)).size + t114.size ≤ 9223372036854775807 then (if ((((((⟨#[108, 101, 97, 100, 32]⟩ : ByteArray) ++ t112) ++ (⟨#[32, 97, 116, 32]⟩ : ByteArray)) ++ t113) ++ (⟨#[58, 32, 115, 105, 122, 101, 32]⟩ : ByteArray)) ++ t114).size + 6 ≤ 9223372036854775807 then ((spec_l1Num.f k a0_3).bind fun t115 => (if (((((((⟨#[108, 101, 97, 100, 32]⟩ : ByteArray) ++ t112) ++ (⟨#[32, 97, 116, 32]⟩ : ByteArray)) ++ t113) ++ (⟨#[58, 32, 115, 105, 122, 101, 32]⟩ : ByteArray)) ++ t114) ++ (⟨#[32, 101, 97, 115, 101, 32]⟩ : ByteArray)).size + t115.size ≤ 9223372036854775807 then (if ((((((((⟨#[108, 101, 97, 100, 32]⟩ : ByteArray) ++ t112) ++ (⟨#[32, 97, 116, 32]⟩ : ByteArray)) ++ t113) ++ (⟨#[58, 32, 115, 105, 122, 101, 32]⟩ : ByteArray)) ++ t114) ++ (⟨#[32, 101, 97, 115, 101, 32]⟩ : ByteArray)) ++ t115).size + 1 ≤ 9223372036854775807 then ((some (([(⟨#[111, 112, 101, 110]⟩ : ByteArray), (⟨#[116, 97, 107, 101, 110]⟩ : ByteArray), (⟨#[100, 111, 110, 101]⟩ : ByteArray), (⟨#[101, 110, 100, 101, 100]⟩ : ByteArray)] : List ByteArray) : List ByteArray)).bind fun y116 => (if 0 ≤ a0_4 then (if a0_4 < (y116.length : Int) then (if (((((((((⟨#[108, 101, 97, 100, 32]⟩ : ByteArray) ++ t112) ++ (⟨#[32, 97, 116, 32]⟩ : ByteArray)) ++ t113) ++ (⟨#[58, 32, 115, 105, 122, 101, 32]⟩ : ByteArray)) ++ t114) ++ (⟨#[32, 101, 97, 115, 101, 32]⟩ : ByteArray)) ++ t115) ++ (⟨#[32]⟩ : ByteArray)).size + (rdOf ByteArray.empty y116 a0_4).size ≤ 9223372036854775807 then (some ((((((((((⟨#[108, 101, 97, 100, 32]⟩ : ByteArray) ++ t112) ++ (⟨#[32, 97, 116, 32]⟩ : ByteArray)) ++ t113) ++ (⟨#[58, 32, 115, 105, 122, 101, 32]⟩ : ByteArray)) ++ t114) ++ (⟨#[32, 101, 97, 115, 101, 32]⟩ : ByteArray)) ++ t115) ++ (⟨#[32]⟩ : ByteArray)) ++ (rdOf ByteArray.empty y116 a0_4))) else (none)) else (none)) else (none))) else (none)) else (none))) else (none)) else (none)) = some r := H
          have A8 := Aside0.mk A80
          clear A80
          by_cases c9 : (((((⟨#[108, 101, 97, 100, 32]⟩ : ByteArray) ++ t112) ++ (⟨#[32, 97, 116, 32]⟩ : ByteArray)) ++ t113) ++ (⟨#[58, 32, 115, 105, 122, 101, 32]⟩ : ByteArray)).size + t114.size ≤ 9223372036854775807
          · rw [if_pos c9] at H
            have c9b0 := eq_true c9
            have c9b1 : decide ((((((⟨#[108, 101, 97, 100, 32]⟩ : ByteArray) ++ t112) ++ (⟨#[32, 97, 116, 32]⟩ : ByteArray)) ++ t113) ++ (⟨#[58, 32, 115, 105, 122, 101, 32]⟩ : ByteArray)).size + t114.size ≤ 9223372036854775807) = true := decide_eq_true c9
            try have c9b2 : (9223372036854775807 < (((((⟨#[108, 101, 97, 100, 32]⟩ : ByteArray) ++ t112) ++ (⟨#[32, 97, 116, 32]⟩ : ByteArray)) ++ t113) ++ (⟨#[58, 32, 115, 105, 122, 101, 32]⟩ : ByteArray)).size + t114.size) = False := eq_false (Nat.not_lt.2 c9)
            by_cases c10 : ((((((⟨#[108, 101, 97, 100, 32]⟩ : ByteArray) ++ t112) ++ (⟨#[32, 97, 116, 32]⟩ : ByteArray)) ++ t113) ++ (⟨#[58, 32, 115, 105, 122, 101, 32]⟩ : ByteArray)) ++ t114).size + 6 ≤ 9223372036854775807
            · rw [if_pos c10] at H
              have c10b0 := eq_true c10
              have c10b1 : decide (((((((⟨#[108, 101, 97, 100, 32]⟩ : ByteArray) ++ t112) ++ (⟨#[32, 97, 116, 32]⟩ : ByteArray)) ++ t113) ++ (⟨#[58, 32, 115, 105, 122, 101, 32]⟩ : ByteArray)) ++ t114).size + 6 ≤ 9223372036854775807) = true := decide_eq_true c10
              try have c10b2 : (9223372036854775807 < ((((((⟨#[108, 101, 97, 100, 32]⟩ : ByteArray) ++ t112) ++ (⟨#[32, 97, 116, 32]⟩ : ByteArray)) ++ t113) ++ (⟨#[58, 32, 115, 105, 122, 101, 32]⟩ : ByteArray)) ++ t114).size + 6) = False := eq_false (Nat.not_lt.2 c10)
              replace H := Option.bind_eq_some_iff.mp H
              obtain ⟨t115, A110, H⟩ := H
              replace H : (if (((((((⟨#[108, 101, 97, 100, 32]⟩ : ByteArray) ++ t112) ++ (⟨#[32, 97, 116, 32]⟩ : ByteArray)) ++ t113) ++ (⟨#[58, 32, 115, 105, 122, 101, 32]⟩ : ByteArray)) ++ t114) ++ (⟨#[32, 101, 97, 115, 101, 32]⟩ : ByteArray)).size + t115.size ≤ 9223372036854775807 then (if ((((((((⟨#[108, 101, 97, 100, 32]⟩ : ByteArray) ++ t112) ++ (⟨#[32, 97, 116, 32]⟩ : ByteArray)) ++ t113) ++ (⟨#[58, 32, 115, 105, 122, 101, 32]⟩ : ByteArray)) ++ t114) ++ (⟨#[32, 101, 97, 115, 101, 32]⟩ : ByteArray)) ++ t115).size + 1 ≤ 9223372036854775807 then ((some (([(⟨#[111, 112, 101, 110]⟩ : ByteArray), (⟨#[116, 97, 107, 101, 110]⟩ : ByteArray), (⟨#[100, 111, 110, 101]⟩ : ByteArray), (⟨#[101, 110, 100, 101, 100]⟩ : ByteArray)] : List ByteArray) : List ByteArray)).bind fun y116 => (if 0 ≤ a0_4 then (if a0_4 < (y116.length : Int) then (if (((((((((⟨#[108, 101, 97, 100, 32]⟩ : ByteArray) ++ t112) ++ (⟨#[32, 97, 116, 32]⟩ : ByteArray)) ++ t113) ++ (⟨#[58, 32, 115, 105, 122, 101, 32]⟩ : ByteArray)) ++ t114) ++ (⟨#[32, 101, 97, 115, 101, 32]⟩ : ByteArray)) ++ t115) ++ (⟨#[32]⟩ : ByteArray)).size + (rdOf ByteArray.empty y116 a0_4).size ≤ 9223372036854775807 then (some ((((((((((⟨#[108, 101, 97, 100, 32]⟩ : ByteArray) ++ t112) ++ (⟨#[32, 97, 116, 32]⟩ : ByteArray)) ++ t113) ++ (⟨#[58, 32, 115, 105, 122, 101, 32]⟩ : ByteArray)) ++ t114) ++ (⟨#[32, 101, 97, 115, 101, 32]⟩ : ByteArray)) ++ t115) ++ (⟨#[32]⟩ : ByteArray)) ++ (rdOf ByteArray.empty y116 a0_4))) else (none)) else (none)) else (none))) else (none)) else (none)) = some r := H
              have A11 := Aside0.mk A110
              clear A110
              by_cases c12 : (((((((⟨#[108, 101, 97, 100, 32]⟩ : ByteArray) ++ t112) ++ (⟨#[32, 97, 116, 32]⟩ : ByteArray)) ++ t113) ++ (⟨#[58, 32, 115, 105, 122, 101, 32]⟩ : ByteArray)) ++ t114) ++ (⟨#[32, 101, 97, 115, 101, 32]⟩ : ByteArray)).size + t115.size ≤ 9223372036854775807
              · rw [if_pos c12] at H
                have c12b0 := eq_true c12
                have c12b1 : decide ((((((((⟨#[108, 101, 97, 100, 32]⟩ : ByteArray) ++ t112) ++ (⟨#[32, 97, 116, 32]⟩ : ByteArray)) ++ t113) ++ (⟨#[58, 32, 115, 105, 122, 101, 32]⟩ : ByteArray)) ++ t114) ++ (⟨#[32, 101, 97, 115, 101, 32]⟩ : ByteArray)).size + t115.size ≤ 9223372036854775807) = true := decide_eq_true c12
                try have c12b2 : (9223372036854775807 < (((((((⟨#[108, 101, 97, 100, 32]⟩ : ByteArray) ++ t112) ++ (⟨#[32, 97, 116, 32]⟩ : ByteArray)) ++ t113) ++ (⟨#[58, 32, 115, 105, 122, 101, 32]⟩ : ByteArray)) ++ t114) ++ (⟨#[32, 101, 97, 115, 101, 32]⟩ : ByteArray)).size + t115.size) = False := eq_false (Nat.not_lt.2 c12)
                by_cases c13 : ((((((((⟨#[108, 101, 97, 100, 32]⟩ : ByteArray) ++ t112) ++ (⟨#[32, 97, 116, 32]⟩ : ByteArray)) ++ t113) ++ (⟨#[58, 32, 115, 105, 122, 101, 32]⟩ : ByteArray)) ++ t114) ++ (⟨#[32, 101, 97, 115, 101, 32]⟩ : ByteArray)) ++ t115).size + 1 ≤ 9223372036854775807
                · rw [if_pos c13] at H
                  have c13b0 := eq_true c13
                  have c13b1 : decide (((((((((⟨#[108, 101, 97, 100, 32]⟩ : ByteArray) ++ t112) ++ (⟨#[32, 97, 116, 32]⟩ : ByteArray)) ++ t113) ++ (⟨#[58, 32, 115, 105, 122, 101, 32]⟩ : ByteArray)) ++ t114) ++ (⟨#[32, 101, 97, 115, 101, 32]⟩ : ByteArray)) ++ t115).size + 1 ≤ 9223372036854775807) = true := decide_eq_true c13
                  try have c13b2 : (9223372036854775807 < ((((((((⟨#[108, 101, 97, 100, 32]⟩ : ByteArray) ++ t112) ++ (⟨#[32, 97, 116, 32]⟩ : ByteArray)) ++ t113) ++ (⟨#[58, 32, 115, 105, 122, 101, 32]⟩ : ByteArray)) ++ t114) ++ (⟨#[32, 101, 97, 115, 101, 32]⟩ : ByteArray)) ++ t115).size + 1) = False := eq_false (Nat.not_lt.2 c13)
                  obtain ⟨y116, hy116⟩ : ∃ y_ : List ByteArray, y_ = (([(⟨#[111, 112, 101, 110]⟩ : ByteArray), (⟨#[116, 97, 107, 101, 110]⟩ : ByteArray), (⟨#[100, 111, 110, 101]⟩ : ByteArray), (⟨#[101, 110, 100, 101, 100]⟩ : ByteArray)] : List ByteArray)) := ⟨_, rfl⟩
                  replace H : (if 0 ≤ a0_4 then (if a0_4 < (y116.length : Int) then (if (((((((((⟨#[108, 101, 97, 100, 32]⟩ : ByteArray) ++ t112) ++ (⟨#[32, 97, 116, 32]⟩ : ByteArray)) ++ t113) ++ (⟨#[58, 32, 115, 105, 122, 101, 32]⟩ : ByteArray)) ++ t114) ++ (⟨#[32, 101, 97, 115, 101, 32]⟩ : ByteArray)) ++ t115) ++ (⟨#[32]⟩ : ByteArray)).size + (rdOf ByteArray.empty y116 a0_4).size ≤ 9223372036854775807 then (some ((((((((((⟨#[108, 101, 97, 100, 32]⟩ : ByteArray) ++ t112) ++ (⟨#[32, 97, 116, 32]⟩ : ByteArray)) ++ t113) ++ (⟨#[58, 32, 115, 105, 122, 101, 32]⟩ : ByteArray)) ++ t114) ++ (⟨#[32, 101, 97, 115, 101, 32]⟩ : ByteArray)) ++ t115) ++ (⟨#[32]⟩ : ByteArray)) ++ (rdOf ByteArray.empty y116 a0_4))) else (none)) else (none)) else (none)) = some r := by first | (rw [hy116]; with_reducible exact H) | (have H2_ := (Option.bind_some _ _).symm.trans H; rw [hy116]; with_reducible exact H2_) | (have H2_ := (Option.bind_some _ _).symm.trans H; with_reducible exact H2_) | with_reducible exact H | (rw [hy116]; exact H) | exact H
                  have Ny116 := Aside0.mk hy116
                  clear hy116
                  by_cases c14 : 0 ≤ a0_4
                  · rw [if_pos c14] at H
                    have c14b0 : decide (0 ≤ a0_4) = true := decide_eq_true c14
                    clear c14
                    by_cases c15 : a0_4 < (y116.length : Int)
                    · rw [if_pos c15] at H
                      have c15b0 : decide (a0_4 < (y116.length : Int)) = true := decide_eq_true c15
                      clear c15
                      by_cases c16 : (((((((((⟨#[108, 101, 97, 100, 32]⟩ : ByteArray) ++ t112) ++ (⟨#[32, 97, 116, 32]⟩ : ByteArray)) ++ t113) ++ (⟨#[58, 32, 115, 105, 122, 101, 32]⟩ : ByteArray)) ++ t114) ++ (⟨#[32, 101, 97, 115, 101, 32]⟩ : ByteArray)) ++ t115) ++ (⟨#[32]⟩ : ByteArray)).size + (rdOf ByteArray.empty y116 a0_4).size ≤ 9223372036854775807
                      · rw [if_pos c16] at H
                        have c16b0 := eq_true c16
                        have c16b1 : decide ((((((((((⟨#[108, 101, 97, 100, 32]⟩ : ByteArray) ++ t112) ++ (⟨#[32, 97, 116, 32]⟩ : ByteArray)) ++ t113) ++ (⟨#[58, 32, 115, 105, 122, 101, 32]⟩ : ByteArray)) ++ t114) ++ (⟨#[32, 101, 97, 115, 101, 32]⟩ : ByteArray)) ++ t115) ++ (⟨#[32]⟩ : ByteArray)).size + (rdOf ByteArray.empty y116 a0_4).size ≤ 9223372036854775807) = true := decide_eq_true c16
                        try have c16b2 : (9223372036854775807 < (((((((((⟨#[108, 101, 97, 100, 32]⟩ : ByteArray) ++ t112) ++ (⟨#[32, 97, 116, 32]⟩ : ByteArray)) ++ t113) ++ (⟨#[58, 32, 115, 105, 122, 101, 32]⟩ : ByteArray)) ++ t114) ++ (⟨#[32, 101, 97, 115, 101, 32]⟩ : ByteArray)) ++ t115) ++ (⟨#[32]⟩ : ByteArray)).size + (rdOf ByteArray.empty y116 a0_4).size) = False := eq_false (Nat.not_lt.2 c16)
                        obtain rfl := Option.some.inj H
                        go_enter Tryd.func25, Tryd.ntmps25
                        try go_wp2_with (first | ((with_reducible refine gate_dst (N := 1) rfl ?_); refine box_event ?hg (N := 1) ?hd (cs := #[.int .i64 a0_0, .int .i64 a0_1, .int .i64 a0_2, .int .i64 a0_3, .int .i64 a0_4]) (t := 26) ?hr ?_; (case hd => rfl); (case hg => rfl); (case hr => first | (go_simp; done) | (go_simp; rfl)); intro gb111 hg w17 hbox hb; have n0_ := Aside0.mk (below_step (upB HB.out) hb); have n1_ := Aside0.mk (hbox); have n2_ := Aside0.mk ((by rw [hg]; exact (below_size (upB HB.out)) : w.heap.size ≤ gb111)); have n3_ := Aside0.mk ((by rw [hg]; exact (below_size (upB HB.out)) : w.heap.size ≤ gb111)); clear HB; have HB := n0_; have BK111 := n1_; have GW111 := n2_; have GE111 := n3_; clear n0_ n1_ n2_ n3_; clear hb hbox hg))
                        have pi119 : (0 ≤ (a0_4 : Int)) = True := eq_true (of_decide_eq_true asmB)
                        have qi119 : (a0_4 < (y116.length : Int)) = True := eq_true (of_decide_eq_true asmB)
                        have n0_ := Aside0.mk (blk_drew BK111.out)
                        have n1_ := Aside0.mk (below_drew1 HB.out)
                        clear BK111
                        clear HB
                        have BK111 := n0_
                        have HB := n1_
                        clear n0_ n1_
                        refine start_ (n := 27) (S := fun w' => True) (ds := []) #[false, false, false, false, false, false, false, false, false, false, false, false, false, false, false, false, false, false, false, false, false, false, false, false, false, false, false] (by kernel_rfl) rfl rfl trivial (fun hHeld => ?_); refine with_tabW spec_l18Text.tab1 spec_l18Text.bits1 (fun HT_ HW_ => ?_)
                        generalize w17.drew = w18 at BK111 HB hHeld ⊢
                        refine pure_ (i := 0) (N := some 3) (v := ?_) (a' := ?_) #[true, false, false, false, false, false, false, false, false, false, false, false, false, false, false, false, false, false, false, false, false, false, false, false, false, false, false] rfl rfl (any_of HT_.out (by kernel_rfl)) (fun _ _ _ h => h) (Or.inl ⟨by rfl, ?_⟩) ?_ ?_
                        rotate_left
                        · intro w'
                          go_simp
                          with_reducible rfl
                        rotate_left
                        · simp only [Act.put, List.setIfInBounds_toArray, List.set_cons_zero, List.set_cons_succ, i64_w, i32_w]
                          rfl
                        refine pure_ (i := 5) (N := some 8) (v := ?_) (a' := ?_) #[true, false, false, false, false, true, false, false, false, false, false, false, false, false, false, false, false, false, false, false, false, false, false, false, false, false, false] rfl rfl (any_of HT_.out (by kernel_rfl)) (fun _ _ _ h => h) (Or.inl ⟨by rfl, ?_⟩) ?_ ?_
                        rotate_left
                        · intro w'
                          go_simp
                          with_reducible rfl
                        rotate_left
                        · simp only [Act.put, List.setIfInBounds_toArray, List.set_cons_zero, List.set_cons_succ, i64_w, i32_w]
                          rfl
                        refine pure_ (i := 10) (N := some 13) (v := ?_) (a' := ?_) #[true, false, false, false, false, true, false, false, false, false, true, false, false, false, false, false, false, false, false, false, false, false, false, false, false, false, false] rfl rfl (any_of HT_.out (by kernel_rfl)) (fun _ _ _ h => h) (Or.inl ⟨by rfl, ?_⟩) ?_ ?_
                        rotate_left
                        · intro w'
                          go_simp
                          with_reducible rfl
                        rotate_left
                        · simp only [Act.put, List.setIfInBounds_toArray, List.set_cons_zero, List.set_cons_succ, i64_w, i32_w]
                          rfl
                        refine pure_ (i := 15) (N := some 18) (v := ?_) (a' := ?_) #[true, false, false, false, false, true, false, false, false, false, true, false, false, false, false, true, false, false, false, false, false, false, false, false, false, false, false] rfl rfl (any_of HT_.out (by kernel_rfl)) (fun _ _ _ h => h) (Or.inl ⟨by rfl, ?_⟩) ?_ ?_
                        rotate_left
                        · intro w'
                          go_simp
                          with_reducible rfl
                        rotate_left
                        · simp only [Act.put, List.setIfInBounds_toArray, List.set_cons_zero, List.set_cons_succ, i64_w, i32_w]
                          rfl
                        refine pure_ (i := 21) (N := some 24) (v := ?_) (a' := ?_) #[true, false, false, false, false, true, false, false, false, false, true, false, false, false, false, true, false, false, false, false, false, true, false, false, false, false, false] rfl rfl (any_of HT_.out (by kernel_rfl)) (fun _ _ _ h => h) (Or.inl ⟨by rfl, ?_⟩) ?_ ?_
                        rotate_left
                        · intro w'
                          go_simp
                          with_reducible rfl
                        rotate_left
                        · simp only [Act.put, List.setIfInBounds_toArray, List.set_cons_zero, List.set_cons_succ, i64_w, i32_w]
                          rfl
                        refine inv_at [1, 2, 3, 4, 6, 7, 8, 9, 11, 12, 13, 14, 16, 17, 18, 19, 20, 22, 23, 24, 25, 26] (fun a0_ b a w' => ∃ (v117 : Value) (adz_v117 : Addr) (m23_ : Value), a = putSel a0_ b [(1, 4, .int .i64 a0_0), (2, 5, .string t112), (3, 6, .string ((⟨#[108, 101, 97, 100, 32]⟩ : ByteArray) ++ t112)), (4, 7, .string (((⟨#[108, 101, 97, 100, 32]⟩ : ByteArray) ++ t112) ++ (⟨#[32, 97, 116, 32]⟩ : ByteArray))), (6, 9, .int .i64 a0_1), (7, 10, .string t113), (8, 11, .string ((((⟨#[108, 101, 97, 100, 32]⟩ : ByteArray) ++ t112) ++ (⟨#[32, 97, 116, 32]⟩ : ByteArray)) ++ t113)), (9, 12, .string (((((⟨#[108, 101, 97, 100, 32]⟩ : ByteArray) ++ t112) ++ (⟨#[32, 97, 116, 32]⟩ : ByteArray)) ++ t113) ++ (⟨#[58, 32, 115, 105, 122, 101, 32]⟩ : ByteArray))), (11, 14, .int .i64 a0_2), (12, 15, .string t114), (13, 16, .string ((((((⟨#[108, 101, 97, 100, 32]⟩ : ByteArray) ++ t112) ++ (⟨#[32, 97, 116, 32]⟩ : ByteArray)) ++ t113) ++ (⟨#[58, 32, 115, 105, 122, 101, 32]⟩ : ByteArray)) ++ t114)), (14, 17, .string (((((((⟨#[108, 101, 97, 100, 32]⟩ : ByteArray) ++ t112) ++ (⟨#[32, 97, 116, 32]⟩ : ByteArray)) ++ t113) ++ (⟨#[58, 32, 115, 105, 122, 101, 32]⟩ : ByteArray)) ++ t114) ++ (⟨#[32, 101, 97, 115, 101, 32]⟩ : ByteArray))), (16, 19, .int .i64 a0_3), (17, 20, .string t115), (18, 21, .string ((((((((⟨#[108, 101, 97, 100, 32]⟩ : ByteArray) ++ t112) ++ (⟨#[32, 97, 116, 32]⟩ : ByteArray)) ++ t113) ++ (⟨#[58, 32, 115, 105, 122, 101, 32]⟩ : ByteArray)) ++ t114) ++ (⟨#[32, 101, 97, 115, 101, 32]⟩ : ByteArray)) ++ t115)), (19, 22, .string (((((((((⟨#[108, 101, 97, 100, 32]⟩ : ByteArray) ++ t112) ++ (⟨#[32, 97, 116, 32]⟩ : ByteArray)) ++ t113) ++ (⟨#[58, 32, 115, 105, 122, 101, 32]⟩ : ByteArray)) ++ t114) ++ (⟨#[32, 101, 97, 115, 101, 32]⟩ : ByteArray)) ++ t115) ++ (⟨#[32]⟩ : ByteArray))), (20, 23, v117), (22, 25, .int .i64 a0_4), (23, 26, m23_), (24, 27, .string (rdOf ByteArray.empty y116 a0_4)), (25, 28, .string ((((((((((⟨#[108, 101, 97, 100, 32]⟩ : ByteArray) ++ t112) ++ (⟨#[32, 97, 116, 32]⟩ : ByteArray)) ++ t113) ++ (⟨#[58, 32, 115, 105, 122, 101, 32]⟩ : ByteArray)) ++ t114) ++ (⟨#[32, 101, 97, 115, 101, 32]⟩ : ByteArray)) ++ t115) ++ (⟨#[32]⟩ : ByteArray)) ++ (rdOf ByteArray.empty y116 a0_4))), (26, 2, .string ((((((((((⟨#[108, 101, 97, 100, 32]⟩ : ByteArray) ++ t112) ++ (⟨#[32, 97, 116, 32]⟩ : ByteArray)) ++ t113) ++ (⟨#[58, 32, 115, 105, 122, 101, 32]⟩ : ByteArray)) ++ t114) ++ (⟨#[32, 101, 97, 115, 101, 32]⟩ : ByteArray)) ++ t115) ++ (⟨#[32]⟩ : ByteArray)) ++ (rdOf ByteArray.empty y116 a0_4)))] ∧ (w'.heap[gb111]? = some (.cells #[.int .i64 a0_0, .int .i64 a0_1, .int .i64 a0_2, .int .i64 a0_3, .int .i64 a0_4] 26 (0, 0))) ∧ (Below w.heap.size w w') ∧ (b 20 = true → Kd.R Kd.string 9 w' w.heap.size (fun _ => True) v117 y116) ∧ (b 20 = true → ∃ c_, (v117 : Value) = .slice (some adz_v117) y116.length c_) ∧ (b 23 = true → (m23_ : Value) = .pointer (some (adz_v117.add (a0_4).toNat)))) HT_.out HW_.out (by kernel_rfl) (by kernel_rfl) ?_ ?_ ?_
                        · exact ⟨.bool false, ⟨0, 0, none⟩, .bool false, by simp only [putSel, Bool.false_eq_true, if_false], BK111.out, HB.out, fun h_ => absurd h_ (by decide), fun h_ => absurd h_ (by decide), fun h_ => absurd h_ (by decide)⟩
                        · skip
                          clear BK111 HB
                          refine steps_cons ?_ ?_
                          · rintro b a w' ⟨v117, adz_v117, m23_, ha, Q_BK111, Q_HB, Q_HO118, Q_HA_HO118, Q_X23_⟩ hb_ hon hoff
                            refine ⟨_, rfl, fun K hK => ?_⟩
                            have e3 : a.tmps[3]? = some (.pointer (some ⟨gb111, 0, none⟩)) := by rw [ha]; exact (putSel_off rfl).trans rfl
                            replace ha := Aside0.mk ha
                            have BK111 := Aside0.mk Q_BK111
                            have HB := Aside0.mk Q_HB
                            have hc0_ := ci BK111.out 0 a0_0 rfl
                            have hc1_ := ci BK111.out 1 a0_1 rfl
                            have hc2_ := ci BK111.out 2 a0_2 rfl
                            have hc3_ := ci BK111.out 3 a0_3 rfl
                            have hc4_ := ci BK111.out 4 a0_4 rfl
                            refine value_ (w1 := w') (v := .int .i64 a0_0) (by rfl) rfl ?_ ?_
                            · go_simp
                              (try simp only [i64_w])
                              try rfl
                              try (have e_ := c16; simp only [ByteArray.size_append, show (⟨#[108, 101, 97, 100, 32]⟩ : ByteArray).size = 5 from rfl, show (⟨#[32, 97, 116, 32]⟩ : ByteArray).size = 4 from rfl, show (⟨#[58, 32, 115, 105, 122, 101, 32]⟩ : ByteArray).size = 7 from rfl, show (⟨#[32, 101, 97, 115, 101, 32]⟩ : ByteArray).size = 6 from rfl, show (⟨#[111, 112, 101, 110]⟩ : ByteArray).size = 4 from rfl, show (⟨#[116, 97, 107, 101, 110]⟩ : ByteArray).size = 5 from rfl, show (⟨#[100, 111, 110, 101]⟩ : ByteArray).size = 4 from rfl, show (⟨#[101, 110, 100, 101, 100]⟩ : ByteArray).size = 5 from rfl, show (⟨#[32]⟩ : ByteArray).size = 1 from rfl] at e_; omega)
                            refine hK.out _ _ ⟨v117, adz_v117, m23_, (by rw [ha.out]; exact putSel_upk 0 hb_ rfl rfl rfl), Q_BK111, Q_HB, Q_HO118, Q_HA_HO118, Q_X23_⟩
                          refine steps_cons ?_ ?_
                          · rintro b a w' ⟨v117, adz_v117, m23_, ha, Q_BK111, Q_HB, Q_HO118, Q_HA_HO118, Q_X23_⟩ hb_ hon hoff
                            refine ⟨_, rfl, fun K hK => ?_⟩
                            have e4 : a.tmps[4]? = some (.int .i64 a0_0) := by rw [ha]; exact putSel_on (e := (1, 4, .int .i64 a0_0)) 0 rfl rfl (hon 1 (by kernel_rfl)) rfl
                            replace ha := Aside0.mk ha
                            have BK111 := Aside0.mk Q_BK111
                            have HB := Aside0.mk Q_HB
                            refine goes_ Tryd.func48 (by kernel_rfl) rfl #[.int .i64 a0_0] (by rfl) rfl rfl (by first | (simp only [List.map_toArray, List.map_cons, List.map_nil, Act.eval, Array.getD_eq_getD_getElem?, Option.getD_some, e4]; done) | (simp only [List.map_toArray, List.map_cons, List.map_nil, Act.eval, Array.getD_eq_getD_getElem?, Option.getD_some, e4]; rfl)) ?_
                            with_reducible refine (spec_l1Num.calls k a0_0 t112 _ A2.out).mono ?_
                            rintro e w19 ⟨rfl, hb⟩
                            refine ⟨_, rfl, ?_⟩
                            have n0_ := Aside0.mk (blk_below (g := gb111) (o := .cells #[.int .i64 a0_0, .int .i64 a0_1, .int .i64 a0_2, .int .i64 a0_3, .int .i64 a0_4] 26 (0, 0)) (upK BK111.out) hb)
                            have n1_ := Aside0.mk (below_step (upB1 HB.out GE111.out) hb)
                            have z_HO118 := fun (h0_ : b 20 = true) => (show Kd.R Kd.string 9 w19 w.heap.size (fun _ => True) v117 y116 from by first | exact (Kd.R_below (by (with_reducible repeat (first | apply Kd.R_alloc | apply Kd.R_drewN | apply Kd.R_drew)); exact (Q_HO118 h0_)) hb) | exact Kd.R_mono (Kd.R_below (by (with_reducible repeat (first | apply Kd.R_alloc | apply Kd.R_drewN | apply Kd.R_drew)); exact (Q_HO118 h0_)) hb) (fun _ h_ => by first | trivial | exact h_ | exact h_.1))
                            clear BK111
                            clear HB
                            have BK111 := n0_
                            have HB := n1_
                            clear n0_ n1_
                            (try clear hb)
                            (try clear hk)
                            refine hK.out _ _ ⟨v117, adz_v117, m23_, (by rw [ha.out]; exact putSel_upk 1 hb_ rfl rfl rfl), (upK BK111.out), (upB1 HB.out GE111.out), z_HO118, Q_HA_HO118, Q_X23_⟩
                          refine steps_cons ?_ ?_
                          · rintro b a w' ⟨v117, adz_v117, m23_, ha, Q_BK111, Q_HB, Q_HO118, Q_HA_HO118, Q_X23_⟩ hb_ hon hoff
                            refine ⟨_, rfl, fun K hK => ?_⟩
                            have e5 : a.tmps[5]? = some (.string t112) := by rw [ha]; exact putSel_on (e := (2, 5, .string t112)) 1 rfl rfl (hon 2 (by kernel_rfl)) rfl
                            replace ha := Aside0.mk ha
                            have BK111 := Aside0.mk Q_BK111
                            have HB := Aside0.mk Q_HB
                            refine value_ (w1 := w') (v := .string ((⟨#[108, 101, 97, 100, 32]⟩ : ByteArray) ++ t112)) (by rfl) rfl ?_ ?_
                            · go_simp
                              (try simp only [i64_w])
                              try rfl
                              try (have e_ := c16; simp only [ByteArray.size_append, show (⟨#[108, 101, 97, 100, 32]⟩ : ByteArray).size = 5 from rfl, show (⟨#[32, 97, 116, 32]⟩ : ByteArray).size = 4 from rfl, show (⟨#[58, 32, 115, 105, 122, 101, 32]⟩ : ByteArray).size = 7 from rfl, show (⟨#[32, 101, 97, 115, 101, 32]⟩ : ByteArray).size = 6 from rfl, show (⟨#[111, 112, 101, 110]⟩ : ByteArray).size = 4 from rfl, show (⟨#[116, 97, 107, 101, 110]⟩ : ByteArray).size = 5 from rfl, show (⟨#[100, 111, 110, 101]⟩ : ByteArray).size = 4 from rfl, show (⟨#[101, 110, 100, 101, 100]⟩ : ByteArray).size = 5 from rfl, show (⟨#[32]⟩ : ByteArray).size = 1 from rfl] at e_; omega)
                            refine hK.out _ _ ⟨v117, adz_v117, m23_, (by rw [ha.out]; exact putSel_upk 2 hb_ rfl rfl rfl), Q_BK111, Q_HB, Q_HO118, Q_HA_HO118, Q_X23_⟩
                          refine steps_cons ?_ ?_
                          · rintro b a w' ⟨v117, adz_v117, m23_, ha, Q_BK111, Q_HB, Q_HO118, Q_HA_HO118, Q_X23_⟩ hb_ hon hoff
                            refine ⟨_, rfl, fun K hK => ?_⟩
                            have e6 : a.tmps[6]? = some (.string ((⟨#[108, 101, 97, 100, 32]⟩ : ByteArray) ++ t112)) := by rw [ha]; exact putSel_on (e := (3, 6, .string ((⟨#[108, 101, 97, 100, 32]⟩ : ByteArray) ++ t112))) 2 rfl rfl (hon 3 (by kernel_rfl)) rfl
                            replace ha := Aside0.mk ha
                            have BK111 := Aside0.mk Q_BK111
                            have HB := Aside0.mk Q_HB
                            refine value_ (w1 := w') (v := .string (((⟨#[108, 101, 97, 100, 32]⟩ : ByteArray) ++ t112) ++ (⟨#[32, 97, 116, 32]⟩ : ByteArray))) (by rfl) rfl ?_ ?_
                            · go_simp
                              (try simp only [i64_w])
                              try rfl
                              try (have e_ := c16; simp only [ByteArray.size_append, show (⟨#[108, 101, 97, 100, 32]⟩ : ByteArray).size = 5 from rfl, show (⟨#[32, 97, 116, 32]⟩ : ByteArray).size = 4 from rfl, show (⟨#[58, 32, 115, 105, 122, 101, 32]⟩ : ByteArray).size = 7 from rfl, show (⟨#[32, 101, 97, 115, 101, 32]⟩ : ByteArray).size = 6 from rfl, show (⟨#[111, 112, 101, 110]⟩ : ByteArray).size = 4 from rfl, show (⟨#[116, 97, 107, 101, 110]⟩ : ByteArray).size = 5 from rfl, show (⟨#[100, 111, 110, 101]⟩ : ByteArray).size = 4 from rfl, show (⟨#[101, 110, 100, 101, 100]⟩ : ByteArray).size = 5 from rfl, show (⟨#[32]⟩ : ByteArray).size = 1 from rfl] at e_; omega)
                            refine hK.out _ _ ⟨v117, adz_v117, m23_, (by rw [ha.out]; exact putSel_upk 3 hb_ rfl rfl rfl), Q_BK111, Q_HB, Q_HO118, Q_HA_HO118, Q_X23_⟩
                          refine steps_cons ?_ ?_
                          · rintro b a w' ⟨v117, adz_v117, m23_, ha, Q_BK111, Q_HB, Q_HO118, Q_HA_HO118, Q_X23_⟩ hb_ hon hoff
                            refine ⟨_, rfl, fun K hK => ?_⟩
                            have e8 : a.tmps[8]? = some (.pointer (some ⟨gb111, 1, none⟩)) := by rw [ha]; exact (putSel_off rfl).trans rfl
                            replace ha := Aside0.mk ha
                            have BK111 := Aside0.mk Q_BK111
                            have HB := Aside0.mk Q_HB
                            have hc0_ := ci BK111.out 0 a0_0 rfl
                            have hc1_ := ci BK111.out 1 a0_1 rfl
                            have hc2_ := ci BK111.out 2 a0_2 rfl
                            have hc3_ := ci BK111.out 3 a0_3 rfl
                            have hc4_ := ci BK111.out 4 a0_4 rfl
                            refine value_ (w1 := w') (v := .int .i64 a0_1) (by rfl) rfl ?_ ?_
                            · go_simp
                              (try simp only [i64_w])
                              try rfl
                              try (have e_ := c16; simp only [ByteArray.size_append, show (⟨#[108, 101, 97, 100, 32]⟩ : ByteArray).size = 5 from rfl, show (⟨#[32, 97, 116, 32]⟩ : ByteArray).size = 4 from rfl, show (⟨#[58, 32, 115, 105, 122, 101, 32]⟩ : ByteArray).size = 7 from rfl, show (⟨#[32, 101, 97, 115, 101, 32]⟩ : ByteArray).size = 6 from rfl, show (⟨#[111, 112, 101, 110]⟩ : ByteArray).size = 4 from rfl, show (⟨#[116, 97, 107, 101, 110]⟩ : ByteArray).size = 5 from rfl, show (⟨#[100, 111, 110, 101]⟩ : ByteArray).size = 4 from rfl, show (⟨#[101, 110, 100, 101, 100]⟩ : ByteArray).size = 5 from rfl, show (⟨#[32]⟩ : ByteArray).size = 1 from rfl] at e_; omega)
                            refine hK.out _ _ ⟨v117, adz_v117, m23_, (by rw [ha.out]; exact putSel_upk 4 hb_ rfl rfl rfl), Q_BK111, Q_HB, Q_HO118, Q_HA_HO118, Q_X23_⟩
                          refine steps_cons ?_ ?_
                          · rintro b a w' ⟨v117, adz_v117, m23_, ha, Q_BK111, Q_HB, Q_HO118, Q_HA_HO118, Q_X23_⟩ hb_ hon hoff
                            refine ⟨_, rfl, fun K hK => ?_⟩
                            have e9 : a.tmps[9]? = some (.int .i64 a0_1) := by rw [ha]; exact putSel_on (e := (6, 9, .int .i64 a0_1)) 4 rfl rfl (hon 6 (by kernel_rfl)) rfl
                            replace ha := Aside0.mk ha
                            have BK111 := Aside0.mk Q_BK111
                            have HB := Aside0.mk Q_HB
                            refine goes_ Tryd.func48 (by kernel_rfl) rfl #[.int .i64 a0_1] (by rfl) rfl rfl (by first | (simp only [List.map_toArray, List.map_cons, List.map_nil, Act.eval, Array.getD_eq_getD_getElem?, Option.getD_some, e9]; done) | (simp only [List.map_toArray, List.map_cons, List.map_nil, Act.eval, Array.getD_eq_getD_getElem?, Option.getD_some, e9]; rfl)) ?_
                            with_reducible refine (spec_l1Num.calls k a0_1 t113 _ A5.out).mono ?_
                            rintro e w21 ⟨rfl, hb⟩
                            refine ⟨_, rfl, ?_⟩
                            have n0_ := Aside0.mk (blk_below (g := gb111) (o := .cells #[.int .i64 a0_0, .int .i64 a0_1, .int .i64 a0_2, .int .i64 a0_3, .int .i64 a0_4] 26 (0, 0)) (upK BK111.out) hb)
                            have n1_ := Aside0.mk (below_step (upB1 HB.out GE111.out) hb)
                            have z_HO118 := fun (h0_ : b 20 = true) => (show Kd.R Kd.string 9 w21 w.heap.size (fun _ => True) v117 y116 from by first | exact (Kd.R_below (by (with_reducible repeat (first | apply Kd.R_alloc | apply Kd.R_drewN | apply Kd.R_drew)); exact (Q_HO118 h0_)) hb) | exact Kd.R_mono (Kd.R_below (by (with_reducible repeat (first | apply Kd.R_alloc | apply Kd.R_drewN | apply Kd.R_drew)); exact (Q_HO118 h0_)) hb) (fun _ h_ => by first | trivial | exact h_ | exact h_.1))
                            clear BK111
                            clear HB
                            have BK111 := n0_
                            have HB := n1_
                            clear n0_ n1_
                            (try clear hb)
                            (try clear hk)
                            refine hK.out _ _ ⟨v117, adz_v117, m23_, (by rw [ha.out]; exact putSel_upk 5 hb_ rfl rfl rfl), (upK BK111.out), (upB1 HB.out GE111.out), z_HO118, Q_HA_HO118, Q_X23_⟩
                          refine steps_cons ?_ ?_
                          · rintro b a w' ⟨v117, adz_v117, m23_, ha, Q_BK111, Q_HB, Q_HO118, Q_HA_HO118, Q_X23_⟩ hb_ hon hoff
                            refine ⟨_, rfl, fun K hK => ?_⟩
                            have e7 : a.tmps[7]? = some (.string (((⟨#[108, 101, 97, 100, 32]⟩ : ByteArray) ++ t112) ++ (⟨#[32, 97, 116, 32]⟩ : ByteArray))) := by rw [ha]; exact putSel_on (e := (4, 7, .string (((⟨#[108, 101, 97, 100, 32]⟩ : ByteArray) ++ t112) ++ (⟨#[32, 97, 116, 32]⟩ : ByteArray)))) 3 rfl rfl (hon 4 (by kernel_rfl)) rfl
                            have e10 : a.tmps[10]? = some (.string t113) := by rw [ha]; exact putSel_on (e := (7, 10, .string t113)) 5 rfl rfl (hon 7 (by kernel_rfl)) rfl
                            replace ha := Aside0.mk ha
                            have BK111 := Aside0.mk Q_BK111
                            have HB := Aside0.mk Q_HB
                            refine value_ (w1 := w') (v := .string ((((⟨#[108, 101, 97, 100, 32]⟩ : ByteArray) ++ t112) ++ (⟨#[32, 97, 116, 32]⟩ : ByteArray)) ++ t113)) (by rfl) rfl ?_ ?_
                            · go_simp
                              (try simp only [i64_w])
                              try rfl
                              try (have e_ := c16; simp only [ByteArray.size_append, show (⟨#[108, 101, 97, 100, 32]⟩ : ByteArray).size = 5 from rfl, show (⟨#[32, 97, 116, 32]⟩ : ByteArray).size = 4 from rfl, show (⟨#[58, 32, 115, 105, 122, 101, 32]⟩ : ByteArray).size = 7 from rfl, show (⟨#[32, 101, 97, 115, 101, 32]⟩ : ByteArray).size = 6 from rfl, show (⟨#[111, 112, 101, 110]⟩ : ByteArray).size = 4 from rfl, show (⟨#[116, 97, 107, 101, 110]⟩ : ByteArray).size = 5 from rfl, show (⟨#[100, 111, 110, 101]⟩ : ByteArray).size = 4 from rfl, show (⟨#[101, 110, 100, 101, 100]⟩ : ByteArray).size = 5 from rfl, show (⟨#[32]⟩ : ByteArray).size = 1 from rfl] at e_; omega)
                            refine hK.out _ _ ⟨v117, adz_v117, m23_, (by rw [ha.out]; exact putSel_upk 6 hb_ rfl rfl rfl), Q_BK111, Q_HB, Q_HO118, Q_HA_HO118, Q_X23_⟩
                          refine steps_cons ?_ ?_
                          · rintro b a w' ⟨v117, adz_v117, m23_, ha, Q_BK111, Q_HB, Q_HO118, Q_HA_HO118, Q_X23_⟩ hb_ hon hoff
                            refine ⟨_, rfl, fun K hK => ?_⟩
                            have e11 : a.tmps[11]? = some (.string ((((⟨#[108, 101, 97, 100, 32]⟩ : ByteArray) ++ t112) ++ (⟨#[32, 97, 116, 32]⟩ : ByteArray)) ++ t113)) := by rw [ha]; exact putSel_on (e := (8, 11, .string ((((⟨#[108, 101, 97, 100, 32]⟩ : ByteArray) ++ t112) ++ (⟨#[32, 97, 116, 32]⟩ : ByteArray)) ++ t113))) 6 rfl rfl (hon 8 (by kernel_rfl)) rfl
                            replace ha := Aside0.mk ha
                            have BK111 := Aside0.mk Q_BK111
                            have HB := Aside0.mk Q_HB
                            refine value_ (w1 := w') (v := .string (((((⟨#[108, 101, 97, 100, 32]⟩ : ByteArray) ++ t112) ++ (⟨#[32, 97, 116, 32]⟩ : ByteArray)) ++ t113) ++ (⟨#[58, 32, 115, 105, 122, 101, 32]⟩ : ByteArray))) (by rfl) rfl ?_ ?_
                            · go_simp
                              (try simp only [i64_w])
                              try rfl
                              try (have e_ := c16; simp only [ByteArray.size_append, show (⟨#[108, 101, 97, 100, 32]⟩ : ByteArray).size = 5 from rfl, show (⟨#[32, 97, 116, 32]⟩ : ByteArray).size = 4 from rfl, show (⟨#[58, 32, 115, 105, 122, 101, 32]⟩ : ByteArray).size = 7 from rfl, show (⟨#[32, 101, 97, 115, 101, 32]⟩ : ByteArray).size = 6 from rfl, show (⟨#[111, 112, 101, 110]⟩ : ByteArray).size = 4 from rfl, show (⟨#[116, 97, 107, 101, 110]⟩ : ByteArray).size = 5 from rfl, show (⟨#[100, 111, 110, 101]⟩ : ByteArray).size = 4 from rfl, show (⟨#[101, 110, 100, 101, 100]⟩ : ByteArray).size = 5 from rfl, show (⟨#[32]⟩ : ByteArray).size = 1 from rfl] at e_; omega)
                            refine hK.out _ _ ⟨v117, adz_v117, m23_, (by rw [ha.out]; exact putSel_upk 7 hb_ rfl rfl rfl), Q_BK111, Q_HB, Q_HO118, Q_HA_HO118, Q_X23_⟩
                          refine steps_cons ?_ ?_
                          · rintro b a w' ⟨v117, adz_v117, m23_, ha, Q_BK111, Q_HB, Q_HO118, Q_HA_HO118, Q_X23_⟩ hb_ hon hoff
                            refine ⟨_, rfl, fun K hK => ?_⟩
                            have e13 : a.tmps[13]? = some (.pointer (some ⟨gb111, 2, none⟩)) := by rw [ha]; exact (putSel_off rfl).trans rfl
                            replace ha := Aside0.mk ha
                            have BK111 := Aside0.mk Q_BK111
                            have HB := Aside0.mk Q_HB
                            have hc0_ := ci BK111.out 0 a0_0 rfl
                            have hc1_ := ci BK111.out 1 a0_1 rfl
                            have hc2_ := ci BK111.out 2 a0_2 rfl
                            have hc3_ := ci BK111.out 3 a0_3 rfl
                            have hc4_ := ci BK111.out 4 a0_4 rfl
                            refine value_ (w1 := w') (v := .int .i64 a0_2) (by rfl) rfl ?_ ?_
                            · go_simp
                              (try simp only [i64_w])
                              try rfl
                              try (have e_ := c16; simp only [ByteArray.size_append, show (⟨#[108, 101, 97, 100, 32]⟩ : ByteArray).size = 5 from rfl, show (⟨#[32, 97, 116, 32]⟩ : ByteArray).size = 4 from rfl, show (⟨#[58, 32, 115, 105, 122, 101, 32]⟩ : ByteArray).size = 7 from rfl, show (⟨#[32, 101, 97, 115, 101, 32]⟩ : ByteArray).size = 6 from rfl, show (⟨#[111, 112, 101, 110]⟩ : ByteArray).size = 4 from rfl, show (⟨#[116, 97, 107, 101, 110]⟩ : ByteArray).size = 5 from rfl, show (⟨#[100, 111, 110, 101]⟩ : ByteArray).size = 4 from rfl, show (⟨#[101, 110, 100, 101, 100]⟩ : ByteArray).size = 5 from rfl, show (⟨#[32]⟩ : ByteArray).size = 1 from rfl] at e_; omega)
                            refine hK.out _ _ ⟨v117, adz_v117, m23_, (by rw [ha.out]; exact putSel_upk 8 hb_ rfl rfl rfl), Q_BK111, Q_HB, Q_HO118, Q_HA_HO118, Q_X23_⟩
                          refine steps_cons ?_ ?_
                          · rintro b a w' ⟨v117, adz_v117, m23_, ha, Q_BK111, Q_HB, Q_HO118, Q_HA_HO118, Q_X23_⟩ hb_ hon hoff
                            refine ⟨_, rfl, fun K hK => ?_⟩
                            have e14 : a.tmps[14]? = some (.int .i64 a0_2) := by rw [ha]; exact putSel_on (e := (11, 14, .int .i64 a0_2)) 8 rfl rfl (hon 11 (by kernel_rfl)) rfl
                            replace ha := Aside0.mk ha
                            have BK111 := Aside0.mk Q_BK111
                            have HB := Aside0.mk Q_HB
                            refine goes_ Tryd.func48 (by kernel_rfl) rfl #[.int .i64 a0_2] (by rfl) rfl rfl (by first | (simp only [List.map_toArray, List.map_cons, List.map_nil, Act.eval, Array.getD_eq_getD_getElem?, Option.getD_some, e14]; done) | (simp only [List.map_toArray, List.map_cons, List.map_nil, Act.eval, Array.getD_eq_getD_getElem?, Option.getD_some, e14]; rfl)) ?_
                            with_reducible refine (spec_l1Num.calls k a0_2 t114 _ A8.out).mono ?_
                            rintro e w22 ⟨rfl, hb⟩
                            refine ⟨_, rfl, ?_⟩
                            have n0_ := Aside0.mk (blk_below (g := gb111) (o := .cells #[.int .i64 a0_0, .int .i64 a0_1, .int .i64 a0_2, .int .i64 a0_3, .int .i64 a0_4] 26 (0, 0)) (upK BK111.out) hb)
                            have n1_ := Aside0.mk (below_step (upB1 HB.out GE111.out) hb)
                            have z_HO118 := fun (h0_ : b 20 = true) => (show Kd.R Kd.string 9 w22 w.heap.size (fun _ => True) v117 y116 from by first | exact (Kd.R_below (by (with_reducible repeat (first | apply Kd.R_alloc | apply Kd.R_drewN | apply Kd.R_drew)); exact (Q_HO118 h0_)) hb) | exact Kd.R_mono (Kd.R_below (by (with_reducible repeat (first | apply Kd.R_alloc | apply Kd.R_drewN | apply Kd.R_drew)); exact (Q_HO118 h0_)) hb) (fun _ h_ => by first | trivial | exact h_ | exact h_.1))
                            clear BK111
                            clear HB
                            have BK111 := n0_
                            have HB := n1_
                            clear n0_ n1_
                            (try clear hb)
                            (try clear hk)
                            refine hK.out _ _ ⟨v117, adz_v117, m23_, (by rw [ha.out]; exact putSel_upk 9 hb_ rfl rfl rfl), (upK BK111.out), (upB1 HB.out GE111.out), z_HO118, Q_HA_HO118, Q_X23_⟩
                          refine steps_cons ?_ ?_
                          · rintro b a w' ⟨v117, adz_v117, m23_, ha, Q_BK111, Q_HB, Q_HO118, Q_HA_HO118, Q_X23_⟩ hb_ hon hoff
                            refine ⟨_, rfl, fun K hK => ?_⟩
                            have e12 : a.tmps[12]? = some (.string (((((⟨#[108, 101, 97, 100, 32]⟩ : ByteArray) ++ t112) ++ (⟨#[32, 97, 116, 32]⟩ : ByteArray)) ++ t113) ++ (⟨#[58, 32, 115, 105, 122, 101, 32]⟩ : ByteArray))) := by rw [ha]; exact putSel_on (e := (9, 12, .string (((((⟨#[108, 101, 97, 100, 32]⟩ : ByteArray) ++ t112) ++ (⟨#[32, 97, 116, 32]⟩ : ByteArray)) ++ t113) ++ (⟨#[58, 32, 115, 105, 122, 101, 32]⟩ : ByteArray)))) 7 rfl rfl (hon 9 (by kernel_rfl)) rfl
                            have e15 : a.tmps[15]? = some (.string t114) := by rw [ha]; exact putSel_on (e := (12, 15, .string t114)) 9 rfl rfl (hon 12 (by kernel_rfl)) rfl
                            replace ha := Aside0.mk ha
                            have BK111 := Aside0.mk Q_BK111
                            have HB := Aside0.mk Q_HB
                            refine value_ (w1 := w') (v := .string ((((((⟨#[108, 101, 97, 100, 32]⟩ : ByteArray) ++ t112) ++ (⟨#[32, 97, 116, 32]⟩ : ByteArray)) ++ t113) ++ (⟨#[58, 32, 115, 105, 122, 101, 32]⟩ : ByteArray)) ++ t114)) (by rfl) rfl ?_ ?_
                            · go_simp
                              (try simp only [i64_w])
                              try rfl
                              try (have e_ := c16; simp only [ByteArray.size_append, show (⟨#[108, 101, 97, 100, 32]⟩ : ByteArray).size = 5 from rfl, show (⟨#[32, 97, 116, 32]⟩ : ByteArray).size = 4 from rfl, show (⟨#[58, 32, 115, 105, 122, 101, 32]⟩ : ByteArray).size = 7 from rfl, show (⟨#[32, 101, 97, 115, 101, 32]⟩ : ByteArray).size = 6 from rfl, show (⟨#[111, 112, 101, 110]⟩ : ByteArray).size = 4 from rfl, show (⟨#[116, 97, 107, 101, 110]⟩ : ByteArray).size = 5 from rfl, show (⟨#[100, 111, 110, 101]⟩ : ByteArray).size = 4 from rfl, show (⟨#[101, 110, 100, 101, 100]⟩ : ByteArray).size = 5 from rfl, show (⟨#[32]⟩ : ByteArray).size = 1 from rfl] at e_; omega)
                            refine hK.out _ _ ⟨v117, adz_v117, m23_, (by rw [ha.out]; exact putSel_upk 10 hb_ rfl rfl rfl), Q_BK111, Q_HB, Q_HO118, Q_HA_HO118, Q_X23_⟩
                          refine steps_cons ?_ ?_
                          · rintro b a w' ⟨v117, adz_v117, m23_, ha, Q_BK111, Q_HB, Q_HO118, Q_HA_HO118, Q_X23_⟩ hb_ hon hoff
                            refine ⟨_, rfl, fun K hK => ?_⟩
                            have e16 : a.tmps[16]? = some (.string ((((((⟨#[108, 101, 97, 100, 32]⟩ : ByteArray) ++ t112) ++ (⟨#[32, 97, 116, 32]⟩ : ByteArray)) ++ t113) ++ (⟨#[58, 32, 115, 105, 122, 101, 32]⟩ : ByteArray)) ++ t114)) := by rw [ha]; exact putSel_on (e := (13, 16, .string ((((((⟨#[108, 101, 97, 100, 32]⟩ : ByteArray) ++ t112) ++ (⟨#[32, 97, 116, 32]⟩ : ByteArray)) ++ t113) ++ (⟨#[58, 32, 115, 105, 122, 101, 32]⟩ : ByteArray)) ++ t114))) 10 rfl rfl (hon 13 (by kernel_rfl)) rfl
                            replace ha := Aside0.mk ha
                            have BK111 := Aside0.mk Q_BK111
                            have HB := Aside0.mk Q_HB
                            refine value_ (w1 := w') (v := .string (((((((⟨#[108, 101, 97, 100, 32]⟩ : ByteArray) ++ t112) ++ (⟨#[32, 97, 116, 32]⟩ : ByteArray)) ++ t113) ++ (⟨#[58, 32, 115, 105, 122, 101, 32]⟩ : ByteArray)) ++ t114) ++ (⟨#[32, 101, 97, 115, 101, 32]⟩ : ByteArray))) (by rfl) rfl ?_ ?_
                            · go_simp
                              (try simp only [i64_w])
                              try rfl
                              try (have e_ := c16; simp only [ByteArray.size_append, show (⟨#[108, 101, 97, 100, 32]⟩ : ByteArray).size = 5 from rfl, show (⟨#[32, 97, 116, 32]⟩ : ByteArray).size = 4 from rfl, show (⟨#[58, 32, 115, 105, 122, 101, 32]⟩ : ByteArray).size = 7 from rfl, show (⟨#[32, 101, 97, 115, 101, 32]⟩ : ByteArray).size = 6 from rfl, show (⟨#[111, 112, 101, 110]⟩ : ByteArray).size = 4 from rfl, show (⟨#[116, 97, 107, 101, 110]⟩ : ByteArray).size = 5 from rfl, show (⟨#[100, 111, 110, 101]⟩ : ByteArray).size = 4 from rfl, show (⟨#[101, 110, 100, 101, 100]⟩ : ByteArray).size = 5 from rfl, show (⟨#[32]⟩ : ByteArray).size = 1 from rfl] at e_; omega)
                            refine hK.out _ _ ⟨v117, adz_v117, m23_, (by rw [ha.out]; exact putSel_upk 11 hb_ rfl rfl rfl), Q_BK111, Q_HB, Q_HO118, Q_HA_HO118, Q_X23_⟩
                          refine steps_cons ?_ ?_
                          · rintro b a w' ⟨v117, adz_v117, m23_, ha, Q_BK111, Q_HB, Q_HO118, Q_HA_HO118, Q_X23_⟩ hb_ hon hoff
                            refine ⟨_, rfl, fun K hK => ?_⟩
                            have e18 : a.tmps[18]? = some (.pointer (some ⟨gb111, 3, none⟩)) := by rw [ha]; exact (putSel_off rfl).trans rfl
                            replace ha := Aside0.mk ha
                            have BK111 := Aside0.mk Q_BK111
                            have HB := Aside0.mk Q_HB
                            have hc0_ := ci BK111.out 0 a0_0 rfl
                            have hc1_ := ci BK111.out 1 a0_1 rfl
                            have hc2_ := ci BK111.out 2 a0_2 rfl
                            have hc3_ := ci BK111.out 3 a0_3 rfl
                            have hc4_ := ci BK111.out 4 a0_4 rfl
                            refine value_ (w1 := w') (v := .int .i64 a0_3) (by rfl) rfl ?_ ?_
                            · go_simp
                              (try simp only [i64_w])
                              try rfl
                              try (have e_ := c16; simp only [ByteArray.size_append, show (⟨#[108, 101, 97, 100, 32]⟩ : ByteArray).size = 5 from rfl, show (⟨#[32, 97, 116, 32]⟩ : ByteArray).size = 4 from rfl, show (⟨#[58, 32, 115, 105, 122, 101, 32]⟩ : ByteArray).size = 7 from rfl, show (⟨#[32, 101, 97, 115, 101, 32]⟩ : ByteArray).size = 6 from rfl, show (⟨#[111, 112, 101, 110]⟩ : ByteArray).size = 4 from rfl, show (⟨#[116, 97, 107, 101, 110]⟩ : ByteArray).size = 5 from rfl, show (⟨#[100, 111, 110, 101]⟩ : ByteArray).size = 4 from rfl, show (⟨#[101, 110, 100, 101, 100]⟩ : ByteArray).size = 5 from rfl, show (⟨#[32]⟩ : ByteArray).size = 1 from rfl] at e_; omega)
                            refine hK.out _ _ ⟨v117, adz_v117, m23_, (by rw [ha.out]; exact putSel_upk 12 hb_ rfl rfl rfl), Q_BK111, Q_HB, Q_HO118, Q_HA_HO118, Q_X23_⟩
                          refine steps_cons ?_ ?_
                          · rintro b a w' ⟨v117, adz_v117, m23_, ha, Q_BK111, Q_HB, Q_HO118, Q_HA_HO118, Q_X23_⟩ hb_ hon hoff
                            refine ⟨_, rfl, fun K hK => ?_⟩
                            have e19 : a.tmps[19]? = some (.int .i64 a0_3) := by rw [ha]; exact putSel_on (e := (16, 19, .int .i64 a0_3)) 12 rfl rfl (hon 16 (by kernel_rfl)) rfl
                            replace ha := Aside0.mk ha
                            have BK111 := Aside0.mk Q_BK111
                            have HB := Aside0.mk Q_HB
                            refine goes_ Tryd.func48 (by kernel_rfl) rfl #[.int .i64 a0_3] (by rfl) rfl rfl (by first | (simp only [List.map_toArray, List.map_cons, List.map_nil, Act.eval, Array.getD_eq_getD_getElem?, Option.getD_some, e19]; done) | (simp only [List.map_toArray, List.map_cons, List.map_nil, Act.eval, Array.getD_eq_getD_getElem?, Option.getD_some, e19]; rfl)) ?_
                            with_reducible refine (spec_l1Num.calls k a0_3 t115 _ A11.out).mono ?_
                            rintro e w23 ⟨rfl, hb⟩
                            refine ⟨_, rfl, ?_⟩
                            have n0_ := Aside0.mk (blk_below (g := gb111) (o := .cells #[.int .i64 a0_0, .int .i64 a0_1, .int .i64 a0_2, .int .i64 a0_3, .int .i64 a0_4] 26 (0, 0)) (upK BK111.out) hb)
                            have n1_ := Aside0.mk (below_step (upB1 HB.out GE111.out) hb)
                            have z_HO118 := fun (h0_ : b 20 = true) => (show Kd.R Kd.string 9 w23 w.heap.size (fun _ => True) v117 y116 from by first | exact (Kd.R_below (by (with_reducible repeat (first | apply Kd.R_alloc | apply Kd.R_drewN | apply Kd.R_drew)); exact (Q_HO118 h0_)) hb) | exact Kd.R_mono (Kd.R_below (by (with_reducible repeat (first | apply Kd.R_alloc | apply Kd.R_drewN | apply Kd.R_drew)); exact (Q_HO118 h0_)) hb) (fun _ h_ => by first | trivial | exact h_ | exact h_.1))
                            clear BK111
                            clear HB
                            have BK111 := n0_
                            have HB := n1_
                            clear n0_ n1_
                            (try clear hb)
                            (try clear hk)
                            refine hK.out _ _ ⟨v117, adz_v117, m23_, (by rw [ha.out]; exact putSel_upk 13 hb_ rfl rfl rfl), (upK BK111.out), (upB1 HB.out GE111.out), z_HO118, Q_HA_HO118, Q_X23_⟩
                          refine steps_cons ?_ ?_
                          · rintro b a w' ⟨v117, adz_v117, m23_, ha, Q_BK111, Q_HB, Q_HO118, Q_HA_HO118, Q_X23_⟩ hb_ hon hoff
                            refine ⟨_, rfl, fun K hK => ?_⟩
                            have e17 : a.tmps[17]? = some (.string (((((((⟨#[108, 101, 97, 100, 32]⟩ : ByteArray) ++ t112) ++ (⟨#[32, 97, 116, 32]⟩ : ByteArray)) ++ t113) ++ (⟨#[58, 32, 115, 105, 122, 101, 32]⟩ : ByteArray)) ++ t114) ++ (⟨#[32, 101, 97, 115, 101, 32]⟩ : ByteArray))) := by rw [ha]; exact putSel_on (e := (14, 17, .string (((((((⟨#[108, 101, 97, 100, 32]⟩ : ByteArray) ++ t112) ++ (⟨#[32, 97, 116, 32]⟩ : ByteArray)) ++ t113) ++ (⟨#[58, 32, 115, 105, 122, 101, 32]⟩ : ByteArray)) ++ t114) ++ (⟨#[32, 101, 97, 115, 101, 32]⟩ : ByteArray)))) 11 rfl rfl (hon 14 (by kernel_rfl)) rfl
                            have e20 : a.tmps[20]? = some (.string t115) := by rw [ha]; exact putSel_on (e := (17, 20, .string t115)) 13 rfl rfl (hon 17 (by kernel_rfl)) rfl
                            replace ha := Aside0.mk ha
                            have BK111 := Aside0.mk Q_BK111
                            have HB := Aside0.mk Q_HB
                            refine value_ (w1 := w') (v := .string ((((((((⟨#[108, 101, 97, 100, 32]⟩ : ByteArray) ++ t112) ++ (⟨#[32, 97, 116, 32]⟩ : ByteArray)) ++ t113) ++ (⟨#[58, 32, 115, 105, 122, 101, 32]⟩ : ByteArray)) ++ t114) ++ (⟨#[32, 101, 97, 115, 101, 32]⟩ : ByteArray)) ++ t115)) (by rfl) rfl ?_ ?_
                            · go_simp
                              (try simp only [i64_w])
                              try rfl
                              try (have e_ := c16; simp only [ByteArray.size_append, show (⟨#[108, 101, 97, 100, 32]⟩ : ByteArray).size = 5 from rfl, show (⟨#[32, 97, 116, 32]⟩ : ByteArray).size = 4 from rfl, show (⟨#[58, 32, 115, 105, 122, 101, 32]⟩ : ByteArray).size = 7 from rfl, show (⟨#[32, 101, 97, 115, 101, 32]⟩ : ByteArray).size = 6 from rfl, show (⟨#[111, 112, 101, 110]⟩ : ByteArray).size = 4 from rfl, show (⟨#[116, 97, 107, 101, 110]⟩ : ByteArray).size = 5 from rfl, show (⟨#[100, 111, 110, 101]⟩ : ByteArray).size = 4 from rfl, show (⟨#[101, 110, 100, 101, 100]⟩ : ByteArray).size = 5 from rfl, show (⟨#[32]⟩ : ByteArray).size = 1 from rfl] at e_; omega)
                            refine hK.out _ _ ⟨v117, adz_v117, m23_, (by rw [ha.out]; exact putSel_upk 14 hb_ rfl rfl rfl), Q_BK111, Q_HB, Q_HO118, Q_HA_HO118, Q_X23_⟩
                          refine steps_cons ?_ ?_
                          · rintro b a w' ⟨v117, adz_v117, m23_, ha, Q_BK111, Q_HB, Q_HO118, Q_HA_HO118, Q_X23_⟩ hb_ hon hoff
                            refine ⟨_, rfl, fun K hK => ?_⟩
                            have e21 : a.tmps[21]? = some (.string ((((((((⟨#[108, 101, 97, 100, 32]⟩ : ByteArray) ++ t112) ++ (⟨#[32, 97, 116, 32]⟩ : ByteArray)) ++ t113) ++ (⟨#[58, 32, 115, 105, 122, 101, 32]⟩ : ByteArray)) ++ t114) ++ (⟨#[32, 101, 97, 115, 101, 32]⟩ : ByteArray)) ++ t115)) := by rw [ha]; exact putSel_on (e := (18, 21, .string ((((((((⟨#[108, 101, 97, 100, 32]⟩ : ByteArray) ++ t112) ++ (⟨#[32, 97, 116, 32]⟩ : ByteArray)) ++ t113) ++ (⟨#[58, 32, 115, 105, 122, 101, 32]⟩ : ByteArray)) ++ t114) ++ (⟨#[32, 101, 97, 115, 101, 32]⟩ : ByteArray)) ++ t115))) 14 rfl rfl (hon 18 (by kernel_rfl)) rfl
                            replace ha := Aside0.mk ha
                            have BK111 := Aside0.mk Q_BK111
                            have HB := Aside0.mk Q_HB
                            refine value_ (w1 := w') (v := .string (((((((((⟨#[108, 101, 97, 100, 32]⟩ : ByteArray) ++ t112) ++ (⟨#[32, 97, 116, 32]⟩ : ByteArray)) ++ t113) ++ (⟨#[58, 32, 115, 105, 122, 101, 32]⟩ : ByteArray)) ++ t114) ++ (⟨#[32, 101, 97, 115, 101, 32]⟩ : ByteArray)) ++ t115) ++ (⟨#[32]⟩ : ByteArray))) (by rfl) rfl ?_ ?_
                            · go_simp
                              (try simp only [i64_w])
                              try rfl
                              try (have e_ := c16; simp only [ByteArray.size_append, show (⟨#[108, 101, 97, 100, 32]⟩ : ByteArray).size = 5 from rfl, show (⟨#[32, 97, 116, 32]⟩ : ByteArray).size = 4 from rfl, show (⟨#[58, 32, 115, 105, 122, 101, 32]⟩ : ByteArray).size = 7 from rfl, show (⟨#[32, 101, 97, 115, 101, 32]⟩ : ByteArray).size = 6 from rfl, show (⟨#[111, 112, 101, 110]⟩ : ByteArray).size = 4 from rfl, show (⟨#[116, 97, 107, 101, 110]⟩ : ByteArray).size = 5 from rfl, show (⟨#[100, 111, 110, 101]⟩ : ByteArray).size = 4 from rfl, show (⟨#[101, 110, 100, 101, 100]⟩ : ByteArray).size = 5 from rfl, show (⟨#[32]⟩ : ByteArray).size = 1 from rfl] at e_; omega)
                            refine hK.out _ _ ⟨v117, adz_v117, m23_, (by rw [ha.out]; exact putSel_upk 15 hb_ rfl rfl rfl), Q_BK111, Q_HB, Q_HO118, Q_HA_HO118, Q_X23_⟩
                          refine steps_cons ?_ ?_
                          · rintro b a w' ⟨v117, adz_v117, m23_, ha, Q_BK111, Q_HB, Q_HO118, Q_HA_HO118, Q_X23_⟩ hb_ hon hoff
                            refine ⟨_, rfl, fun K hK => ?_⟩
                            replace ha := Aside0.mk ha
                            have BK111 := Aside0.mk Q_BK111
                            have HB := Aside0.mk Q_HB
                            refine Kd.R_lit_step Kd.string _ 9 ?hg (N := 23) ?hd (xs := ([(⟨#[111, 112, 101, 110]⟩ : ByteArray), (⟨#[116, 97, 107, 101, 110]⟩ : ByteArray), (⟨#[100, 111, 110, 101]⟩ : ByteArray), (⟨#[101, 110, 100, 101, 100]⟩ : ByteArray)] : List ByteArray)) (inner := [.string (⟨#[111, 112, 101, 110]⟩ : ByteArray), .string (⟨#[116, 97, 107, 101, 110]⟩ : ByteArray), .string (⟨#[100, 111, 110, 101]⟩ : ByteArray), .string (⟨#[101, 110, 100, 101, 100]⟩ : ByteArray)]) (ok := fun _ => True) (okp := fun _ => True) ?hr ?hp (fun _ hk => hk) trivial (Below.refl _ _) (Nat.le_refl _) (by simp) ?_; (case hd => rfl); (case hg => rfl); (case hr => first | (go_simp; done) | (go_simp; rfl)); (case hp => exact (Reps.one (show Kd.M Kd.string _ _ _ (⟨#[111, 112, 101, 110]⟩ : ByteArray) [.string (⟨#[111, 112, 101, 110]⟩ : ByteArray)] from rfl) (Reps.one (show Kd.M Kd.string _ _ _ (⟨#[116, 97, 107, 101, 110]⟩ : ByteArray) [.string (⟨#[116, 97, 107, 101, 110]⟩ : ByteArray)] from rfl) (Reps.one (show Kd.M Kd.string _ _ _ (⟨#[100, 111, 110, 101]⟩ : ByteArray) [.string (⟨#[100, 111, 110, 101]⟩ : ByteArray)] from rfl) (Reps.one (show Kd.M Kd.string _ _ _ (⟨#[101, 110, 100, 101, 100]⟩ : ByteArray) [.string (⟨#[101, 110, 100, 101, 100]⟩ : ByteArray)] from rfl) (Reps.none _ _))))))
                            intro v117 w19 ho20 hb hg_ hnew_
                            clear hg_ hnew_
                            (first | rw [← Ny116.out] at ho20 | (simp only [Int.reduceToNat] at ho20; rw [← Ny116.out] at ho20))
                            have n0_ := Aside0.mk (Kd.R_lower ho20 (below_size (upB1 HB.out GE111.out)))
                            have n1_ := Aside0.mk (blk_below (g := gb111) (o := .cells #[.int .i64 a0_0, .int .i64 a0_1, .int .i64 a0_2, .int .i64 a0_3, .int .i64 a0_4] 26 (0, 0)) (upK BK111.out) hb)
                            have n2_ := Aside0.mk (below_step (upB1 HB.out GE111.out) hb)
                            clear BK111
                            clear HB
                            have HO118 := n0_
                            have BK111 := n1_
                            have HB := n2_
                            clear n0_ n1_ n2_
                            clear hb ho20
                            obtain ⟨Ao21, co21, eo21⟩ := Kd.R_slice HO118.out
                            subst eo21
                            obtain ⟨ado21, fo21, _⟩ := Kd.at_string (Kd.R_reads' HO118.out).2.2 0 (by decide) (by rw [Ny116.out]; simp)
                            cases fo21
                            refine hK.out _ _ ⟨.slice (some ado21) y116.length co21, ado21, m23_, (by rw [ha.out]; exact putSel_upk 16 hb_ rfl rfl rfl), (upK BK111.out), (upB1 HB.out GE111.out), fun _ => (upR HO118.out), fun _ => ⟨_, rfl⟩, fun h0_ => absurd ((hoff 23 (by kernel_rfl)).symm.trans h0_) (by decide)⟩
                          refine steps_cons ?_ ?_
                          · rintro b a w' ⟨v117, adz_v117, m23_, ha, Q_BK111, Q_HB, Q_HO118, Q_HA_HO118, Q_X23_⟩ hb_ hon hoff
                            refine ⟨_, rfl, fun K hK => ?_⟩
                            have e24 : a.tmps[24]? = some (.pointer (some ⟨gb111, 4, none⟩)) := by rw [ha]; exact (putSel_off rfl).trans rfl
                            replace ha := Aside0.mk ha
                            have BK111 := Aside0.mk Q_BK111
                            have HB := Aside0.mk Q_HB
                            have hc0_ := ci BK111.out 0 a0_0 rfl
                            have hc1_ := ci BK111.out 1 a0_1 rfl
                            have hc2_ := ci BK111.out 2 a0_2 rfl
                            have hc3_ := ci BK111.out 3 a0_3 rfl
                            have hc4_ := ci BK111.out 4 a0_4 rfl
                            refine value_ (w1 := w') (v := .int .i64 a0_4) (by rfl) rfl ?_ ?_
                            · go_simp
                              (try simp only [i64_w])
                              try rfl
                              try (have e_ := c16; simp only [ByteArray.size_append, show (⟨#[108, 101, 97, 100, 32]⟩ : ByteArray).size = 5 from rfl, show (⟨#[32, 97, 116, 32]⟩ : ByteArray).size = 4 from rfl, show (⟨#[58, 32, 115, 105, 122, 101, 32]⟩ : ByteArray).size = 7 from rfl, show (⟨#[32, 101, 97, 115, 101, 32]⟩ : ByteArray).size = 6 from rfl, show (⟨#[111, 112, 101, 110]⟩ : ByteArray).size = 4 from rfl, show (⟨#[116, 97, 107, 101, 110]⟩ : ByteArray).size = 5 from rfl, show (⟨#[100, 111, 110, 101]⟩ : ByteArray).size = 4 from rfl, show (⟨#[101, 110, 100, 101, 100]⟩ : ByteArray).size = 5 from rfl, show (⟨#[32]⟩ : ByteArray).size = 1 from rfl] at e_; omega)
                            refine hK.out _ _ ⟨v117, adz_v117, m23_, (by rw [ha.out]; exact putSel_upk 17 hb_ rfl rfl rfl), Q_BK111, Q_HB, Q_HO118, Q_HA_HO118, fun h0_ => absurd ((hoff 23 (by kernel_rfl)).symm.trans h0_) (by decide)⟩
                          refine steps_cons ?_ ?_
                          · rintro b a w' ⟨v117, adz_v117, m23_, ha, Q_BK111, Q_HB, Q_HO118, Q_HA_HO118, Q_X23_⟩ hb_ hon hoff
                            refine ⟨_, rfl, fun K hK => ?_⟩
                            have e23 : a.tmps[23]? = some (v117) := by rw [ha]; exact putSel_on (e := (20, 23, v117)) 16 rfl rfl (hon 20 (by kernel_rfl)) rfl
                            have e25 : a.tmps[25]? = some (.int .i64 a0_4) := by rw [ha]; exact putSel_on (e := (22, 25, .int .i64 a0_4)) 17 rfl rfl (hon 22 (by kernel_rfl)) rfl
                            replace ha := Aside0.mk ha
                            have BK111 := Aside0.mk Q_BK111
                            have HB := Aside0.mk Q_HB
                            have HO118 := Aside0.mk (Q_HO118 (hon 20 (by kernel_rfl)))
                            have HA_HO118 := Aside0.mk (Q_HA_HO118 (hon 20 (by kernel_rfl)))
                            obtain ⟨c_, hv_⟩ := HA_HO118.out
                            rw [hv_] at e23
                            refine value_ (w1 := w') (v := .pointer (some (adz_v117.add (a0_4).toNat))) (by rfl) rfl ?_ ?_
                            · go_simp
                              (try simp only [i64_w])
                              try rfl
                              try (have e_ := c16; simp only [ByteArray.size_append, show (⟨#[108, 101, 97, 100, 32]⟩ : ByteArray).size = 5 from rfl, show (⟨#[32, 97, 116, 32]⟩ : ByteArray).size = 4 from rfl, show (⟨#[58, 32, 115, 105, 122, 101, 32]⟩ : ByteArray).size = 7 from rfl, show (⟨#[32, 101, 97, 115, 101, 32]⟩ : ByteArray).size = 6 from rfl, show (⟨#[111, 112, 101, 110]⟩ : ByteArray).size = 4 from rfl, show (⟨#[116, 97, 107, 101, 110]⟩ : ByteArray).size = 5 from rfl, show (⟨#[100, 111, 110, 101]⟩ : ByteArray).size = 4 from rfl, show (⟨#[101, 110, 100, 101, 100]⟩ : ByteArray).size = 5 from rfl, show (⟨#[32]⟩ : ByteArray).size = 1 from rfl] at e_; omega)
                            refine hK.out _ _ ⟨v117, adz_v117, (.pointer (some (adz_v117.add (a0_4).toNat))), (by rw [ha.out]; exact putSel_upk 18 hb_ rfl rfl rfl), Q_BK111, Q_HB, Q_HO118, Q_HA_HO118, fun _ => rfl⟩
                          refine steps_cons ?_ ?_
                          · rintro b a w' ⟨v117, adz_v117, m23_, ha, Q_BK111, Q_HB, Q_HO118, Q_HA_HO118, Q_X23_⟩ hb_ hon hoff
                            refine ⟨_, rfl, fun K hK => ?_⟩
                            have e26 : a.tmps[26]? = some (m23_) := by rw [ha]; exact putSel_on (e := (23, 26, m23_)) 18 rfl rfl (hon 23 (by kernel_rfl)) rfl
                            rw [Q_X23_ (hon 23 (by kernel_rfl))] at e26
                            replace ha := Aside0.mk ha
                            have BK111 := Aside0.mk Q_BK111
                            have HB := Aside0.mk Q_HB
                            have HO118 := Aside0.mk (Q_HO118 (hon 20 (by kernel_rfl)))
                            have HA_HO118 := Aside0.mk (Q_HA_HO118 (hon 20 (by kernel_rfl)))
                            obtain ⟨c_, hv_⟩ := HA_HO118.out
                            have hF_ := HO118.out
                            rw [hv_] at hF_
                            obtain ⟨ad_, ea_, hx_⟩ := Kd.at_string (Kd.R_reads' hF_).2.2 a0_4 (of_eq_true pi119) (of_eq_true qi119)
                            cases ea_
                            refine value_ (w1 := w') (v := .string (rdOf ByteArray.empty y116 a0_4)) (by rfl) rfl ?_ ?_
                            · go_simp
                              (try simp only [i64_w])
                              try rfl
                              try (have e_ := c16; simp only [ByteArray.size_append, show (⟨#[108, 101, 97, 100, 32]⟩ : ByteArray).size = 5 from rfl, show (⟨#[32, 97, 116, 32]⟩ : ByteArray).size = 4 from rfl, show (⟨#[58, 32, 115, 105, 122, 101, 32]⟩ : ByteArray).size = 7 from rfl, show (⟨#[32, 101, 97, 115, 101, 32]⟩ : ByteArray).size = 6 from rfl, show (⟨#[111, 112, 101, 110]⟩ : ByteArray).size = 4 from rfl, show (⟨#[116, 97, 107, 101, 110]⟩ : ByteArray).size = 5 from rfl, show (⟨#[100, 111, 110, 101]⟩ : ByteArray).size = 4 from rfl, show (⟨#[101, 110, 100, 101, 100]⟩ : ByteArray).size = 5 from rfl, show (⟨#[32]⟩ : ByteArray).size = 1 from rfl] at e_; omega)
                            refine hK.out _ _ ⟨v117, adz_v117, m23_, (by rw [ha.out]; exact putSel_upk 19 hb_ rfl rfl rfl), Q_BK111, Q_HB, Q_HO118, Q_HA_HO118, Q_X23_⟩
                          refine steps_cons ?_ ?_
                          · rintro b a w' ⟨v117, adz_v117, m23_, ha, Q_BK111, Q_HB, Q_HO118, Q_HA_HO118, Q_X23_⟩ hb_ hon hoff
                            refine ⟨_, rfl, fun K hK => ?_⟩
                            have e22 : a.tmps[22]? = some (.string (((((((((⟨#[108, 101, 97, 100, 32]⟩ : ByteArray) ++ t112) ++ (⟨#[32, 97, 116, 32]⟩ : ByteArray)) ++ t113) ++ (⟨#[58, 32, 115, 105, 122, 101, 32]⟩ : ByteArray)) ++ t114) ++ (⟨#[32, 101, 97, 115, 101, 32]⟩ : ByteArray)) ++ t115) ++ (⟨#[32]⟩ : ByteArray))) := by rw [ha]; exact putSel_on (e := (19, 22, .string (((((((((⟨#[108, 101, 97, 100, 32]⟩ : ByteArray) ++ t112) ++ (⟨#[32, 97, 116, 32]⟩ : ByteArray)) ++ t113) ++ (⟨#[58, 32, 115, 105, 122, 101, 32]⟩ : ByteArray)) ++ t114) ++ (⟨#[32, 101, 97, 115, 101, 32]⟩ : ByteArray)) ++ t115) ++ (⟨#[32]⟩ : ByteArray)))) 15 rfl rfl (hon 19 (by kernel_rfl)) rfl
                            have e27 : a.tmps[27]? = some (.string (rdOf ByteArray.empty y116 a0_4)) := by rw [ha]; exact putSel_on (e := (24, 27, .string (rdOf ByteArray.empty y116 a0_4))) 19 rfl rfl (hon 24 (by kernel_rfl)) rfl
                            replace ha := Aside0.mk ha
                            have BK111 := Aside0.mk Q_BK111
                            have HB := Aside0.mk Q_HB
                            have HO118 := Aside0.mk (Q_HO118 (hon 20 (by kernel_rfl)))
                            have HA_HO118 := Aside0.mk (Q_HA_HO118 (hon 20 (by kernel_rfl)))
                            refine value_ (w1 := w') (v := .string ((((((((((⟨#[108, 101, 97, 100, 32]⟩ : ByteArray) ++ t112) ++ (⟨#[32, 97, 116, 32]⟩ : ByteArray)) ++ t113) ++ (⟨#[58, 32, 115, 105, 122, 101, 32]⟩ : ByteArray)) ++ t114) ++ (⟨#[32, 101, 97, 115, 101, 32]⟩ : ByteArray)) ++ t115) ++ (⟨#[32]⟩ : ByteArray)) ++ (rdOf ByteArray.empty y116 a0_4))) (by rfl) rfl ?_ ?_
                            · go_simp
                              (try simp only [i64_w])
                              try rfl
                              try (have e_ := c16; simp only [ByteArray.size_append, show (⟨#[108, 101, 97, 100, 32]⟩ : ByteArray).size = 5 from rfl, show (⟨#[32, 97, 116, 32]⟩ : ByteArray).size = 4 from rfl, show (⟨#[58, 32, 115, 105, 122, 101, 32]⟩ : ByteArray).size = 7 from rfl, show (⟨#[32, 101, 97, 115, 101, 32]⟩ : ByteArray).size = 6 from rfl, show (⟨#[111, 112, 101, 110]⟩ : ByteArray).size = 4 from rfl, show (⟨#[116, 97, 107, 101, 110]⟩ : ByteArray).size = 5 from rfl, show (⟨#[100, 111, 110, 101]⟩ : ByteArray).size = 4 from rfl, show (⟨#[101, 110, 100, 101, 100]⟩ : ByteArray).size = 5 from rfl, show (⟨#[32]⟩ : ByteArray).size = 1 from rfl] at e_; omega)
                            refine hK.out _ _ ⟨v117, adz_v117, m23_, (by rw [ha.out]; exact putSel_upk 20 hb_ rfl rfl rfl), Q_BK111, Q_HB, Q_HO118, Q_HA_HO118, Q_X23_⟩
                          refine steps_cons ?_ ?_
                          · rintro b a w' ⟨v117, adz_v117, m23_, ha, Q_BK111, Q_HB, Q_HO118, Q_HA_HO118, Q_X23_⟩ hb_ hon hoff
                            refine ⟨_, rfl, fun K hK => ?_⟩
                            have e28 : a.tmps[28]? = some (.string ((((((((((⟨#[108, 101, 97, 100, 32]⟩ : ByteArray) ++ t112) ++ (⟨#[32, 97, 116, 32]⟩ : ByteArray)) ++ t113) ++ (⟨#[58, 32, 115, 105, 122, 101, 32]⟩ : ByteArray)) ++ t114) ++ (⟨#[32, 101, 97, 115, 101, 32]⟩ : ByteArray)) ++ t115) ++ (⟨#[32]⟩ : ByteArray)) ++ (rdOf ByteArray.empty y116 a0_4))) := by rw [ha]; exact putSel_on (e := (25, 28, .string ((((((((((⟨#[108, 101, 97, 100, 32]⟩ : ByteArray) ++ t112) ++ (⟨#[32, 97, 116, 32]⟩ : ByteArray)) ++ t113) ++ (⟨#[58, 32, 115, 105, 122, 101, 32]⟩ : ByteArray)) ++ t114) ++ (⟨#[32, 101, 97, 115, 101, 32]⟩ : ByteArray)) ++ t115) ++ (⟨#[32]⟩ : ByteArray)) ++ (rdOf ByteArray.empty y116 a0_4)))) 20 rfl rfl (hon 25 (by kernel_rfl)) rfl
                            replace ha := Aside0.mk ha
                            have BK111 := Aside0.mk Q_BK111
                            have HB := Aside0.mk Q_HB
                            have HO118 := Aside0.mk (Q_HO118 (hon 20 (by kernel_rfl)))
                            have HA_HO118 := Aside0.mk (Q_HA_HO118 (hon 20 (by kernel_rfl)))
                            refine value_ (w1 := w') (v := .string ((((((((((⟨#[108, 101, 97, 100, 32]⟩ : ByteArray) ++ t112) ++ (⟨#[32, 97, 116, 32]⟩ : ByteArray)) ++ t113) ++ (⟨#[58, 32, 115, 105, 122, 101, 32]⟩ : ByteArray)) ++ t114) ++ (⟨#[32, 101, 97, 115, 101, 32]⟩ : ByteArray)) ++ t115) ++ (⟨#[32]⟩ : ByteArray)) ++ (rdOf ByteArray.empty y116 a0_4))) (by rfl) rfl ?_ ?_
                            · go_simp
                              (try simp only [i64_w])
                              try rfl
                              try (have e_ := c16; simp only [ByteArray.size_append, show (⟨#[108, 101, 97, 100, 32]⟩ : ByteArray).size = 5 from rfl, show (⟨#[32, 97, 116, 32]⟩ : ByteArray).size = 4 from rfl, show (⟨#[58, 32, 115, 105, 122, 101, 32]⟩ : ByteArray).size = 7 from rfl, show (⟨#[32, 101, 97, 115, 101, 32]⟩ : ByteArray).size = 6 from rfl, show (⟨#[111, 112, 101, 110]⟩ : ByteArray).size = 4 from rfl, show (⟨#[116, 97, 107, 101, 110]⟩ : ByteArray).size = 5 from rfl, show (⟨#[100, 111, 110, 101]⟩ : ByteArray).size = 4 from rfl, show (⟨#[101, 110, 100, 101, 100]⟩ : ByteArray).size = 5 from rfl, show (⟨#[32]⟩ : ByteArray).size = 1 from rfl] at e_; omega)
                            refine hK.out _ _ ⟨v117, adz_v117, m23_, (by rw [ha.out]; exact putSel_upk 21 hb_ rfl rfl rfl), Q_BK111, Q_HB, Q_HO118, Q_HA_HO118, Q_X23_⟩
                          exact steps_nil
                        rintro b a w26 hall ⟨v117, adz_v117, m23_, ha, Q_BK111, Q_HB, Q_HO118, Q_HA_HO118, Q_X23_⟩
                        clear BK111 HB
                        have hb1_ := hall 1 (by kernel_rfl)
                        have hb2_ := hall 2 (by kernel_rfl)
                        have hb3_ := hall 3 (by kernel_rfl)
                        have hb4_ := hall 4 (by kernel_rfl)
                        have hb6_ := hall 6 (by kernel_rfl)
                        have hb7_ := hall 7 (by kernel_rfl)
                        have hb8_ := hall 8 (by kernel_rfl)
                        have hb9_ := hall 9 (by kernel_rfl)
                        have hb11_ := hall 11 (by kernel_rfl)
                        have hb12_ := hall 12 (by kernel_rfl)
                        have hb13_ := hall 13 (by kernel_rfl)
                        have hb14_ := hall 14 (by kernel_rfl)
                        have hb16_ := hall 16 (by kernel_rfl)
                        have hb17_ := hall 17 (by kernel_rfl)
                        have hb18_ := hall 18 (by kernel_rfl)
                        have hb19_ := hall 19 (by kernel_rfl)
                        have hb20_ := hall 20 (by kernel_rfl)
                        have hb22_ := hall 22 (by kernel_rfl)
                        have hb23_ := hall 23 (by kernel_rfl)
                        have hb24_ := hall 24 (by kernel_rfl)
                        have hb25_ := hall 25 (by kernel_rfl)
                        have hb26_ := hall 26 (by kernel_rfl)
                        subst ha
                        obtain rfl := Q_X23_ hb23_
                        simp only [putSel, hb1_, hb2_, hb3_, hb4_, hb6_, hb7_, hb8_, hb9_, hb11_, hb12_, hb13_, hb14_, hb16_, hb17_, hb18_, hb19_, hb20_, hb22_, hb23_, hb24_, hb25_, hb26_, if_true, Act.put, List.setIfInBounds_toArray, List.set_cons_zero, List.set_cons_succ]
                        have BK111 := Aside0.mk Q_BK111
                        clear Q_BK111
                        have HB := Aside0.mk Q_HB
                        clear Q_HB
                        have HO118 := Aside0.mk (Q_HO118 hb20_)
                        clear Q_HO118
                        have HA_HO118 := Aside0.mk (Q_HA_HO118 hb20_)
                        clear Q_HA_HO118
                        clear hall hb1_ hb2_ hb3_ hb4_ hb6_ hb7_ hb8_ hb9_ hb11_ hb12_ hb13_ hb14_ hb16_ hb17_ hb18_ hb19_ hb20_ hb22_ hb23_ hb24_ hb25_ hb26_
                        obtain ⟨co27, eo27⟩ := HA_HO118.out
                        clear HA_HO118
                        subst eo27
                        try go_wp2
                        go_ret
                        exact ⟨by first | rfl | (simp [errW_none, errW_some] <;> rfl) | (simp [*, errW_none, errW_some] <;> rfl), (upB1 HB.out GE111.out)⟩
                      · rw [if_neg c16] at H
                        exact absurd H (by simp)
                    · rw [if_neg c15] at H
                      exact absurd H (by simp)
                  · rw [if_neg c14] at H
                    exact absurd H (by simp)
                · rw [if_neg c13] at H
                  exact absurd H (by simp)
              · rw [if_neg c12] at H
                exact absurd H (by simp)
            · rw [if_neg c10] at H
              exact absurd H (by simp)
          · rw [if_neg c9] at H
            exact absurd H (by simp)
        · rw [if_neg c7] at H
          exact absurd H (by simp)
      · rw [if_neg c6] at H
        exact absurd H (by simp)
    · rw [if_neg c4] at H
      exact absurd H (by simp)
  · rw [if_neg c3] at H
    exact absurd H (by simp)

/-! ### spec_LeadText: function 6 -/
def spec_LeadText.f (k : Nat) (a0_0 : Int) (a0_1 : Int) (a0_2 : Int) (a0_3 : Int) (a0_4 : Int) : Option (ByteArray × Bool) := (spec_l18One.f a0_0 a0_1 a0_2 a0_3 a0_4).bind fun t121 => (if t121 = true then ((spec_l18Text.f k a0_0 a0_1 a0_2 a0_3 a0_4).bind fun t122 => (some (t122, true))) else (some ((⟨#[]⟩ : ByteArray), false)))
theorem spec_LeadText.mono : ∀ a0 a1 a2 a3 a4 k, LeO (spec_LeadText.f k a0 a1 a2 a3 a4) (spec_LeadText.f (k + 1) a0 a1 a2 a3 a4) := by
  intro a0 a1 a2 a3 a4 k
  unfold spec_LeadText.f
  repeat' first
      | (with_reducible exact spec_l18Text.mono _ _ _ _ _ _)
      | (with_reducible exact LeO.refl _)
      | (with_reducible exact LeO.none _)
      | (with_reducible refine LeO.ite ?_ ?_)
      | (with_reducible refine LeO.bind ?_ (fun _ => ?_))
      | exact spec_l18Text.mono _ _ _ _ _ _
      | exact LeO.none _
      | refine LeO.ite ?_ ?_
      | refine LeO.bind ?_ (fun _ => ?_)
set_option maxHeartbeats 8000000 in
set_option maxRecDepth 100000 in
theorem spec_LeadText.calls (k : Nat) (a0_0 : Int) (a0_1 : Int) (a0_2 : Int) (a0_3 : Int) (a0_4 : Int) (r1 : ByteArray) (r2 : Bool) (w : World) (h : spec_LeadText.f k a0_0 a0_1 a0_2 a0_3 a0_4 = some (r1, r2)) :
    Calls Tryd.prog 6 #[.agg #[.int .i64 a0_0, .int .i64 a0_1, .int .i64 a0_2, .int .i64 a0_3, .int .i64 a0_4]] w fun e w' => e = .returned (.tuple #[.string r1, .bool r2]) ∧ Below w.heap.size w w' := by
  have hu26 := Tryd.underlying26
  have HB := Aside0.mk (Below.refl w.heap.size w)
  have H : ((spec_l18One.f a0_0 a0_1 a0_2 a0_3 a0_4).bind fun t121 => (if t121 = true then ((spec_l18Text.f k a0_0 a0_1 a0_2 a0_3 a0_4).bind fun t122 => (some (t122, true))) else (some ((⟨#[]⟩ : ByteArray), false)))) = some (r1, r2) := h
  clear h
  replace H := Option.bind_eq_some_iff.mp H
  obtain ⟨t121, A20, H⟩ := H
  replace H : (if t121 = true then ((spec_l18Text.f k a0_0 a0_1 a0_2 a0_3 a0_4).bind fun t122 => (some (t122, true))) else (some ((⟨#[]⟩ : ByteArray), false))) = some (r1, r2) := H
  have A2 := Aside0.mk A20
  clear A20
  by_cases c3 : t121 = true
  · subst c3
    have H1 : ((spec_l18Text.f k a0_0 a0_1 a0_2 a0_3 a0_4).bind fun t122 => (some (t122, true))) = some (r1, r2) := by rw [if_pos rfl] at H; exact H
    clear H
    have H := H1
    clear H1
    replace H := Option.bind_eq_some_iff.mp H
    obtain ⟨t122, A40, H⟩ := H
    replace H : (some (t122, true)) = some (r1, r2) := H
    have A4 := Aside0.mk A40
    clear A40
    simp only [Option.some.injEq, Prod.mk.injEq] at H
    obtain ⟨rfl, rfl⟩ := H
    go_enter Tryd.func6, Tryd.ntmps6
    go_wp2_with (first | ((with_reducible refine gate_dst (N := 1) rfl ?_); refine box_event ?hg (N := 1) ?hd (cs := #[.int .i64 a0_0, .int .i64 a0_1, .int .i64 a0_2, .int .i64 a0_3, .int .i64 a0_4]) (t := 26) ?hr ?_; (case hd => rfl); (case hg => rfl); (case hr => first | (go_simp; done) | (go_simp; rfl)); intro gb120 hg w5 hbox hb; have n0_ := Aside0.mk (below_step (upB HB.out) hb); have n1_ := Aside0.mk (hbox); have n2_ := Aside0.mk ((by rw [hg]; exact (below_size (upB HB.out)) : w.heap.size ≤ gb120)); have n3_ := Aside0.mk ((by rw [hg]; exact (below_size (upB HB.out)) : w.heap.size ≤ gb120)); clear HB; have HB := n0_; have BK120 := n1_; have GW120 := n2_; have GE120 := n3_; clear n0_ n1_ n2_ n3_; clear hb hbox hg; have hcz6_0 := ci BK120.out 0 a0_0 rfl; have hcz6_1 := ci BK120.out 1 a0_1 rfl; have hcz6_2 := ci BK120.out 2 a0_2 rfl; have hcz6_3 := ci BK120.out 3 a0_3 rfl; have hcz6_4 := ci BK120.out 4 a0_4 rfl; have hfz6_0 := fun j_ : Nat => blk_frozen BK120.out j_) | ((with_reducible refine gate_callee (f := 24) rfl ?_); refine goesL_ (some 5) rfl rfl Tryd.func24 (by kernel_rfl) rfl #[.agg #[.int .i64 a0_0, .int .i64 a0_1, .int .i64 a0_2, .int .i64 a0_3, .int .i64 a0_4]] rfl argsB ?_; (with_reducible refine (spec_l18One.calls a0_0 a0_1 a0_2 a0_3 a0_4 true _ A2.out).mono ?_); rintro e w7 ⟨rfl, hb⟩; refine ⟨_, rfl, ?_⟩; have n0_ := Aside0.mk (blk_below (g := gb120) (o := .cells #[.int .i64 a0_0, .int .i64 a0_1, .int .i64 a0_2, .int .i64 a0_3, .int .i64 a0_4] 26 (0, 0)) (upK BK120.out) hb); have n1_ := Aside0.mk (below_step (upB1 HB.out GE120.out) hb); clear BK120; clear HB; have BK120 := n0_; have HB := n1_; clear n0_ n1_; (try clear hb); have hcz8_0 := ci BK120.out 0 a0_0 rfl; have hcz8_1 := ci BK120.out 1 a0_1 rfl; have hcz8_2 := ci BK120.out 2 a0_2 rfl; have hcz8_3 := ci BK120.out 3 a0_3 rfl; have hcz8_4 := ci BK120.out 4 a0_4 rfl; have hfz8_0 := fun j_ : Nat => blk_frozen BK120.out j_) | ((with_reducible refine gate_callee (f := 25) rfl ?_); refine goesL_ (some 8) rfl rfl Tryd.func25 (by kernel_rfl) rfl #[.agg #[.int .i64 a0_0, .int .i64 a0_1, .int .i64 a0_2, .int .i64 a0_3, .int .i64 a0_4]] rfl argsB ?_; (with_reducible refine (spec_l18Text.calls k a0_0 a0_1 a0_2 a0_3 a0_4 t122 _ A4.out).mono ?_); rintro e w9 ⟨rfl, hb⟩; refine ⟨_, rfl, ?_⟩; have n0_ := Aside0.mk (blk_below (g := gb120) (o := .cells #[.int .i64 a0_0, .int .i64 a0_1, .int .i64 a0_2, .int .i64 a0_3, .int .i64 a0_4] 26 (0, 0)) (upK BK120.out) hb); have n1_ := Aside0.mk (below_step (upB1 HB.out GE120.out) hb); clear BK120; clear HB; have BK120 := n0_; have HB := n1_; clear n0_ n1_; (try clear hb)))
    go_ret2
    exact ⟨by first | rfl | (simp [errW_none, errW_some] <;> rfl) | (simp [*, errW_none, errW_some] <;> rfl), (upB1 HB.out GE120.out)⟩
  · replace c3 := Bool.eq_false_iff.mpr c3
    subst c3
    have H1 : (some ((⟨#[]⟩ : ByteArray), false)) = some (r1, r2) := by rw [if_neg (show ¬ (false = true) by decide)] at H; exact H
    clear H
    have H := H1
    clear H1
    simp only [Option.some.injEq, Prod.mk.injEq] at H
    obtain ⟨rfl, rfl⟩ := H
    go_enter Tryd.func6, Tryd.ntmps6
    go_wp2_with (first | ((with_reducible refine gate_dst (N := 1) rfl ?_); refine box_event ?hg (N := 1) ?hd (cs := #[.int .i64 a0_0, .int .i64 a0_1, .int .i64 a0_2, .int .i64 a0_3, .int .i64 a0_4]) (t := 26) ?hr ?_; (case hd => rfl); (case hg => rfl); (case hr => first | (go_simp; done) | (go_simp; rfl)); intro gb120 hg w10 hbox hb; have n0_ := Aside0.mk (below_step (upB HB.out) hb); have n1_ := Aside0.mk (hbox); have n2_ := Aside0.mk ((by rw [hg]; exact (below_size (upB HB.out)) : w.heap.size ≤ gb120)); have n3_ := Aside0.mk ((by rw [hg]; exact (below_size (upB HB.out)) : w.heap.size ≤ gb120)); clear HB; have HB := n0_; have BK120 := n1_; have GW120 := n2_; have GE120 := n3_; clear n0_ n1_ n2_ n3_; clear hb hbox hg; have hcz11_0 := ci BK120.out 0 a0_0 rfl; have hcz11_1 := ci BK120.out 1 a0_1 rfl; have hcz11_2 := ci BK120.out 2 a0_2 rfl; have hcz11_3 := ci BK120.out 3 a0_3 rfl; have hcz11_4 := ci BK120.out 4 a0_4 rfl; have hfz11_0 := fun j_ : Nat => blk_frozen BK120.out j_) | ((with_reducible refine gate_callee (f := 24) rfl ?_); refine goesL_ (some 5) rfl rfl Tryd.func24 (by kernel_rfl) rfl #[.agg #[.int .i64 a0_0, .int .i64 a0_1, .int .i64 a0_2, .int .i64 a0_3, .int .i64 a0_4]] rfl argsB ?_; (with_reducible refine (spec_l18One.calls a0_0 a0_1 a0_2 a0_3 a0_4 false _ A2.out).mono ?_); rintro e w12 ⟨rfl, hb⟩; refine ⟨_, rfl, ?_⟩; have n0_ := Aside0.mk (blk_below (g := gb120) (o := .cells #[.int .i64 a0_0, .int .i64 a0_1, .int .i64 a0_2, .int .i64 a0_3, .int .i64 a0_4] 26 (0, 0)) (upK BK120.out) hb); have n1_ := Aside0.mk (below_step (upB1 HB.out GE120.out) hb); clear BK120; clear HB; have BK120 := n0_; have HB := n1_; clear n0_ n1_; (try clear hb)))
    go_ret2
    exact ⟨by first | rfl | (simp [errW_none, errW_some] <;> rfl) | (simp [*, errW_none, errW_some] <;> rfl), (upB1 HB.out GE120.out)⟩

/-! ### laws_toLead: function 7 -/
def laws_toLead.f (a0_0 : Int) (a0_1 : Int) (a0_2 : Int) (a0_3 : Int) (a0_4 : Int) : Option (Int × Int × Int × Int × Int) := some (a0_0, a0_1, a0_2, a0_3, a0_4)
set_option maxHeartbeats 8000000 in
set_option maxRecDepth 100000 in
theorem laws_toLead.calls (a0_0 : Int) (a0_1 : Int) (a0_2 : Int) (a0_3 : Int) (a0_4 : Int) (r1 : Int) (r2 : Int) (r3 : Int) (r4 : Int) (r5 : Int) (w : World) (h : laws_toLead.f a0_0 a0_1 a0_2 a0_3 a0_4 = some (r1, r2, r3, r4, r5)) :
    Calls Tryd.prog 7 #[.agg #[.int .i64 a0_0, .int .i64 a0_1, .int .i64 a0_2, .int .i64 a0_3, .int .i64 a0_4]] w fun e w' => e = .returned (.agg #[.int .i64 r1, .int .i64 r2, .int .i64 r3, .int .i64 r4, .int .i64 r5]) ∧ Below w.heap.size w w' := by
  have hu23 := Tryd.underlying23
  have hu26 := Tryd.underlying26
  have HB := Aside0.mk (Below.refl w.heap.size w)
  have H : (some (a0_0, a0_1, a0_2, a0_3, a0_4)) = some (r1, r2, r3, r4, r5) := h
  clear h
  simp only [Option.some.injEq, Prod.mk.injEq] at H
  obtain ⟨rfl, rfl, rfl, rfl, rfl⟩ := H
  go_enter Tryd.func7, Tryd.ntmps7
  go_wp2_with (first | ((with_reducible refine gate_dst (N := 1) rfl ?_); refine box_event ?hg (N := 1) ?hd (cs := #[.int .i64 a0_0, .int .i64 a0_1, .int .i64 a0_2, .int .i64 a0_3, .int .i64 a0_4]) (t := 23) ?hr ?_; (case hd => rfl); (case hg => rfl); (case hr => first | (go_simp; done) | (go_simp; rfl)); intro gb123 hg w2 hbox hb; have n0_ := Aside0.mk (below_step (upB HB.out) hb); have n1_ := Aside0.mk (hbox); have n2_ := Aside0.mk ((by rw [hg]; exact (below_size (upB HB.out)) : w.heap.size ≤ gb123)); have n3_ := Aside0.mk ((by rw [hg]; exact (below_size (upB HB.out)) : w.heap.size ≤ gb123)); clear HB; have HB := n0_; have BK123 := n1_; have GW123 := n2_; have GE123 := n3_; clear n0_ n1_ n2_ n3_; clear hb hbox hg) | ((with_reducible refine gate_dst (N := 2) rfl ?_); refine box_event ?hg (N := 2) ?hd (cs := #[.int .i64 0, .int .i64 0, .int .i64 0, .int .i64 0, .int .i64 0]) (t := 26) ?hr ?_; (case hd => rfl); (case hg => rfl); (case hr => first | (go_simp; done) | (go_simp; rfl)); intro gb124 hg w3 hbox hb; have n0_ := Aside0.mk (blk_below (g := gb123) (o := .cells #[.int .i64 a0_0, .int .i64 a0_1, .int .i64 a0_2, .int .i64 a0_3, .int .i64 a0_4] 23 (0, 0)) (upK BK123.out) hb); have n1_ := Aside0.mk (below_step (upB1 HB.out GE123.out) hb); have n2_ := Aside0.mk (hbox); have n3_ := Aside0.mk ((by rw [hg]; exact (below_size (upB1 HB.out GE123.out)) : w.heap.size ≤ gb124)); have n4_ := Aside0.mk ((by rw [hg]; exact (below_size (upB1 HB.out GE123.out)) : w.heap.size ≤ gb124)); have n5_ := Aside0.mk ((by rw [hg]; exact Nat.ne_of_lt (blk_lt (g := gb123) (o := .cells #[.int .i64 a0_0, .int .i64 a0_1, .int .i64 a0_2, .int .i64 a0_3, .int .i64 a0_4] 23 (0, 0)) (upK BK123.out)) : gb123 ≠ gb124)); have n6_ := Aside0.mk ((by rw [hg]; exact Nat.ne_of_gt (blk_lt (g := gb123) (o := .cells #[.int .i64 a0_0, .int .i64 a0_1, .int .i64 a0_2, .int .i64 a0_3, .int .i64 a0_4] 23 (0, 0)) (upK BK123.out)) : gb124 ≠ gb123)); clear BK123; clear HB; have BK123 := n0_; have HB := n1_; have BK124 := n2_; have GW124 := n3_; have GE124 := n4_; have NB123_124 := n5_; have NB124_123 := n6_; clear n0_ n1_ n2_ n3_ n4_ n5_ n6_; clear hb hbox hg) | ((with_reducible refine gate_dst (N := 3) rfl ?_); refine box_event ?hg (N := 3) ?hd (cs := #[.int .i64 0, .int .i64 0, .int .i64 0, .int .i64 0, .int .i64 0]) (t := 26) ?hr ?_; (case hd => rfl); (case hg => rfl); (case hr => first | (go_simp; done) | (go_simp; rfl)); intro gb125 hg w4 hbox hb; have n0_ := Aside0.mk (blk_below (g := gb123) (o := .cells #[.int .i64 a0_0, .int .i64 a0_1, .int .i64 a0_2, .int .i64 a0_3, .int .i64 a0_4] 23 (0, 0)) (upK BK123.out) hb); have n1_ := Aside0.mk (blk_below (g := gb124) (o := .cells #[.int .i64 0, .int .i64 0, .int .i64 0, .int .i64 0, .int .i64 0] 26 (0, 0)) (upK BK124.out) hb); have n2_ := Aside0.mk (below_step (upB2 HB.out GE123.out GE124.out) hb); have n3_ := Aside0.mk (hbox); have n4_ := Aside0.mk ((by rw [hg]; exact (below_size (upB2 HB.out GE123.out GE124.out)) : w.heap.size ≤ gb125)); have n5_ := Aside0.mk ((by rw [hg]; exact (below_size (upB2 HB.out GE123.out GE124.out)) : w.heap.size ≤ gb125)); have n6_ := Aside0.mk ((by rw [hg]; exact Nat.ne_of_lt (blk_lt (g := gb123) (o := .cells #[.int .i64 a0_0, .int .i64 a0_1, .int .i64 a0_2, .int .i64 a0_3, .int .i64 a0_4] 23 (0, 0)) (upK BK123.out)) : gb123 ≠ gb125)); have n7_ := Aside0.mk ((by rw [hg]; exact Nat.ne_of_gt (blk_lt (g := gb123) (o := .cells #[.int .i64 a0_0, .int .i64 a0_1, .int .i64 a0_2, .int .i64 a0_3, .int .i64 a0_4] 23 (0, 0)) (upK BK123.out)) : gb125 ≠ gb123)); have n8_ := Aside0.mk ((by rw [hg]; exact Nat.ne_of_lt (blk_lt (g := gb124) (o := .cells #[.int .i64 0, .int .i64 0, .int .i64 0, .int .i64 0, .int .i64 0] 26 (0, 0)) (upK BK124.out)) : gb124 ≠ gb125)); have n9_ := Aside0.mk ((by rw [hg]; exact Nat.ne_of_gt (blk_lt (g := gb124) (o := .cells #[.int .i64 0, .int .i64 0, .int .i64 0, .int .i64 0, .int .i64 0] 26 (0, 0)) (upK BK124.out)) : gb125 ≠ gb124)); clear BK123; clear BK124; clear HB; have BK123 := n0_; have BK124 := n1_; have HB := n2_; have BK125 := n3_; have GW125 := n4_; have GE125 := n5_; have NB123_125 := n6_; have NB125_123 := n7_; have NB124_125 := n8_; have NB125_124 := n9_; clear n0_ n1_ n2_ n3_ n4_ n5_ n6_ n7_ n8_ n9_; clear hb hbox hg; have hnb5 := NB123_124.out; have hnc5 := NB124_123.out; have hnb6 := NB123_125.out; have hnc6 := NB125_123.out; have hcz7_0 := ci BK123.out 0 a0_0 rfl; have hcz7_1 := ci BK123.out 1 a0_1 rfl; have hcz7_2 := ci BK123.out 2 a0_2 rfl; have hcz7_3 := ci BK123.out 3 a0_3 rfl; have hcz7_4 := ci BK123.out 4 a0_4 rfl; have hfz7_0 := fun j_ : Nat => blk_frozen BK123.out j_; have hnb8 := NB125_124.out; have hnc8 := NB124_125.out; have hcz9_0 := ci BK125.out 0 0 rfl; have hcz9_1 := ci BK125.out 1 0 rfl; have hcz9_2 := ci BK125.out 2 0 rfl; have hcz9_3 := ci BK125.out 3 0 rfl; have hcz9_4 := ci BK125.out 4 0 rfl; have hfz9_0 := fun j_ : Nat => blk_frozen BK125.out j_; have hcz10_0 := ci BK124.out 0 0 rfl; have hcz10_1 := ci BK124.out 1 0 rfl; have hcz10_2 := ci BK124.out 2 0 rfl; have hcz10_3 := ci BK124.out 3 0 rfl; have hcz10_4 := ci BK124.out 4 0 rfl; have hfz10_0 := fun j_ : Nat => blk_frozen BK124.out j_))
  refine bodyPost_ret (results_cell_row rfl _ _ gb124 26 #[.int .i64 a0_0, .int .i64 a0_1, .int .i64 a0_2, .int .i64 a0_3, .int .i64 a0_4] (0, 0) _ rfl (by (with_reducible repeat (first | refine blk_drewN ?_ _ | refine blk_drew ?_ | refine blk_alloc ?_ _)); refine blk_put (cs := #[.int .i64 a0_0, .int .i64 a0_1, .int .i64 a0_2, .int .i64 a0_3, .int .i64 0]) ?_ 4 _ rfl; (with_reducible repeat (first | refine blk_drewN ?_ _ | refine blk_drew ?_ | refine blk_alloc ?_ _)); refine blk_put (cs := #[.int .i64 a0_0, .int .i64 a0_1, .int .i64 a0_2, .int .i64 0, .int .i64 0]) ?_ 3 _ rfl; (with_reducible repeat (first | refine blk_drewN ?_ _ | refine blk_drew ?_ | refine blk_alloc ?_ _)); refine blk_put (cs := #[.int .i64 a0_0, .int .i64 a0_1, .int .i64 0, .int .i64 0, .int .i64 0]) ?_ 2 _ rfl; (with_reducible repeat (first | refine blk_drewN ?_ _ | refine blk_drew ?_ | refine blk_alloc ?_ _)); refine blk_put (cs := #[.int .i64 a0_0, .int .i64 0, .int .i64 0, .int .i64 0, .int .i64 0]) ?_ 1 _ rfl; (with_reducible repeat (first | refine blk_drewN ?_ _ | refine blk_drew ?_ | refine blk_alloc ?_ _)); refine blk_put (cs := #[.int .i64 0, .int .i64 0, .int .i64 0, .int .i64 0, .int .i64 0]) ?_ 0 _ rfl; (with_reducible repeat (first | refine blk_drewN ?_ _ | refine blk_drew ?_ | refine blk_alloc ?_ _)); refine blk_far ?_ NB124_125.out _; (with_reducible repeat (first | refine blk_drewN ?_ _ | refine blk_drew ?_ | refine blk_alloc ?_ _)); refine blk_far ?_ NB124_125.out _; (with_reducible repeat (first | refine blk_drewN ?_ _ | refine blk_drew ?_ | refine blk_alloc ?_ _)); refine blk_far ?_ NB124_125.out _; (with_reducible repeat (first | refine blk_drewN ?_ _ | refine blk_drew ?_ | refine blk_alloc ?_ _)); refine blk_far ?_ NB124_125.out _; (with_reducible repeat (first | refine blk_drewN ?_ _ | refine blk_drew ?_ | refine blk_alloc ?_ _)); refine blk_far ?_ NB124_125.out _; (with_reducible repeat (first | refine blk_drewN ?_ _ | refine blk_drew ?_ | refine blk_alloc ?_ _)); exact BK124.out) Tryd.underlying26 rfl (by kernel_rfl)) rfl ?_
  exact ⟨by first | rfl | (simp [errW_none, errW_some] <;> rfl) | (simp [*, errW_none, errW_some] <;> rfl), (upB3 HB.out GE123.out GE124.out GE125.out)⟩

/-! ### impl_within: function 53 -/
def impl_within.f (a0 : Int) (a1 : Int) (a2 : Int) : Option (Bool) := if a0 ≥ a1 then (some (decide (a0 ≤ a2))) else (some false)
set_option maxHeartbeats 8000000 in
set_option maxRecDepth 100000 in
theorem impl_within.calls (a0 : Int) (a1 : Int) (a2 : Int) (r : Bool) (w : World) (h : impl_within.f a0 a1 a2 = some r) :
    Calls Tryd.prog 53 #[.int .i64 a0, .int .i64 a1, .int .i64 a2] w fun e w' => e = .returned (.bool r) ∧ Drawn0 w w' := by
  have H : (if a0 ≥ a1 then (some (decide (a0 ≤ a2))) else (some false)) = some r := h
  clear h
  by_cases c4 : a0 ≥ a1
  · rw [if_pos c4] at H
    have c4b0 : decide (a1 ≤ a0) = true := decide_eq_true c4
    clear c4
    obtain rfl := Option.some.inj H
    go_enter Tryd.func53, Tryd.ntmps53
    go_wp2
    go_ret
    exact ⟨by first | rfl | (simp; done) | (simp [*]; done), by repeat (first | exact Drawn0.refl _ | apply Drawn0.step)⟩
  · rw [if_neg c4] at H
    have c4b0 : decide (a1 ≤ a0) = false := decide_eq_false c4
    clear c4
    obtain rfl := Option.some.inj H
    go_enter Tryd.func53, Tryd.ntmps53
    go_wp2
    go_ret
    exact ⟨by first | rfl | (simp; done) | (simp [*]; done), by repeat (first | exact Drawn0.refl _ | apply Drawn0.step)⟩

/-! ### impl_isId: function 34 -/
def impl_isId.f (a0 : Int) : Option (Bool) := (impl_within.f a0 1 99).bind fun t126 => (some t126)
set_option maxHeartbeats 8000000 in
set_option maxRecDepth 100000 in
theorem impl_isId.calls (a0 : Int) (r : Bool) (w : World) (h : impl_isId.f a0 = some r) :
    Calls Tryd.prog 34 #[.int .i64 a0] w fun e w' => e = .returned (.bool r) ∧ Drawn0 w w' := by
  have H : ((impl_within.f a0 1 99).bind fun t126 => (some t126)) = some r := h
  clear h
  replace H := Option.bind_eq_some_iff.mp H
  obtain ⟨t126, A20, H⟩ := H
  replace H : (some t126) = some r := H
  have A2 := Aside0.mk A20
  clear A20
  obtain rfl := Option.some.inj H
  go_enter Tryd.func34, Tryd.ntmps34
  go_wp2_with (first | ((with_reducible refine gate_callee (f := 53) rfl ?_); refine goesL_ (some 4) rfl rfl Tryd.func53 (by kernel_rfl) rfl #[.int .i64 a0, .int .i64 1, .int .i64 99] rfl argsB ?_; (with_reducible refine (impl_within.calls a0 1 99 t126 _ A2.out).mono ?_); rintro e w' ⟨rfl, ⟨nd, rfl⟩⟩; refine ⟨_, rfl, ?_⟩))
  go_ret
  exact ⟨by first | rfl | (simp; done) | (simp [*]; done), by repeat (first | exact Drawn0.refl _ | apply Drawn0.step)⟩

/-! ### impl_isStation: function 35 -/
def impl_isStation.f (a0 : Int) : Option (Bool) := (impl_within.f a0 0 7).bind fun t127 => (some t127)
set_option maxHeartbeats 8000000 in
set_option maxRecDepth 100000 in
theorem impl_isStation.calls (a0 : Int) (r : Bool) (w : World) (h : impl_isStation.f a0 = some r) :
    Calls Tryd.prog 35 #[.int .i64 a0] w fun e w' => e = .returned (.bool r) ∧ Drawn0 w w' := by
  have H : ((impl_within.f a0 0 7).bind fun t127 => (some t127)) = some r := h
  clear h
  replace H := Option.bind_eq_some_iff.mp H
  obtain ⟨t127, A20, H⟩ := H
  replace H : (some t127) = some r := H
  have A2 := Aside0.mk A20
  clear A20
  obtain rfl := Option.some.inj H
  go_enter Tryd.func35, Tryd.ntmps35
  go_wp2_with (first | ((with_reducible refine gate_callee (f := 53) rfl ?_); refine goesL_ (some 4) rfl rfl Tryd.func53 (by kernel_rfl) rfl #[.int .i64 a0, .int .i64 0, .int .i64 7] rfl argsB ?_; (with_reducible refine (impl_within.calls a0 0 7 t127 _ A2.out).mono ?_); rintro e w' ⟨rfl, ⟨nd, rfl⟩⟩; refine ⟨_, rfl, ?_⟩))
  go_ret
  exact ⟨by first | rfl | (simp; done) | (simp [*]; done), by repeat (first | exact Drawn0.refl _ | apply Drawn0.step)⟩

/-! ### impl_isGrade: function 36 -/
def impl_isGrade.f (a0 : Int) : Option (Bool) := (impl_within.f a0 1 9).bind fun t128 => (some t128)
set_option maxHeartbeats 8000000 in
set_option maxRecDepth 100000 in
theorem impl_isGrade.calls (a0 : Int) (r : Bool) (w : World) (h : impl_isGrade.f a0 = some r) :
    Calls Tryd.prog 36 #[.int .i64 a0] w fun e w' => e = .returned (.bool r) ∧ Drawn0 w w' := by
  have H : ((impl_within.f a0 1 9).bind fun t128 => (some t128)) = some r := h
  clear h
  replace H := Option.bind_eq_some_iff.mp H
  obtain ⟨t128, A20, H⟩ := H
  replace H : (some t128) = some r := H
  have A2 := Aside0.mk A20
  clear A20
  obtain rfl := Option.some.inj H
  go_enter Tryd.func36, Tryd.ntmps36
  go_wp2_with (first | ((with_reducible refine gate_callee (f := 53) rfl ?_); refine goesL_ (some 4) rfl rfl Tryd.func53 (by kernel_rfl) rfl #[.int .i64 a0, .int .i64 1, .int .i64 9] rfl argsB ?_; (with_reducible refine (impl_within.calls a0 1 9 t128 _ A2.out).mono ?_); rintro e w' ⟨rfl, ⟨nd, rfl⟩⟩; refine ⟨_, rfl, ?_⟩))
  go_ret
  exact ⟨by first | rfl | (simp; done) | (simp [*]; done), by repeat (first | exact Drawn0.refl _ | apply Drawn0.step)⟩

/-! ### impl_isState: function 37 -/
def impl_isState.f (a0 : Int) : Option (Bool) := (impl_within.f a0 0 3).bind fun t129 => (some t129)
set_option maxHeartbeats 8000000 in
set_option maxRecDepth 100000 in
theorem impl_isState.calls (a0 : Int) (r : Bool) (w : World) (h : impl_isState.f a0 = some r) :
    Calls Tryd.prog 37 #[.int .i64 a0] w fun e w' => e = .returned (.bool r) ∧ Drawn0 w w' := by
  have H : ((impl_within.f a0 0 3).bind fun t129 => (some t129)) = some r := h
  clear h
  replace H := Option.bind_eq_some_iff.mp H
  obtain ⟨t129, A20, H⟩ := H
  replace H : (some t129) = some r := H
  have A2 := Aside0.mk A20
  clear A20
  obtain rfl := Option.some.inj H
  go_enter Tryd.func37, Tryd.ntmps37
  go_wp2_with (first | ((with_reducible refine gate_callee (f := 53) rfl ?_); refine goesL_ (some 4) rfl rfl Tryd.func53 (by kernel_rfl) rfl #[.int .i64 a0, .int .i64 0, .int .i64 3] rfl argsB ?_; (with_reducible refine (impl_within.calls a0 0 3 t129 _ A2.out).mono ?_); rintro e w' ⟨rfl, ⟨nd, rfl⟩⟩; refine ⟨_, rfl, ?_⟩))
  go_ret
  exact ⟨by first | rfl | (simp; done) | (simp [*]; done), by repeat (first | exact Drawn0.refl _ | apply Drawn0.step)⟩

/-! ### impl_IsLead: function 14 -/
def impl_IsLead.f (a0_0 : Int) (a0_1 : Int) (a0_2 : Int) (a0_3 : Int) (a0_4 : Int) : Option (Bool) := (impl_isId.f a0_0).bind fun t131 => (if t131 = true then ((impl_isStation.f a0_1).bind fun t132 => (if t132 = true then ((impl_isGrade.f a0_2).bind fun t133 => (if t133 = true then ((impl_isGrade.f a0_3).bind fun t134 => (if t134 = true then ((impl_isState.f a0_4).bind fun t135 => (some t135)) else (some false))) else (some false))) else (some false))) else (some false))
set_option maxHeartbeats 8000000 in
set_option maxRecDepth 100000 in
theorem impl_IsLead.calls (a0_0 : Int) (a0_1 : Int) (a0_2 : Int) (a0_3 : Int) (a0_4 : Int) (r : Bool) (w : World) (h : impl_IsLead.f a0_0 a0_1 a0_2 a0_3 a0_4 = some r) :
    Calls Tryd.prog 14 #[.agg #[.int .i64 a0_0, .int .i64 a0_1, .int .i64 a0_2, .int .i64 a0_3, .int .i64 a0_4]] w fun e w' => e = .returned (.bool r) ∧ Below w.heap.size w w' := by
  have hu26 := Tryd.underlying26
  have HB := Aside0.mk (Below.refl w.heap.size w)
  have H : ((impl_isId.f a0_0).bind fun t131 => (if t131 = true then ((impl_isStation.f a0_1).bind fun t132 => (if t132 = true then ((impl_isGrade.f a0_2).bind fun t133 => (if t133 = true then ((impl_isGrade.f a0_3).bind fun t134 => (if t134 = true then ((impl_isState.f a0_4).bind fun t135 => (some t135)) else (some false))) else (some false))) else (some false))) else (some false))) = some r := h
  clear h
  replace H := Option.bind_eq_some_iff.mp H
  obtain ⟨t131, A20, H⟩ := H
  replace H : (if t131 = true then ((impl_isStation.f a0_1).bind fun t132 => (if t132 = true then ((impl_isGrade.f a0_2).bind fun t133 => (if t133 = true then ((impl_isGrade.f a0_3).bind fun t134 => (if t134 = true then ((impl_isState.f a0_4).bind fun t135 => (some t135)) else (some false))) else (some false))) else (some false))) else (some false)) = some r := H
  have A2 := Aside0.mk A20
  clear A20
  by_cases c3 : t131 = true
  · subst c3
    have H1 : ((impl_isStation.f a0_1).bind fun t132 => (if t132 = true then ((impl_isGrade.f a0_2).bind fun t133 => (if t133 = true then ((impl_isGrade.f a0_3).bind fun t134 => (if t134 = true then ((impl_isState.f a0_4).bind fun t135 => (some t135)) else (some false))) else (some false))) else (some false))) = some r := by rw [if_pos rfl] at H; exact H
    clear H
    have H := H1
    clear H1
    replace H := Option.bind_eq_some_iff.mp H
    obtain ⟨t132, A40, H⟩ := H
    replace H : (if t132 = true then ((impl_isGrade.f a0_2).bind fun t133 => (if t133 = true then ((impl_isGrade.f a0_3).bind fun t134 => (if t134 = true then ((impl_isState.f a0_4).bind fun t135 => (some t135)) else (some false))) else (some false))) else (some false)) = some r := H
    have A4 := Aside0.mk A40
    clear A40
    by_cases c5 : t132 = true
    · subst c5
      have H1 : ((impl_isGrade.f a0_2).bind fun t133 => (if t133 = true then ((impl_isGrade.f a0_3).bind fun t134 => (if t134 = true then ((impl_isState.f a0_4).bind fun t135 => (some t135)) else (some false))) else (some false))) = some r := by rw [if_pos rfl] at H; exact H
      clear H
      have H := H1
      clear H1
      replace H := Option.bind_eq_some_iff.mp H
      obtain ⟨t133, A60, H⟩ := H
      replace H : (if t133 = true then ((impl_isGrade.f a0_3).bind fun t134 => (if t134 = true then ((impl_isState.f a0_4).bind fun t135 => (some t135)) else (some false))) else (some false)) = some r := H
      have A6 := Aside0.mk A60
      clear A60
      by_cases c7 : t133 = true
      · subst c7
        have H1 : ((impl_isGrade.f a0_3).bind fun t134 => (if t134 = true then ((impl_isState.f a0_4).bind fun t135 => (some t135)) else (some false))) = some r := by rw [if_pos rfl] at H; exact H
        clear H
        have H := H1
        clear H1
        replace H := Option.bind_eq_some_iff.mp H
        obtain ⟨t134, A80, H⟩ := H
        replace H : (if t134 = true then ((impl_isState.f a0_4).bind fun t135 => (some t135)) else (some false)) = some r := H
        have A8 := Aside0.mk A80
        clear A80
        by_cases c9 : t134 = true
        · subst c9
          have H1 : ((impl_isState.f a0_4).bind fun t135 => (some t135)) = some r := by rw [if_pos rfl] at H; exact H
          clear H
          have H := H1
          clear H1
          replace H := Option.bind_eq_some_iff.mp H
          obtain ⟨t135, A100, H⟩ := H
          replace H : (some t135) = some r := H
          have A10 := Aside0.mk A100
          clear A100
          obtain rfl := Option.some.inj H
          go_enter Tryd.func14, Tryd.ntmps14
          go_wp2_with (first | ((with_reducible refine gate_dst (N := 1) rfl ?_); refine box_event ?hg (N := 1) ?hd (cs := #[.int .i64 a0_0, .int .i64 a0_1, .int .i64 a0_2, .int .i64 a0_3, .int .i64 a0_4]) (t := 26) ?hr ?_; (case hd => rfl); (case hg => rfl); (case hr => first | (go_simp; done) | (go_simp; rfl)); intro gb130 hg w11 hbox hb; have n0_ := Aside0.mk (below_step (upB HB.out) hb); have n1_ := Aside0.mk (hbox); have n2_ := Aside0.mk ((by rw [hg]; exact (below_size (upB HB.out)) : w.heap.size ≤ gb130)); have n3_ := Aside0.mk ((by rw [hg]; exact (below_size (upB HB.out)) : w.heap.size ≤ gb130)); clear HB; have HB := n0_; have BK130 := n1_; have GW130 := n2_; have GE130 := n3_; clear n0_ n1_ n2_ n3_; clear hb hbox hg; have hcz12_0 := ci BK130.out 0 a0_0 rfl; have hcz12_1 := ci BK130.out 1 a0_1 rfl; have hcz12_2 := ci BK130.out 2 a0_2 rfl; have hcz12_3 := ci BK130.out 3 a0_3 rfl; have hcz12_4 := ci BK130.out 4 a0_4 rfl; have hfz12_0 := fun j_ : Nat => blk_frozen BK130.out j_) | ((with_reducible refine gate_callee (f := 34) rfl ?_); refine goesL_ (some 5) rfl rfl Tryd.func34 (by kernel_rfl) rfl #[.int .i64 a0_0] rfl argsB ?_; (with_reducible refine (impl_isId.calls a0_0 true _ A2.out).mono ?_); rintro e w' ⟨rfl, ⟨nd, rfl⟩⟩; refine ⟨_, rfl, ?_⟩) | (go_at_call 35; (with_reducible refine (impl_isStation.calls a0_1 true _ A4.out).mono ?_); rintro e w' ⟨rfl, ⟨nd, rfl⟩⟩) | (go_at_call 36; (with_reducible refine (impl_isGrade.calls a0_2 true _ A6.out).mono ?_); rintro e w' ⟨rfl, ⟨nd, rfl⟩⟩) | (go_at_call 36; (with_reducible refine (impl_isGrade.calls a0_3 true _ A8.out).mono ?_); rintro e w' ⟨rfl, ⟨nd, rfl⟩⟩) | (go_at_call 37; (with_reducible refine (impl_isState.calls a0_4 t135 _ A10.out).mono ?_); rintro e w' ⟨rfl, ⟨nd, rfl⟩⟩))
          go_ret
          exact ⟨by first | rfl | (simp [errW_none, errW_some] <;> rfl) | (simp [*, errW_none, errW_some] <;> rfl), (upB1 HB.out GE130.out)⟩
        · replace c9 := Bool.eq_false_iff.mpr c9
          subst c9
          have H1 : (some false) = some r := by rw [if_neg (show ¬ (false = true) by decide)] at H; exact H
          clear H
          have H := H1
          clear H1
          obtain rfl := Option.some.inj H
          go_enter Tryd.func14, Tryd.ntmps14
          go_wp2_with (first | ((with_reducible refine gate_dst (N := 1) rfl ?_); refine box_event ?hg (N := 1) ?hd (cs := #[.int .i64 a0_0, .int .i64 a0_1, .int .i64 a0_2, .int .i64 a0_3, .int .i64 a0_4]) (t := 26) ?hr ?_; (case hd => rfl); (case hg => rfl); (case hr => first | (go_simp; done) | (go_simp; rfl)); intro gb130 hg w13 hbox hb; have n0_ := Aside0.mk (below_step (upB HB.out) hb); have n1_ := Aside0.mk (hbox); have n2_ := Aside0.mk ((by rw [hg]; exact (below_size (upB HB.out)) : w.heap.size ≤ gb130)); have n3_ := Aside0.mk ((by rw [hg]; exact (below_size (upB HB.out)) : w.heap.size ≤ gb130)); clear HB; have HB := n0_; have BK130 := n1_; have GW130 := n2_; have GE130 := n3_; clear n0_ n1_ n2_ n3_; clear hb hbox hg; have hcz14_0 := ci BK130.out 0 a0_0 rfl; have hcz14_1 := ci BK130.out 1 a0_1 rfl; have hcz14_2 := ci BK130.out 2 a0_2 rfl; have hcz14_3 := ci BK130.out 3 a0_3 rfl; have hcz14_4 := ci BK130.out 4 a0_4 rfl; have hfz14_0 := fun j_ : Nat => blk_frozen BK130.out j_) | ((with_reducible refine gate_callee (f := 34) rfl ?_); refine goesL_ (some 5) rfl rfl Tryd.func34 (by kernel_rfl) rfl #[.int .i64 a0_0] rfl argsB ?_; (with_reducible refine (impl_isId.calls a0_0 true _ A2.out).mono ?_); rintro e w' ⟨rfl, ⟨nd, rfl⟩⟩; refine ⟨_, rfl, ?_⟩) | (go_at_call 35; (with_reducible refine (impl_isStation.calls a0_1 true _ A4.out).mono ?_); rintro e w' ⟨rfl, ⟨nd, rfl⟩⟩) | (go_at_call 36; (with_reducible refine (impl_isGrade.calls a0_2 true _ A6.out).mono ?_); rintro e w' ⟨rfl, ⟨nd, rfl⟩⟩) | (go_at_call 36; (with_reducible refine (impl_isGrade.calls a0_3 false _ A8.out).mono ?_); rintro e w' ⟨rfl, ⟨nd, rfl⟩⟩))
          go_ret
          exact ⟨by first | rfl | (simp [errW_none, errW_some] <;> rfl) | (simp [*, errW_none, errW_some] <;> rfl), (upB1 HB.out GE130.out)⟩
      · replace c7 := Bool.eq_false_iff.mpr c7
        subst c7
        have H1 : (some false) = some r := by rw [if_neg (show ¬ (false = true) by decide)] at H; exact H
        clear H
        have H := H1
        clear H1
        obtain rfl := Option.some.inj H
        go_enter Tryd.func14, Tryd.ntmps14
        go_wp2_with (first | ((with_reducible refine gate_dst (N := 1) rfl ?_); refine box_event ?hg (N := 1) ?hd (cs := #[.int .i64 a0_0, .int .i64 a0_1, .int .i64 a0_2, .int .i64 a0_3, .int .i64 a0_4]) (t := 26) ?hr ?_; (case hd => rfl); (case hg => rfl); (case hr => first | (go_simp; done) | (go_simp; rfl)); intro gb130 hg w15 hbox hb; have n0_ := Aside0.mk (below_step (upB HB.out) hb); have n1_ := Aside0.mk (hbox); have n2_ := Aside0.mk ((by rw [hg]; exact (below_size (upB HB.out)) : w.heap.size ≤ gb130)); have n3_ := Aside0.mk ((by rw [hg]; exact (below_size (upB HB.out)) : w.heap.size ≤ gb130)); clear HB; have HB := n0_; have BK130 := n1_; have GW130 := n2_; have GE130 := n3_; clear n0_ n1_ n2_ n3_; clear hb hbox hg; have hcz16_0 := ci BK130.out 0 a0_0 rfl; have hcz16_1 := ci BK130.out 1 a0_1 rfl; have hcz16_2 := ci BK130.out 2 a0_2 rfl; have hcz16_3 := ci BK130.out 3 a0_3 rfl; have hcz16_4 := ci BK130.out 4 a0_4 rfl; have hfz16_0 := fun j_ : Nat => blk_frozen BK130.out j_) | ((with_reducible refine gate_callee (f := 34) rfl ?_); refine goesL_ (some 5) rfl rfl Tryd.func34 (by kernel_rfl) rfl #[.int .i64 a0_0] rfl argsB ?_; (with_reducible refine (impl_isId.calls a0_0 true _ A2.out).mono ?_); rintro e w' ⟨rfl, ⟨nd, rfl⟩⟩; refine ⟨_, rfl, ?_⟩) | (go_at_call 35; (with_reducible refine (impl_isStation.calls a0_1 true _ A4.out).mono ?_); rintro e w' ⟨rfl, ⟨nd, rfl⟩⟩) | (go_at_call 36; (with_reducible refine (impl_isGrade.calls a0_2 false _ A6.out).mono ?_); rintro e w' ⟨rfl, ⟨nd, rfl⟩⟩))
        go_ret
        exact ⟨by first | rfl | (simp [errW_none, errW_some] <;> rfl) | (simp [*, errW_none, errW_some] <;> rfl), (upB1 HB.out GE130.out)⟩
    · replace c5 := Bool.eq_false_iff.mpr c5
      subst c5
      have H1 : (some false) = some r := by rw [if_neg (show ¬ (false = true) by decide)] at H; exact H
      clear H
      have H := H1
      clear H1
      obtain rfl := Option.some.inj H
      go_enter Tryd.func14, Tryd.ntmps14
      go_wp2_with (first | ((with_reducible refine gate_dst (N := 1) rfl ?_); refine box_event ?hg (N := 1) ?hd (cs := #[.int .i64 a0_0, .int .i64 a0_1, .int .i64 a0_2, .int .i64 a0_3, .int .i64 a0_4]) (t := 26) ?hr ?_; (case hd => rfl); (case hg => rfl); (case hr => first | (go_simp; done) | (go_simp; rfl)); intro gb130 hg w17 hbox hb; have n0_ := Aside0.mk (below_step (upB HB.out) hb); have n1_ := Aside0.mk (hbox); have n2_ := Aside0.mk ((by rw [hg]; exact (below_size (upB HB.out)) : w.heap.size ≤ gb130)); have n3_ := Aside0.mk ((by rw [hg]; exact (below_size (upB HB.out)) : w.heap.size ≤ gb130)); clear HB; have HB := n0_; have BK130 := n1_; have GW130 := n2_; have GE130 := n3_; clear n0_ n1_ n2_ n3_; clear hb hbox hg; have hcz18_0 := ci BK130.out 0 a0_0 rfl; have hcz18_1 := ci BK130.out 1 a0_1 rfl; have hcz18_2 := ci BK130.out 2 a0_2 rfl; have hcz18_3 := ci BK130.out 3 a0_3 rfl; have hcz18_4 := ci BK130.out 4 a0_4 rfl; have hfz18_0 := fun j_ : Nat => blk_frozen BK130.out j_) | ((with_reducible refine gate_callee (f := 34) rfl ?_); refine goesL_ (some 5) rfl rfl Tryd.func34 (by kernel_rfl) rfl #[.int .i64 a0_0] rfl argsB ?_; (with_reducible refine (impl_isId.calls a0_0 true _ A2.out).mono ?_); rintro e w' ⟨rfl, ⟨nd, rfl⟩⟩; refine ⟨_, rfl, ?_⟩) | (go_at_call 35; (with_reducible refine (impl_isStation.calls a0_1 false _ A4.out).mono ?_); rintro e w' ⟨rfl, ⟨nd, rfl⟩⟩))
      go_ret
      exact ⟨by first | rfl | (simp [errW_none, errW_some] <;> rfl) | (simp [*, errW_none, errW_some] <;> rfl), (upB1 HB.out GE130.out)⟩
  · replace c3 := Bool.eq_false_iff.mpr c3
    subst c3
    have H1 : (some false) = some r := by rw [if_neg (show ¬ (false = true) by decide)] at H; exact H
    clear H
    have H := H1
    clear H1
    obtain rfl := Option.some.inj H
    go_enter Tryd.func14, Tryd.ntmps14
    go_wp2_with (first | ((with_reducible refine gate_dst (N := 1) rfl ?_); refine box_event ?hg (N := 1) ?hd (cs := #[.int .i64 a0_0, .int .i64 a0_1, .int .i64 a0_2, .int .i64 a0_3, .int .i64 a0_4]) (t := 26) ?hr ?_; (case hd => rfl); (case hg => rfl); (case hr => first | (go_simp; done) | (go_simp; rfl)); intro gb130 hg w19 hbox hb; have n0_ := Aside0.mk (below_step (upB HB.out) hb); have n1_ := Aside0.mk (hbox); have n2_ := Aside0.mk ((by rw [hg]; exact (below_size (upB HB.out)) : w.heap.size ≤ gb130)); have n3_ := Aside0.mk ((by rw [hg]; exact (below_size (upB HB.out)) : w.heap.size ≤ gb130)); clear HB; have HB := n0_; have BK130 := n1_; have GW130 := n2_; have GE130 := n3_; clear n0_ n1_ n2_ n3_; clear hb hbox hg; have hcz20_0 := ci BK130.out 0 a0_0 rfl; have hcz20_1 := ci BK130.out 1 a0_1 rfl; have hcz20_2 := ci BK130.out 2 a0_2 rfl; have hcz20_3 := ci BK130.out 3 a0_3 rfl; have hcz20_4 := ci BK130.out 4 a0_4 rfl; have hfz20_0 := fun j_ : Nat => blk_frozen BK130.out j_) | ((with_reducible refine gate_callee (f := 34) rfl ?_); refine goesL_ (some 5) rfl rfl Tryd.func34 (by kernel_rfl) rfl #[.int .i64 a0_0] rfl argsB ?_; (with_reducible refine (impl_isId.calls a0_0 false _ A2.out).mono ?_); rintro e w' ⟨rfl, ⟨nd, rfl⟩⟩; refine ⟨_, rfl, ?_⟩))
    go_ret
    exact ⟨by first | rfl | (simp [errW_none, errW_some] <;> rfl) | (simp [*, errW_none, errW_some] <;> rfl), (upB1 HB.out GE130.out)⟩

end Go.Proofs.YtldgjibimolcdaaDoor.QFnExactLeadText
