/- Contracts of Go functions that FnLeads reaches: the call computes what the plain function says. No condition. -/
import Derived.Test.YtldgjibimolcdaaDoorQFnLeadsx0
import Derived.Test.YtldgjibimolcdaaDoorQFnLeadsx2
namespace Go.Proofs.YtldgjibimolcdaaDoor.QFnLeads
open Go.RowKit Go.Proofs.YtldgjibimolcdaaDoorW.PrintWords Go.Proofs.YtldgjibimolcdaaDoorW.PrintLast Go.Proofs.YtldgjibimolcdaaDoorW.PrintMore
attribute [local go_sem] max2_int min2_int max_two min_two max_three min_three max_four min_four   -- for this text's walks alone
set_option linter.unusedVariables false
set_option linter.unusedSimpArgs false

/-! ### spec_l18Text: function 25 -/
def spec_l18Text.f (k : Nat) (a0_0 a0_1 a0_2 a0_3 a0_4 : Int) : Option (ByteArray) := (spec_l1Num.f k a0_0).bind fun t112 => (if 5 + t112.size ≤ 9223372036854775807 then (if ((⟨#[108, 101, 97, 100, 32]⟩ : ByteArray) ++ t112).size + 4 ≤ 9223372036854775807 then ((spec_l1Num.f k a0_1).bind fun t113 => (if (((⟨#[108, 101, 97, 100, 32]⟩ : ByteArray) ++ t112) ++ (⟨#[32, 97, 116, 32]⟩ : ByteArray)).size + t113.size ≤ 9223372036854775807 then (if ((((⟨#[108, 101, 97, 100, 32]⟩ : ByteArray) ++ t112) ++ (⟨#[32, 97, 116, 32]⟩ : ByteArray)) ++ t113).size + 7 ≤ 9223372036854775807 then ((spec_l1Num.f k a0_2).bind fun t114 => (if (((((⟨#[108, 101, 97, 100, 32]⟩ : ByteArray) ++ t112) ++ (⟨#[32, 97, 116, 32]⟩ : ByteArray)) ++ t113) ++ (⟨#[58, 32, 115, 105, 122, 101, 32]⟩ : ByteArray)).size + t114.size ≤ 9223372036854775807 then (if ((((((⟨#[108, 101, 97, 100, 32]⟩ : ByteArray) ++ t112) ++ (⟨#[32, 97, 116, 32]⟩ : ByteArray)) ++ t113) ++ (⟨#[58, 32, 115, 105, 122, 101, 32]⟩ : ByteArray)) ++ t114).size + 6 ≤ 9223372036854775807 then ((spec_l1Num.f k a0_3).bind fun t115 => (if (((((((⟨#[108, 101, 97, 100, 32]⟩ : ByteArray) ++ t112) ++ (⟨#[32, 97, 116, 32]⟩ : ByteArray)) ++ t113) ++ (⟨#[58, 32, 115, 105, 122, 101, 32]⟩ : ByteArray)) ++ t114) ++ (⟨#[32, 101, 97, 115, 101, 32]⟩ : ByteArray)).size + t115.size ≤ 9223372036854775807 then (if ((((((((⟨#[108, 101, 97, 100, 32]⟩ : ByteArray) ++ t112) ++ (⟨#[32, 97, 116, 32]⟩ : ByteArray)) ++ t113) ++ (⟨#[58, 32, 115, 105, 122, 101, 32]⟩ : ByteArray)) ++ t114) ++ (⟨#[32, 101, 97, 115, 101, 32]⟩ : ByteArray)) ++ t115).size + 1 ≤ 9223372036854775807 then ((some (([(⟨#[111, 112, 101, 110]⟩ : ByteArray), (⟨#[116, 97, 107, 101, 110]⟩ : ByteArray), (⟨#[100, 111, 110, 101]⟩ : ByteArray), (⟨#[101, 110, 100, 101, 100]⟩ : ByteArray)] : List ByteArray) : List ByteArray)).bind fun y116 => (if 0 ≤ a0_4 then (if a0_4 < (y116.length : Int) then (if (((((((((⟨#[108, 101, 97, 100, 32]⟩ : ByteArray) ++ t112) ++ (⟨#[32, 97, 116, 32]⟩ : ByteArray)) ++ t113) ++ (⟨#[58, 32, 115, 105, 122, 101, 32]⟩ : ByteArray)) ++ t114) ++ (⟨#[32, 101, 97, 115, 101, 32]⟩ : ByteArray)) ++ t115) ++ (⟨#[32]⟩ : ByteArray)).size + (rdOf ByteArray.empty y116 a0_4).size ≤ 9223372036854775807 then (some ((((((((((⟨#[108, 101, 97, 100, 32]⟩ : ByteArray) ++ t112) ++ (⟨#[32, 97, 116, 32]⟩ : ByteArray)) ++ t113) ++ (⟨#[58, 32, 115, 105, 122, 101, 32]⟩ : ByteArray)) ++ t114) ++ (⟨#[32, 101, 97, 115, 101, 32]⟩ : ByteArray)) ++ t115) ++ (⟨#[32]⟩ : ByteArray)) ++ (rdOf ByteArray.empty y116 a0_4))) else (none)) else (none)) else (none))) else (none)) else (none))) else (none)) else (none))) else (none)) else (none))) else (none)) else (none))
theorem spec_l18Text.mono : ∀ a0 a1 a2 a3 a4 k, LeO (spec_l18Text.f k a0 a1 a2 a3 a4) (spec_l18Text.f (k + 1) a0 a1 a2 a3 a4) := by
 intro a0 a1 a2 a3 a4 k
 unfold spec_l18Text.f
 repeat' with_reducible first | apply spec_l1Num.mono | exact LeO.refl _ | exact LeO.none _ | refine LeO.ite ?_ ?_ | refine LeO.bind ?_ (fun _ => ?_)
def spec_l18Text.T1 : Bool × List (List Nat × List Nat) := (true, [([], []), ([0], [0]), ([1], [1]), ([2], [2]), ([3], [3]), ([], []), ([5], [5]), ([6, 2], [6]), ([4, 7], [4, 7]), ([8], [8]), ([], []), ([10], [10]), ([11, 7], [11]), ([9, 12], [9, 12]), ([13], [13]), ([], []), ([15], [15]), ([16, 12], [16]), ([14, 17], [14, 17]), ([18], [18]), ([], []), ([], []), ([21], [21]), ([20, 22], [20, 22]), ([23], [23]), ([19, 24], [19, 24]), ([25, 17, 0, 1, 2, 3, 4, 5, 6, 7, 8, 9, 10, 11, 12, 13, 14, 15, 16, 17, 18, 19, 20, 21, 22, 23, 24, 25], [25])])
def spec_l18Text.B1 : List Nat := [0, 1, 3, 7, 15, 0, 32, 103, 255, 511, 0, 1024, 3303, 8191, 16383, 0, 32768, 105703, 262143, 524287, 0, 0, 2097152, 7340032, 15728640, 33554431, 67108863]
theorem spec_l18Text.tab1 : rtab .any (opsOf Tryd.f25 1) = spec_l18Text.T1 := by kernel_rfl
theorem spec_l18Text.bits1 : waitsOk spec_l18Text.T1.2 spec_l18Text.B1 = true := by kernel_rfl
set_option maxHeartbeats 8000000 in
set_option maxRecDepth 100000 in
theorem spec_l18Text.calls (k : Nat) (a0_0 a0_1 a0_2 a0_3 a0_4 : Int) (r : ByteArray) (w : World) (h : spec_l18Text.f k a0_0 a0_1 a0_2 a0_3 a0_4 = some r) :
  Calls Tryd.prog 25 #[.agg #[.int .i64 a0_0, .int .i64 a0_1, .int .i64 a0_2, .int .i64 a0_3, .int .i64 a0_4]] w fun e w' => e = .returned (.string r) ∧ Below w.heap.size w w' := by
 have hu26 := Tryd.underlying26
 have HB := Aside0.mk (Below.refl w.heap.size w)
 have H := h
 clear h
 unfold spec_l18Text.f at H
 replace H := bA H
 obtain ⟨t112, A2, H⟩ := H
 by_cases c3 : 5 + t112.size ≤ 9223372036854775807
 ·rw [if_pos c3] at H
  have c3b0 := eq_true c3
  have c3b1 : decide (5 + t112.size ≤ 9223372036854775807) = true := decide_eq_true c3
  try have c3b2 : (9223372036854775807 < 5 + t112.size) = False := eq_false (Nat.not_lt.2 c3)
  by_cases c4 : ((⟨#[108, 101, 97, 100, 32]⟩ : ByteArray) ++ t112).size + 4 ≤ 9223372036854775807
  ·rw [if_pos c4] at H
   have c4b0 := eq_true c4
   have c4b1 : decide (((⟨#[108, 101, 97, 100, 32]⟩ : ByteArray) ++ t112).size + 4 ≤ 9223372036854775807) = true := decide_eq_true c4
   try have c4b2 : (9223372036854775807 < ((⟨#[108, 101, 97, 100, 32]⟩ : ByteArray) ++ t112).size + 4) = False := eq_false (Nat.not_lt.2 c4)
   replace H := bA H
   obtain ⟨t113, A5, H⟩ := H
   by_cases c6 : (((⟨#[108, 101, 97, 100, 32]⟩ : ByteArray) ++ t112) ++ (⟨#[32, 97, 116, 32]⟩ : ByteArray)).size + t113.size ≤ 9223372036854775807
   ·rw [if_pos c6] at H
    have c6b0 := eq_true c6
    have c6b1 : decide ((((⟨#[108, 101, 97, 100, 32]⟩ : ByteArray) ++ t112) ++ (⟨#[32, 97, 116, 32]⟩ : ByteArray)).size + t113.size ≤ 9223372036854775807) = true := decide_eq_true c6
    try have c6b2 : (9223372036854775807 < (((⟨#[108, 101, 97, 100, 32]⟩ : ByteArray) ++ t112) ++ (⟨#[32, 97, 116, 32]⟩ : ByteArray)).size + t113.size) = False := eq_false (Nat.not_lt.2 c6)
    by_cases c7 : ((((⟨#[108, 101, 97, 100, 32]⟩ : ByteArray) ++ t112) ++ (⟨#[32, 97, 116, 32]⟩ : ByteArray)) ++ t113).size + 7 ≤ 9223372036854775807
    ·rw [if_pos c7] at H
     have c7b0 := eq_true c7
     have c7b1 : decide (((((⟨#[108, 101, 97, 100, 32]⟩ : ByteArray) ++ t112) ++ (⟨#[32, 97, 116, 32]⟩ : ByteArray)) ++ t113).size + 7 ≤ 9223372036854775807) = true := decide_eq_true c7
     try have c7b2 : (9223372036854775807 < ((((⟨#[108, 101, 97, 100, 32]⟩ : ByteArray) ++ t112) ++ (⟨#[32, 97, 116, 32]⟩ : ByteArray)) ++ t113).size + 7) = False := eq_false (Nat.not_lt.2 c7)
     replace H := bA H
     obtain ⟨t114, A8, H⟩ := H
     by_cases c9 : (((((⟨#[108, 101, 97, 100, 32]⟩ : ByteArray) ++ t112) ++ (⟨#[32, 97, 116, 32]⟩ : ByteArray)) ++ t113) ++ (⟨#[58, 32, 115, 105, 122, 101, 32]⟩ : ByteArray)).size + t114.size ≤ 9223372036854775807
     ·rw [if_pos c9] at H
      have c9b0 := eq_true c9
      have c9b1 : decide ((((((⟨#[108, 101, 97, 100, 32]⟩ : ByteArray) ++ t112) ++ (⟨#[32, 97, 116, 32]⟩ : ByteArray)) ++ t113) ++ (⟨#[58, 32, 115, 105, 122, 101, 32]⟩ : ByteArray)).size + t114.size ≤ 9223372036854775807) = true := decide_eq_true c9
      try have c9b2 : (9223372036854775807 < (((((⟨#[108, 101, 97, 100, 32]⟩ : ByteArray) ++ t112) ++ (⟨#[32, 97, 116, 32]⟩ : ByteArray)) ++ t113) ++ (⟨#[58, 32, 115, 105, 122, 101, 32]⟩ : ByteArray)).size + t114.size) = False := eq_false (Nat.not_lt.2 c9)
      by_cases c10 : ((((((⟨#[108, 101, 97, 100, 32]⟩ : ByteArray) ++ t112) ++ (⟨#[32, 97, 116, 32]⟩ : ByteArray)) ++ t113) ++ (⟨#[58, 32, 115, 105, 122, 101, 32]⟩ : ByteArray)) ++ t114).size + 6 ≤ 9223372036854775807
      ·rw [if_pos c10] at H
       have c10b0 := eq_true c10
       have c10b1 : decide (((((((⟨#[108, 101, 97, 100, 32]⟩ : ByteArray) ++ t112) ++ (⟨#[32, 97, 116, 32]⟩ : ByteArray)) ++ t113) ++ (⟨#[58, 32, 115, 105, 122, 101, 32]⟩ : ByteArray)) ++ t114).size + 6 ≤ 9223372036854775807) = true := decide_eq_true c10
       try have c10b2 : (9223372036854775807 < ((((((⟨#[108, 101, 97, 100, 32]⟩ : ByteArray) ++ t112) ++ (⟨#[32, 97, 116, 32]⟩ : ByteArray)) ++ t113) ++ (⟨#[58, 32, 115, 105, 122, 101, 32]⟩ : ByteArray)) ++ t114).size + 6) = False := eq_false (Nat.not_lt.2 c10)
       replace H := bA H
       obtain ⟨t115, A11, H⟩ := H
       by_cases c12 : (((((((⟨#[108, 101, 97, 100, 32]⟩ : ByteArray) ++ t112) ++ (⟨#[32, 97, 116, 32]⟩ : ByteArray)) ++ t113) ++ (⟨#[58, 32, 115, 105, 122, 101, 32]⟩ : ByteArray)) ++ t114) ++ (⟨#[32, 101, 97, 115, 101, 32]⟩ : ByteArray)).size + t115.size ≤ 9223372036854775807
       ·rw [if_pos c12] at H
        have c12b0 := eq_true c12
        have c12b1 : decide ((((((((⟨#[108, 101, 97, 100, 32]⟩ : ByteArray) ++ t112) ++ (⟨#[32, 97, 116, 32]⟩ : ByteArray)) ++ t113) ++ (⟨#[58, 32, 115, 105, 122, 101, 32]⟩ : ByteArray)) ++ t114) ++ (⟨#[32, 101, 97, 115, 101, 32]⟩ : ByteArray)).size + t115.size ≤ 9223372036854775807) = true := decide_eq_true c12
        try have c12b2 : (9223372036854775807 < (((((((⟨#[108, 101, 97, 100, 32]⟩ : ByteArray) ++ t112) ++ (⟨#[32, 97, 116, 32]⟩ : ByteArray)) ++ t113) ++ (⟨#[58, 32, 115, 105, 122, 101, 32]⟩ : ByteArray)) ++ t114) ++ (⟨#[32, 101, 97, 115, 101, 32]⟩ : ByteArray)).size + t115.size) = False := eq_false (Nat.not_lt.2 c12)
        by_cases c13 : ((((((((⟨#[108, 101, 97, 100, 32]⟩ : ByteArray) ++ t112) ++ (⟨#[32, 97, 116, 32]⟩ : ByteArray)) ++ t113) ++ (⟨#[58, 32, 115, 105, 122, 101, 32]⟩ : ByteArray)) ++ t114) ++ (⟨#[32, 101, 97, 115, 101, 32]⟩ : ByteArray)) ++ t115).size + 1 ≤ 9223372036854775807
        ·rw [if_pos c13] at H
         have c13b0 := eq_true c13
         have c13b1 : decide (((((((((⟨#[108, 101, 97, 100, 32]⟩ : ByteArray) ++ t112) ++ (⟨#[32, 97, 116, 32]⟩ : ByteArray)) ++ t113) ++ (⟨#[58, 32, 115, 105, 122, 101, 32]⟩ : ByteArray)) ++ t114) ++ (⟨#[32, 101, 97, 115, 101, 32]⟩ : ByteArray)) ++ t115).size + 1 ≤ 9223372036854775807) = true := decide_eq_true c13
         try have c13b2 : (9223372036854775807 < ((((((((⟨#[108, 101, 97, 100, 32]⟩ : ByteArray) ++ t112) ++ (⟨#[32, 97, 116, 32]⟩ : ByteArray)) ++ t113) ++ (⟨#[58, 32, 115, 105, 122, 101, 32]⟩ : ByteArray)) ++ t114) ++ (⟨#[32, 101, 97, 115, 101, 32]⟩ : ByteArray)) ++ t115).size + 1) = False := eq_false (Nat.not_lt.2 c13)
         obtain ⟨y116, hy116⟩ : ∃ y_ : List ByteArray, y_ = (([(⟨#[111, 112, 101, 110]⟩ : ByteArray), (⟨#[116, 97, 107, 101, 110]⟩ : ByteArray), (⟨#[100, 111, 110, 101]⟩ : ByteArray), (⟨#[101, 110, 100, 101, 100]⟩ : ByteArray)] : List ByteArray)) := ⟨_, rfl⟩
         replace H : (if 0 ≤ a0_4 then (if a0_4 < (y116.length : Int) then (if (((((((((⟨#[108, 101, 97, 100, 32]⟩ : ByteArray) ++ t112) ++ (⟨#[32, 97, 116, 32]⟩ : ByteArray)) ++ t113) ++ (⟨#[58, 32, 115, 105, 122, 101, 32]⟩ : ByteArray)) ++ t114) ++ (⟨#[32, 101, 97, 115, 101, 32]⟩ : ByteArray)) ++ t115) ++ (⟨#[32]⟩ : ByteArray)).size + (rdOf ByteArray.empty y116 a0_4).size ≤ 9223372036854775807 then (some ((((((((((⟨#[108, 101, 97, 100, 32]⟩ : ByteArray) ++ t112) ++ (⟨#[32, 97, 116, 32]⟩ : ByteArray)) ++ t113) ++ (⟨#[58, 32, 115, 105, 122, 101, 32]⟩ : ByteArray)) ++ t114) ++ (⟨#[32, 101, 97, 115, 101, 32]⟩ : ByteArray)) ++ t115) ++ (⟨#[32]⟩ : ByteArray)) ++ (rdOf ByteArray.empty y116 a0_4))) else (none)) else (none)) else (none)) = some r := by first | (rw [hy116]; with_reducible exact H) | (have H2_ := (Option.bind_some _ _).symm.trans H; rw [hy116]; with_reducible exact H2_) | (have H2_ := (Option.bind_some _ _).symm.trans H; with_reducible exact H2_) | with_reducible exact H | (rw [hy116]; exact H) | exact H
         have Ny116 := Aside0.mk hy116
         clear hy116
         by_cases c14 : 0 ≤ a0_4
         ·rw [if_pos c14] at H
          have c14b0 : decide (0 ≤ a0_4) = true := decide_eq_true c14
          clear c14
          by_cases c15 : a0_4 < (y116.length : Int)
          ·rw [if_pos c15] at H
           have c15b0 : decide (a0_4 < (y116.length : Int)) = true := decide_eq_true c15
           clear c15
           by_cases c16 : (((((((((⟨#[108, 101, 97, 100, 32]⟩ : ByteArray) ++ t112) ++ (⟨#[32, 97, 116, 32]⟩ : ByteArray)) ++ t113) ++ (⟨#[58, 32, 115, 105, 122, 101, 32]⟩ : ByteArray)) ++ t114) ++ (⟨#[32, 101, 97, 115, 101, 32]⟩ : ByteArray)) ++ t115) ++ (⟨#[32]⟩ : ByteArray)).size + (rdOf ByteArray.empty y116 a0_4).size ≤ 9223372036854775807
           ·rw [if_pos c16] at H
            have c16b0 := eq_true c16
            have c16b1 : decide ((((((((((⟨#[108, 101, 97, 100, 32]⟩ : ByteArray) ++ t112) ++ (⟨#[32, 97, 116, 32]⟩ : ByteArray)) ++ t113) ++ (⟨#[58, 32, 115, 105, 122, 101, 32]⟩ : ByteArray)) ++ t114) ++ (⟨#[32, 101, 97, 115, 101, 32]⟩ : ByteArray)) ++ t115) ++ (⟨#[32]⟩ : ByteArray)).size + (rdOf ByteArray.empty y116 a0_4).size ≤ 9223372036854775807) = true := decide_eq_true c16
            try have c16b2 : (9223372036854775807 < (((((((((⟨#[108, 101, 97, 100, 32]⟩ : ByteArray) ++ t112) ++ (⟨#[32, 97, 116, 32]⟩ : ByteArray)) ++ t113) ++ (⟨#[58, 32, 115, 105, 122, 101, 32]⟩ : ByteArray)) ++ t114) ++ (⟨#[32, 101, 97, 115, 101, 32]⟩ : ByteArray)) ++ t115) ++ (⟨#[32]⟩ : ByteArray)).size + (rdOf ByteArray.empty y116 a0_4).size) = False := eq_false (Nat.not_lt.2 c16)
            obtain rfl := Option.some.inj H
            go_enter Tryd.func25, Tryd.ntmps25
            try go_wp2_with (first | ((with_reducible refine gD 1 ?_); refine bxE 1 26 #[.int .i64 a0_0, .int .i64 a0_1, .int .i64 a0_2, .int .i64 a0_3, .int .i64 a0_4] fun gb111 w17 hg hbox hb => ?_; have BK111 := Aside0.mk hbox; have GE111 := gB HB hg; replace HB := uB HB hb; clear hb hbox hg))
            have pi119 : (0 ≤ (a0_4 : Int)) = True := eq_true (of_decide_eq_true asmB)
            have qi119 : (a0_4 < (y116.length : Int)) = True := eq_true (of_decide_eq_true asmB)
            replace BK111 := dK BK111
            replace HB := Aside0.mk (below_drew1 HB.out)
            refine start_ (n := 27) (S := fun w' => True) (ds := []) #[false, false, false, false, false, false, false, false, false, false, false, false, false, false, false, false, false, false, false, false, false, false, false, false, false, false, false] (by kernel_rfl) rfl rfl trivial (fun hHeld => ?_); refine with_tabW spec_l18Text.tab1 spec_l18Text.bits1 (fun HT_ HW_ => ?_)
            generalize w17.drew = w18 at BK111 HB hHeld ⊢
            refine pA 0 3 HT_ ?_
            refine pA 5 8 HT_ ?_
            refine pA 10 13 HT_ ?_
            refine pA 15 18 HT_ ?_
            refine pA 21 24 HT_ ?_
            refine inv_at [1, 2, 3, 4, 6, 7, 8, 9, 11, 12, 13, 14, 16, 17, 18, 19, 20, 22, 23, 24, 25, 26] (fun a0_ b a w' => ∃ (v117 : Value) (adz_v117 : Addr) (m23_ : Value), a = putSel a0_ b [(1, 4, .int .i64 a0_0), (2, 5, .string t112), (3, 6, .string ((⟨#[108, 101, 97, 100, 32]⟩ : ByteArray) ++ t112)), (4, 7, .string (((⟨#[108, 101, 97, 100, 32]⟩ : ByteArray) ++ t112) ++ (⟨#[32, 97, 116, 32]⟩ : ByteArray))), (6, 9, .int .i64 a0_1), (7, 10, .string t113), (8, 11, .string ((((⟨#[108, 101, 97, 100, 32]⟩ : ByteArray) ++ t112) ++ (⟨#[32, 97, 116, 32]⟩ : ByteArray)) ++ t113)), (9, 12, .string (((((⟨#[108, 101, 97, 100, 32]⟩ : ByteArray) ++ t112) ++ (⟨#[32, 97, 116, 32]⟩ : ByteArray)) ++ t113) ++ (⟨#[58, 32, 115, 105, 122, 101, 32]⟩ : ByteArray))), (11, 14, .int .i64 a0_2), (12, 15, .string t114), (13, 16, .string ((((((⟨#[108, 101, 97, 100, 32]⟩ : ByteArray) ++ t112) ++ (⟨#[32, 97, 116, 32]⟩ : ByteArray)) ++ t113) ++ (⟨#[58, 32, 115, 105, 122, 101, 32]⟩ : ByteArray)) ++ t114)), (14, 17, .string (((((((⟨#[108, 101, 97, 100, 32]⟩ : ByteArray) ++ t112) ++ (⟨#[32, 97, 116, 32]⟩ : ByteArray)) ++ t113) ++ (⟨#[58, 32, 115, 105, 122, 101, 32]⟩ : ByteArray)) ++ t114) ++ (⟨#[32, 101, 97, 115, 101, 32]⟩ : ByteArray))), (16, 19, .int .i64 a0_3), (17, 20, .string t115), (18, 21, .string ((((((((⟨#[108, 101, 97, 100, 32]⟩ : ByteArray) ++ t112) ++ (⟨#[32, 97, 116, 32]⟩ : ByteArray)) ++ t113) ++ (⟨#[58, 32, 115, 105, 122, 101, 32]⟩ : ByteArray)) ++ t114) ++ (⟨#[32, 101, 97, 115, 101, 32]⟩ : ByteArray)) ++ t115)), (19, 22, .string (((((((((⟨#[108, 101, 97, 100, 32]⟩ : ByteArray) ++ t112) ++ (⟨#[32, 97, 116, 32]⟩ : ByteArray)) ++ t113) ++ (⟨#[58, 32, 115, 105, 122, 101, 32]⟩ : ByteArray)) ++ t114) ++ (⟨#[32, 101, 97, 115, 101, 32]⟩ : ByteArray)) ++ t115) ++ (⟨#[32]⟩ : ByteArray))), (20, 23, v117), (22, 25, .int .i64 a0_4), (23, 26, m23_), (24, 27, .string (rdOf ByteArray.empty y116 a0_4)), (25, 28, .string ((((((((((⟨#[108, 101, 97, 100, 32]⟩ : ByteArray) ++ t112) ++ (⟨#[32, 97, 116, 32]⟩ : ByteArray)) ++ t113) ++ (⟨#[58, 32, 115, 105, 122, 101, 32]⟩ : ByteArray)) ++ t114) ++ (⟨#[32, 101, 97, 115, 101, 32]⟩ : ByteArray)) ++ t115) ++ (⟨#[32]⟩ : ByteArray)) ++ (rdOf ByteArray.empty y116 a0_4))), (26, 2, .string ((((((((((⟨#[108, 101, 97, 100, 32]⟩ : ByteArray) ++ t112) ++ (⟨#[32, 97, 116, 32]⟩ : ByteArray)) ++ t113) ++ (⟨#[58, 32, 115, 105, 122, 101, 32]⟩ : ByteArray)) ++ t114) ++ (⟨#[32, 101, 97, 115, 101, 32]⟩ : ByteArray)) ++ t115) ++ (⟨#[32]⟩ : ByteArray)) ++ (rdOf ByteArray.empty y116 a0_4)))] ∧ (w'.heap[gb111]? = some (.cells #[.int .i64 a0_0, .int .i64 a0_1, .int .i64 a0_2, .int .i64 a0_3, .int .i64 a0_4] 26 (0, 0))) ∧ (Below w.heap.size w w') ∧ (b 20 = true → Kd.R Kd.string 9 w' w.heap.size (fun _ => True) v117 y116) ∧ (b 20 = true → ∃ c_, (v117 : Value) = .slice (some adz_v117) y116.length c_) ∧ (b 23 = true → (m23_ : Value) = .pointer (some (adz_v117.add (a0_4).toNat)))) HT_.out HW_.out (by kernel_rfl) (by kernel_rfl) ?_ ?_ ?_
            ·exact ⟨.bool false, ⟨0, 0, none⟩, .bool false, by simp only [putSel, Bool.false_eq_true, if_false], BK111.out, HB.out, fun h_ => absurd h_ (by decide), fun h_ => absurd h_ (by decide), fun h_ => absurd h_ (by decide)⟩
            ·skip
             clear BK111 HB
             refine steps_cons ?_ ?_
             ·rintro b a w' ⟨v117, adz_v117, m23_, ha, Q_BK111, Q_HB, Q_HO118, Q_HA_HO118, Q_X23_⟩ hb_ hon hoff
              refine ⟨_, rfl, fun K hK => ?_⟩
              have e3 : a.tmps[3]? = some (.pointer (some ⟨gb111, 0, none⟩)) := by rw [ha]; exact (putSel_off rfl).trans rfl
              replace ha := Aside0.mk ha
              have BK111 := Aside0.mk Q_BK111
              have HB := Aside0.mk Q_HB
              have ⟨hc0_, hc1_, hc2_, hc3_, hc4_, _⟩ := cz5 BK111
              refine value_ (w1 := w') (v := .int .i64 a0_0) (by rfl) rfl ?_ ?_
              ·go_simp
               (try simp only [i64_w])
               try rfl
               try (have e_ := c16; simp only [ByteArray.size_append, show (⟨#[108, 101, 97, 100, 32]⟩ : ByteArray).size = 5 from rfl, show (⟨#[32, 97, 116, 32]⟩ : ByteArray).size = 4 from rfl, show (⟨#[58, 32, 115, 105, 122, 101, 32]⟩ : ByteArray).size = 7 from rfl, show (⟨#[32, 101, 97, 115, 101, 32]⟩ : ByteArray).size = 6 from rfl, show (⟨#[111, 112, 101, 110]⟩ : ByteArray).size = 4 from rfl, show (⟨#[116, 97, 107, 101, 110]⟩ : ByteArray).size = 5 from rfl, show (⟨#[100, 111, 110, 101]⟩ : ByteArray).size = 4 from rfl, show (⟨#[101, 110, 100, 101, 100]⟩ : ByteArray).size = 5 from rfl, show (⟨#[32]⟩ : ByteArray).size = 1 from rfl] at e_; omega)
              refine hK.out _ _ ⟨v117, adz_v117, m23_, (by rw [ha.out]; exact putSel_upk 0 hb_ rfl rfl rfl), Q_BK111, Q_HB, Q_HO118, Q_HA_HO118, Q_X23_⟩
             refine steps_cons ?_ ?_
             ·rintro b a w' ⟨v117, adz_v117, m23_, ha, Q_BK111, Q_HB, Q_HO118, Q_HA_HO118, Q_X23_⟩ hb_ hon hoff
              refine ⟨_, rfl, fun K hK => ?_⟩
              have e4 : a.tmps[4]? = some (.int .i64 a0_0) := by rw [ha]; exact putSel_on (e := (1, 4, .int .i64 a0_0)) 0 rfl rfl (hon 1 (by kernel_rfl)) rfl
              replace ha := Aside0.mk ha
              have BK111 := Aside0.mk Q_BK111
              have HB := Aside0.mk Q_HB
              refine goes_ Tryd.func48 (by kernel_rfl) rfl #[.int .i64 a0_0] (by rfl) rfl rfl (by first | (simp only [List.map_toArray, List.map_cons, List.map_nil, Act.eval, Array.getD_eq_getD_getElem?, Option.getD_some, e4]; done) | (simp only [List.map_toArray, List.map_cons, List.map_nil, Act.eval, Array.getD_eq_getD_getElem?, Option.getD_some, e4]; rfl)) ?_
              with_reducible refine (spec_l1Num.calls k a0_0 t112 _ A2.out).mono ?_
              rintro e w19 ⟨rfl, hb⟩
              refine ⟨_, rfl, ?_⟩
              have n0_ := Aside0.mk (blk_below (g := gb111) (o := .cells #[.int .i64 a0_0, .int .i64 a0_1, .int .i64 a0_2, .int .i64 a0_3, .int .i64 a0_4] 26 (0, 0)) (upK BK111.out) hb)
              have n1_ := Aside0.mk (below_step (bW HB) hb)
              have z_HO118 := fun (h0_ : b 20 = true) => (show Kd.R Kd.string 9 w19 w.heap.size (fun _ => True) v117 y116 from by first | exact (Kd.R_below (by (with_reducible repeat (first | apply Kd.R_alloc | apply Kd.R_drewN | apply Kd.R_drew)); exact (Q_HO118 h0_)) hb) | exact Kd.R_mono (Kd.R_below (by (with_reducible repeat (first | apply Kd.R_alloc | apply Kd.R_drewN | apply Kd.R_drew)); exact (Q_HO118 h0_)) hb) (fun _ h_ => by first | trivial | exact h_ | exact h_.1))
              clear BK111
              clear HB
              have BK111 := n0_
              have HB := n1_
              clear n0_ n1_
              (try clear hb)
              refine hK.out _ _ ⟨v117, adz_v117, m23_, (by rw [ha.out]; exact putSel_upk 1 hb_ rfl rfl rfl), (upK BK111.out), (bW HB), z_HO118, Q_HA_HO118, Q_X23_⟩
             refine steps_cons ?_ ?_
             ·rintro b a w' ⟨v117, adz_v117, m23_, ha, Q_BK111, Q_HB, Q_HO118, Q_HA_HO118, Q_X23_⟩ hb_ hon hoff
              refine ⟨_, rfl, fun K hK => ?_⟩
              have e5 : a.tmps[5]? = some (.string t112) := by rw [ha]; exact putSel_on (e := (2, 5, .string t112)) 1 rfl rfl (hon 2 (by kernel_rfl)) rfl
              replace ha := Aside0.mk ha
              have BK111 := Aside0.mk Q_BK111
              have HB := Aside0.mk Q_HB
              refine value_ (w1 := w') (v := .string ((⟨#[108, 101, 97, 100, 32]⟩ : ByteArray) ++ t112)) (by rfl) rfl ?_ ?_
              ·go_simp
               (try simp only [i64_w])
               try rfl
               try (have e_ := c16; simp only [ByteArray.size_append, show (⟨#[108, 101, 97, 100, 32]⟩ : ByteArray).size = 5 from rfl, show (⟨#[32, 97, 116, 32]⟩ : ByteArray).size = 4 from rfl, show (⟨#[58, 32, 115, 105, 122, 101, 32]⟩ : ByteArray).size = 7 from rfl, show (⟨#[32, 101, 97, 115, 101, 32]⟩ : ByteArray).size = 6 from rfl, show (⟨#[111, 112, 101, 110]⟩ : ByteArray).size = 4 from rfl, show (⟨#[116, 97, 107, 101, 110]⟩ : ByteArray).size = 5 from rfl, show (⟨#[100, 111, 110, 101]⟩ : ByteArray).size = 4 from rfl, show (⟨#[101, 110, 100, 101, 100]⟩ : ByteArray).size = 5 from rfl, show (⟨#[32]⟩ : ByteArray).size = 1 from rfl] at e_; omega)
              refine hK.out _ _ ⟨v117, adz_v117, m23_, (by rw [ha.out]; exact putSel_upk 2 hb_ rfl rfl rfl), Q_BK111, Q_HB, Q_HO118, Q_HA_HO118, Q_X23_⟩
             refine steps_cons ?_ ?_
             ·rintro b a w' ⟨v117, adz_v117, m23_, ha, Q_BK111, Q_HB, Q_HO118, Q_HA_HO118, Q_X23_⟩ hb_ hon hoff
              refine ⟨_, rfl, fun K hK => ?_⟩
              have e6 : a.tmps[6]? = some (.string ((⟨#[108, 101, 97, 100, 32]⟩ : ByteArray) ++ t112)) := by rw [ha]; exact putSel_on (e := (3, 6, .string ((⟨#[108, 101, 97, 100, 32]⟩ : ByteArray) ++ t112))) 2 rfl rfl (hon 3 (by kernel_rfl)) rfl
              replace ha := Aside0.mk ha
              have BK111 := Aside0.mk Q_BK111
              have HB := Aside0.mk Q_HB
              refine value_ (w1 := w') (v := .string (((⟨#[108, 101, 97, 100, 32]⟩ : ByteArray) ++ t112) ++ (⟨#[32, 97, 116, 32]⟩ : ByteArray))) (by rfl) rfl ?_ ?_
              ·go_simp
               (try simp only [i64_w])
               try rfl
               try (have e_ := c16; simp only [ByteArray.size_append, show (⟨#[108, 101, 97, 100, 32]⟩ : ByteArray).size = 5 from rfl, show (⟨#[32, 97, 116, 32]⟩ : ByteArray).size = 4 from rfl, show (⟨#[58, 32, 115, 105, 122, 101, 32]⟩ : ByteArray).size = 7 from rfl, show (⟨#[32, 101, 97, 115, 101, 32]⟩ : ByteArray).size = 6 from rfl, show (⟨#[111, 112, 101, 110]⟩ : ByteArray).size = 4 from rfl, show (⟨#[116, 97, 107, 101, 110]⟩ : ByteArray).size = 5 from rfl, show (⟨#[100, 111, 110, 101]⟩ : ByteArray).size = 4 from rfl, show (⟨#[101, 110, 100, 101, 100]⟩ : ByteArray).size = 5 from rfl, show (⟨#[32]⟩ : ByteArray).size = 1 from rfl] at e_; omega)
              refine hK.out _ _ ⟨v117, adz_v117, m23_, (by rw [ha.out]; exact putSel_upk 3 hb_ rfl rfl rfl), Q_BK111, Q_HB, Q_HO118, Q_HA_HO118, Q_X23_⟩
             refine steps_cons ?_ ?_
             ·rintro b a w' ⟨v117, adz_v117, m23_, ha, Q_BK111, Q_HB, Q_HO118, Q_HA_HO118, Q_X23_⟩ hb_ hon hoff
              refine ⟨_, rfl, fun K hK => ?_⟩
              have e8 : a.tmps[8]? = some (.pointer (some ⟨gb111, 1, none⟩)) := by rw [ha]; exact (putSel_off rfl).trans rfl
              replace ha := Aside0.mk ha
              have BK111 := Aside0.mk Q_BK111
              have HB := Aside0.mk Q_HB
              have ⟨hc0_, hc1_, hc2_, hc3_, hc4_, _⟩ := cz5 BK111
              refine value_ (w1 := w') (v := .int .i64 a0_1) (by rfl) rfl ?_ ?_
              ·go_simp
               (try simp only [i64_w])
               try rfl
               try (have e_ := c16; simp only [ByteArray.size_append, show (⟨#[108, 101, 97, 100, 32]⟩ : ByteArray).size = 5 from rfl, show (⟨#[32, 97, 116, 32]⟩ : ByteArray).size = 4 from rfl, show (⟨#[58, 32, 115, 105, 122, 101, 32]⟩ : ByteArray).size = 7 from rfl, show (⟨#[32, 101, 97, 115, 101, 32]⟩ : ByteArray).size = 6 from rfl, show (⟨#[111, 112, 101, 110]⟩ : ByteArray).size = 4 from rfl, show (⟨#[116, 97, 107, 101, 110]⟩ : ByteArray).size = 5 from rfl, show (⟨#[100, 111, 110, 101]⟩ : ByteArray).size = 4 from rfl, show (⟨#[101, 110, 100, 101, 100]⟩ : ByteArray).size = 5 from rfl, show (⟨#[32]⟩ : ByteArray).size = 1 from rfl] at e_; omega)
              refine hK.out _ _ ⟨v117, adz_v117, m23_, (by rw [ha.out]; exact putSel_upk 4 hb_ rfl rfl rfl), Q_BK111, Q_HB, Q_HO118, Q_HA_HO118, Q_X23_⟩
             refine steps_cons ?_ ?_
             ·rintro b a w' ⟨v117, adz_v117, m23_, ha, Q_BK111, Q_HB, Q_HO118, Q_HA_HO118, Q_X23_⟩ hb_ hon hoff
              refine ⟨_, rfl, fun K hK => ?_⟩
              have e9 : a.tmps[9]? = some (.int .i64 a0_1) := by rw [ha]; exact putSel_on (e := (6, 9, .int .i64 a0_1)) 4 rfl rfl (hon 6 (by kernel_rfl)) rfl
              replace ha := Aside0.mk ha
              have BK111 := Aside0.mk Q_BK111
              have HB := Aside0.mk Q_HB
              refine goes_ Tryd.func48 (by kernel_rfl) rfl #[.int .i64 a0_1] (by rfl) rfl rfl (by first | (simp only [List.map_toArray, List.map_cons, List.map_nil, Act.eval, Array.getD_eq_getD_getElem?, Option.getD_some, e9]; done) | (simp only [List.map_toArray, List.map_cons, List.map_nil, Act.eval, Array.getD_eq_getD_getElem?, Option.getD_some, e9]; rfl)) ?_
              with_reducible refine (spec_l1Num.calls k a0_1 t113 _ A5.out).mono ?_
              rintro e w21 ⟨rfl, hb⟩
              refine ⟨_, rfl, ?_⟩
              have n0_ := Aside0.mk (blk_below (g := gb111) (o := .cells #[.int .i64 a0_0, .int .i64 a0_1, .int .i64 a0_2, .int .i64 a0_3, .int .i64 a0_4] 26 (0, 0)) (upK BK111.out) hb)
              have n1_ := Aside0.mk (below_step (bW HB) hb)
              have z_HO118 := fun (h0_ : b 20 = true) => (show Kd.R Kd.string 9 w21 w.heap.size (fun _ => True) v117 y116 from by first | exact (Kd.R_below (by (with_reducible repeat (first | apply Kd.R_alloc | apply Kd.R_drewN | apply Kd.R_drew)); exact (Q_HO118 h0_)) hb) | exact Kd.R_mono (Kd.R_below (by (with_reducible repeat (first | apply Kd.R_alloc | apply Kd.R_drewN | apply Kd.R_drew)); exact (Q_HO118 h0_)) hb) (fun _ h_ => by first | trivial | exact h_ | exact h_.1))
              clear BK111
              clear HB
              have BK111 := n0_
              have HB := n1_
              clear n0_ n1_
              (try clear hb)
              refine hK.out _ _ ⟨v117, adz_v117, m23_, (by rw [ha.out]; exact putSel_upk 5 hb_ rfl rfl rfl), (upK BK111.out), (bW HB), z_HO118, Q_HA_HO118, Q_X23_⟩
             refine steps_cons ?_ ?_
             ·rintro b a w' ⟨v117, adz_v117, m23_, ha, Q_BK111, Q_HB, Q_HO118, Q_HA_HO118, Q_X23_⟩ hb_ hon hoff
              refine ⟨_, rfl, fun K hK => ?_⟩
              have e7 : a.tmps[7]? = some (.string (((⟨#[108, 101, 97, 100, 32]⟩ : ByteArray) ++ t112) ++ (⟨#[32, 97, 116, 32]⟩ : ByteArray))) := by rw [ha]; exact putSel_on (e := (4, 7, .string (((⟨#[108, 101, 97, 100, 32]⟩ : ByteArray) ++ t112) ++ (⟨#[32, 97, 116, 32]⟩ : ByteArray)))) 3 rfl rfl (hon 4 (by kernel_rfl)) rfl
              have e10 : a.tmps[10]? = some (.string t113) := by rw [ha]; exact putSel_on (e := (7, 10, .string t113)) 5 rfl rfl (hon 7 (by kernel_rfl)) rfl
              replace ha := Aside0.mk ha
              have BK111 := Aside0.mk Q_BK111
              have HB := Aside0.mk Q_HB
              refine value_ (w1 := w') (v := .string ((((⟨#[108, 101, 97, 100, 32]⟩ : ByteArray) ++ t112) ++ (⟨#[32, 97, 116, 32]⟩ : ByteArray)) ++ t113)) (by rfl) rfl ?_ ?_
              ·go_simp
               (try simp only [i64_w])
               try rfl
               try (have e_ := c16; simp only [ByteArray.size_append, show (⟨#[108, 101, 97, 100, 32]⟩ : ByteArray).size = 5 from rfl, show (⟨#[32, 97, 116, 32]⟩ : ByteArray).size = 4 from rfl, show (⟨#[58, 32, 115, 105, 122, 101, 32]⟩ : ByteArray).size = 7 from rfl, show (⟨#[32, 101, 97, 115, 101, 32]⟩ : ByteArray).size = 6 from rfl, show (⟨#[111, 112, 101, 110]⟩ : ByteArray).size = 4 from rfl, show (⟨#[116, 97, 107, 101, 110]⟩ : ByteArray).size = 5 from rfl, show (⟨#[100, 111, 110, 101]⟩ : ByteArray).size = 4 from rfl, show (⟨#[101, 110, 100, 101, 100]⟩ : ByteArray).size = 5 from rfl, show (⟨#[32]⟩ : ByteArray).size = 1 from rfl] at e_; omega)
              refine hK.out _ _ ⟨v117, adz_v117, m23_, (by rw [ha.out]; exact putSel_upk 6 hb_ rfl rfl rfl), Q_BK111, Q_HB, Q_HO118, Q_HA_HO118, Q_X23_⟩
             refine steps_cons ?_ ?_
             ·rintro b a w' ⟨v117, adz_v117, m23_, ha, Q_BK111, Q_HB, Q_HO118, Q_HA_HO118, Q_X23_⟩ hb_ hon hoff
              refine ⟨_, rfl, fun K hK => ?_⟩
              have e11 : a.tmps[11]? = some (.string ((((⟨#[108, 101, 97, 100, 32]⟩ : ByteArray) ++ t112) ++ (⟨#[32, 97, 116, 32]⟩ : ByteArray)) ++ t113)) := by rw [ha]; exact putSel_on (e := (8, 11, .string ((((⟨#[108, 101, 97, 100, 32]⟩ : ByteArray) ++ t112) ++ (⟨#[32, 97, 116, 32]⟩ : ByteArray)) ++ t113))) 6 rfl rfl (hon 8 (by kernel_rfl)) rfl
              replace ha := Aside0.mk ha
              have BK111 := Aside0.mk Q_BK111
              have HB := Aside0.mk Q_HB
              refine value_ (w1 := w') (v := .string (((((⟨#[108, 101, 97, 100, 32]⟩ : ByteArray) ++ t112) ++ (⟨#[32, 97, 116, 32]⟩ : ByteArray)) ++ t113) ++ (⟨#[58, 32, 115, 105, 122, 101, 32]⟩ : ByteArray))) (by rfl) rfl ?_ ?_
              ·go_simp
               (try simp only [i64_w])
               try rfl
               try (have e_ := c16; simp only [ByteArray.size_append, show (⟨#[108, 101, 97, 100, 32]⟩ : ByteArray).size = 5 from rfl, show (⟨#[32, 97, 116, 32]⟩ : ByteArray).size = 4 from rfl, show (⟨#[58, 32, 115, 105, 122, 101, 32]⟩ : ByteArray).size = 7 from rfl, show (⟨#[32, 101, 97, 115, 101, 32]⟩ : ByteArray).size = 6 from rfl, show (⟨#[111, 112, 101, 110]⟩ : ByteArray).size = 4 from rfl, show (⟨#[116, 97, 107, 101, 110]⟩ : ByteArray).size = 5 from rfl, show (⟨#[100, 111, 110, 101]⟩ : ByteArray).size = 4 from rfl, show (⟨#[101, 110, 100, 101, 100]⟩ : ByteArray).size = 5 from rfl, show (⟨#[32]⟩ : ByteArray).size = 1 from rfl] at e_; omega)
              refine hK.out _ _ ⟨v117, adz_v117, m23_, (by rw [ha.out]; exact putSel_upk 7 hb_ rfl rfl rfl), Q_BK111, Q_HB, Q_HO118, Q_HA_HO118, Q_X23_⟩
             refine steps_cons ?_ ?_
             ·rintro b a w' ⟨v117, adz_v117, m23_, ha, Q_BK111, Q_HB, Q_HO118, Q_HA_HO118, Q_X23_⟩ hb_ hon hoff
              refine ⟨_, rfl, fun K hK => ?_⟩
              have e13 : a.tmps[13]? = some (.pointer (some ⟨gb111, 2, none⟩)) := by rw [ha]; exact (putSel_off rfl).trans rfl
              replace ha := Aside0.mk ha
              have BK111 := Aside0.mk Q_BK111
              have HB := Aside0.mk Q_HB
              have ⟨hc0_, hc1_, hc2_, hc3_, hc4_, _⟩ := cz5 BK111
              refine value_ (w1 := w') (v := .int .i64 a0_2) (by rfl) rfl ?_ ?_
              ·go_simp
               (try simp only [i64_w])
               try rfl
               try (have e_ := c16; simp only [ByteArray.size_append, show (⟨#[108, 101, 97, 100, 32]⟩ : ByteArray).size = 5 from rfl, show (⟨#[32, 97, 116, 32]⟩ : ByteArray).size = 4 from rfl, show (⟨#[58, 32, 115, 105, 122, 101, 32]⟩ : ByteArray).size = 7 from rfl, show (⟨#[32, 101, 97, 115, 101, 32]⟩ : ByteArray).size = 6 from rfl, show (⟨#[111, 112, 101, 110]⟩ : ByteArray).size = 4 from rfl, show (⟨#[116, 97, 107, 101, 110]⟩ : ByteArray).size = 5 from rfl, show (⟨#[100, 111, 110, 101]⟩ : ByteArray).size = 4 from rfl, show (⟨#[101, 110, 100, 101, 100]⟩ : ByteArray).size = 5 from rfl, show (⟨#[32]⟩ : ByteArray).size = 1 from rfl] at e_; omega)
              refine hK.out _ _ ⟨v117, adz_v117, m23_, (by rw [ha.out]; exact putSel_upk 8 hb_ rfl rfl rfl), Q_BK111, Q_HB, Q_HO118, Q_HA_HO118, Q_X23_⟩
             refine steps_cons ?_ ?_
             ·rintro b a w' ⟨v117, adz_v117, m23_, ha, Q_BK111, Q_HB, Q_HO118, Q_HA_HO118, Q_X23_⟩ hb_ hon hoff
              refine ⟨_, rfl, fun K hK => ?_⟩
              have e14 : a.tmps[14]? = some (.int .i64 a0_2) := by rw [ha]; exact putSel_on (e := (11, 14, .int .i64 a0_2)) 8 rfl rfl (hon 11 (by kernel_rfl)) rfl
              replace ha := Aside0.mk ha
              have BK111 := Aside0.mk Q_BK111
              have HB := Aside0.mk Q_HB
              refine goes_ Tryd.func48 (by kernel_rfl) rfl #[.int .i64 a0_2] (by rfl) rfl rfl (by first | (simp only [List.map_toArray, List.map_cons, List.map_nil, Act.eval, Array.getD_eq_getD_getElem?, Option.getD_some, e14]; done) | (simp only [List.map_toArray, List.map_cons, List.map_nil, Act.eval, Array.getD_eq_getD_getElem?, Option.getD_some, e14]; rfl)) ?_
              with_reducible refine (spec_l1Num.calls k a0_2 t114 _ A8.out).mono ?_
              rintro e w22 ⟨rfl, hb⟩
              refine ⟨_, rfl, ?_⟩
              have n0_ := Aside0.mk (blk_below (g := gb111) (o := .cells #[.int .i64 a0_0, .int .i64 a0_1, .int .i64 a0_2, .int .i64 a0_3, .int .i64 a0_4] 26 (0, 0)) (upK BK111.out) hb)
              have n1_ := Aside0.mk (below_step (bW HB) hb)
              have z_HO118 := fun (h0_ : b 20 = true) => (show Kd.R Kd.string 9 w22 w.heap.size (fun _ => True) v117 y116 from by first | exact (Kd.R_below (by (with_reducible repeat (first | apply Kd.R_alloc | apply Kd.R_drewN | apply Kd.R_drew)); exact (Q_HO118 h0_)) hb) | exact Kd.R_mono (Kd.R_below (by (with_reducible repeat (first | apply Kd.R_alloc | apply Kd.R_drewN | apply Kd.R_drew)); exact (Q_HO118 h0_)) hb) (fun _ h_ => by first | trivial | exact h_ | exact h_.1))
              clear BK111
              clear HB
              have BK111 := n0_
              have HB := n1_
              clear n0_ n1_
              (try clear hb)
              refine hK.out _ _ ⟨v117, adz_v117, m23_, (by rw [ha.out]; exact putSel_upk 9 hb_ rfl rfl rfl), (upK BK111.out), (bW HB), z_HO118, Q_HA_HO118, Q_X23_⟩
             refine steps_cons ?_ ?_
             ·rintro b a w' ⟨v117, adz_v117, m23_, ha, Q_BK111, Q_HB, Q_HO118, Q_HA_HO118, Q_X23_⟩ hb_ hon hoff
              refine ⟨_, rfl, fun K hK => ?_⟩
              have e12 : a.tmps[12]? = some (.string (((((⟨#[108, 101, 97, 100, 32]⟩ : ByteArray) ++ t112) ++ (⟨#[32, 97, 116, 32]⟩ : ByteArray)) ++ t113) ++ (⟨#[58, 32, 115, 105, 122, 101, 32]⟩ : ByteArray))) := by rw [ha]; exact putSel_on (e := (9, 12, .string (((((⟨#[108, 101, 97, 100, 32]⟩ : ByteArray) ++ t112) ++ (⟨#[32, 97, 116, 32]⟩ : ByteArray)) ++ t113) ++ (⟨#[58, 32, 115, 105, 122, 101, 32]⟩ : ByteArray)))) 7 rfl rfl (hon 9 (by kernel_rfl)) rfl
              have e15 : a.tmps[15]? = some (.string t114) := by rw [ha]; exact putSel_on (e := (12, 15, .string t114)) 9 rfl rfl (hon 12 (by kernel_rfl)) rfl
              replace ha := Aside0.mk ha
              have BK111 := Aside0.mk Q_BK111
              have HB := Aside0.mk Q_HB
              refine value_ (w1 := w') (v := .string ((((((⟨#[108, 101, 97, 100, 32]⟩ : ByteArray) ++ t112) ++ (⟨#[32, 97, 116, 32]⟩ : ByteArray)) ++ t113) ++ (⟨#[58, 32, 115, 105, 122, 101, 32]⟩ : ByteArray)) ++ t114)) (by rfl) rfl ?_ ?_
              ·go_simp
               (try simp only [i64_w])
               try rfl
               try (have e_ := c16; simp only [ByteArray.size_append, show (⟨#[108, 101, 97, 100, 32]⟩ : ByteArray).size = 5 from rfl, show (⟨#[32, 97, 116, 32]⟩ : ByteArray).size = 4 from rfl, show (⟨#[58, 32, 115, 105, 122, 101, 32]⟩ : ByteArray).size = 7 from rfl, show (⟨#[32, 101, 97, 115, 101, 32]⟩ : ByteArray).size = 6 from rfl, show (⟨#[111, 112, 101, 110]⟩ : ByteArray).size = 4 from rfl, show (⟨#[116, 97, 107, 101, 110]⟩ : ByteArray).size = 5 from rfl, show (⟨#[100, 111, 110, 101]⟩ : ByteArray).size = 4 from rfl, show (⟨#[101, 110, 100, 101, 100]⟩ : ByteArray).size = 5 from rfl, show (⟨#[32]⟩ : ByteArray).size = 1 from rfl] at e_; omega)
              refine hK.out _ _ ⟨v117, adz_v117, m23_, (by rw [ha.out]; exact putSel_upk 10 hb_ rfl rfl rfl), Q_BK111, Q_HB, Q_HO118, Q_HA_HO118, Q_X23_⟩
             refine steps_cons ?_ ?_
             ·rintro b a w' ⟨v117, adz_v117, m23_, ha, Q_BK111, Q_HB, Q_HO118, Q_HA_HO118, Q_X23_⟩ hb_ hon hoff
              refine ⟨_, rfl, fun K hK => ?_⟩
              have e16 : a.tmps[16]? = some (.string ((((((⟨#[108, 101, 97, 100, 32]⟩ : ByteArray) ++ t112) ++ (⟨#[32, 97, 116, 32]⟩ : ByteArray)) ++ t113) ++ (⟨#[58, 32, 115, 105, 122, 101, 32]⟩ : ByteArray)) ++ t114)) := by rw [ha]; exact putSel_on (e := (13, 16, .string ((((((⟨#[108, 101, 97, 100, 32]⟩ : ByteArray) ++ t112) ++ (⟨#[32, 97, 116, 32]⟩ : ByteArray)) ++ t113) ++ (⟨#[58, 32, 115, 105, 122, 101, 32]⟩ : ByteArray)) ++ t114))) 10 rfl rfl (hon 13 (by kernel_rfl)) rfl
              replace ha := Aside0.mk ha
              have BK111 := Aside0.mk Q_BK111
              have HB := Aside0.mk Q_HB
              refine value_ (w1 := w') (v := .string (((((((⟨#[108, 101, 97, 100, 32]⟩ : ByteArray) ++ t112) ++ (⟨#[32, 97, 116, 32]⟩ : ByteArray)) ++ t113) ++ (⟨#[58, 32, 115, 105, 122, 101, 32]⟩ : ByteArray)) ++ t114) ++ (⟨#[32, 101, 97, 115, 101, 32]⟩ : ByteArray))) (by rfl) rfl ?_ ?_
              ·go_simp
               (try simp only [i64_w])
               try rfl
               try (have e_ := c16; simp only [ByteArray.size_append, show (⟨#[108, 101, 97, 100, 32]⟩ : ByteArray).size = 5 from rfl, show (⟨#[32, 97, 116, 32]⟩ : ByteArray).size = 4 from rfl, show (⟨#[58, 32, 115, 105, 122, 101, 32]⟩ : ByteArray).size = 7 from rfl, show (⟨#[32, 101, 97, 115, 101, 32]⟩ : ByteArray).size = 6 from rfl, show (⟨#[111, 112, 101, 110]⟩ : ByteArray).size = 4 from rfl, show (⟨#[116, 97, 107, 101, 110]⟩ : ByteArray).size = 5 from rfl, show (⟨#[100, 111, 110, 101]⟩ : ByteArray).size = 4 from rfl, show (⟨#[101, 110, 100, 101, 100]⟩ : ByteArray).size = 5 from rfl, show (⟨#[32]⟩ : ByteArray).size = 1 from rfl] at e_; omega)
              refine hK.out _ _ ⟨v117, adz_v117, m23_, (by rw [ha.out]; exact putSel_upk 11 hb_ rfl rfl rfl), Q_BK111, Q_HB, Q_HO118, Q_HA_HO118, Q_X23_⟩
             refine steps_cons ?_ ?_
             ·rintro b a w' ⟨v117, adz_v117, m23_, ha, Q_BK111, Q_HB, Q_HO118, Q_HA_HO118, Q_X23_⟩ hb_ hon hoff
              refine ⟨_, rfl, fun K hK => ?_⟩
              have e18 : a.tmps[18]? = some (.pointer (some ⟨gb111, 3, none⟩)) := by rw [ha]; exact (putSel_off rfl).trans rfl
              replace ha := Aside0.mk ha
              have BK111 := Aside0.mk Q_BK111
              have HB := Aside0.mk Q_HB
              have ⟨hc0_, hc1_, hc2_, hc3_, hc4_, _⟩ := cz5 BK111
              refine value_ (w1 := w') (v := .int .i64 a0_3) (by rfl) rfl ?_ ?_
              ·go_simp
               (try simp only [i64_w])
               try rfl
               try (have e_ := c16; simp only [ByteArray.size_append, show (⟨#[108, 101, 97, 100, 32]⟩ : ByteArray).size = 5 from rfl, show (⟨#[32, 97, 116, 32]⟩ : ByteArray).size = 4 from rfl, show (⟨#[58, 32, 115, 105, 122, 101, 32]⟩ : ByteArray).size = 7 from rfl, show (⟨#[32, 101, 97, 115, 101, 32]⟩ : ByteArray).size = 6 from rfl, show (⟨#[111, 112, 101, 110]⟩ : ByteArray).size = 4 from rfl, show (⟨#[116, 97, 107, 101, 110]⟩ : ByteArray).size = 5 from rfl, show (⟨#[100, 111, 110, 101]⟩ : ByteArray).size = 4 from rfl, show (⟨#[101, 110, 100, 101, 100]⟩ : ByteArray).size = 5 from rfl, show (⟨#[32]⟩ : ByteArray).size = 1 from rfl] at e_; omega)
              refine hK.out _ _ ⟨v117, adz_v117, m23_, (by rw [ha.out]; exact putSel_upk 12 hb_ rfl rfl rfl), Q_BK111, Q_HB, Q_HO118, Q_HA_HO118, Q_X23_⟩
             refine steps_cons ?_ ?_
             ·rintro b a w' ⟨v117, adz_v117, m23_, ha, Q_BK111, Q_HB, Q_HO118, Q_HA_HO118, Q_X23_⟩ hb_ hon hoff
              refine ⟨_, rfl, fun K hK => ?_⟩
              have e19 : a.tmps[19]? = some (.int .i64 a0_3) := by rw [ha]; exact putSel_on (e := (16, 19, .int .i64 a0_3)) 12 rfl rfl (hon 16 (by kernel_rfl)) rfl
              replace ha := Aside0.mk ha
              have BK111 := Aside0.mk Q_BK111
              have HB := Aside0.mk Q_HB
              refine goes_ Tryd.func48 (by kernel_rfl) rfl #[.int .i64 a0_3] (by rfl) rfl rfl (by first | (simp only [List.map_toArray, List.map_cons, List.map_nil, Act.eval, Array.getD_eq_getD_getElem?, Option.getD_some, e19]; done) | (simp only [List.map_toArray, List.map_cons, List.map_nil, Act.eval, Array.getD_eq_getD_getElem?, Option.getD_some, e19]; rfl)) ?_
              with_reducible refine (spec_l1Num.calls k a0_3 t115 _ A11.out).mono ?_
              rintro e w23 ⟨rfl, hb⟩
              refine ⟨_, rfl, ?_⟩
              have n0_ := Aside0.mk (blk_below (g := gb111) (o := .cells #[.int .i64 a0_0, .int .i64 a0_1, .int .i64 a0_2, .int .i64 a0_3, .int .i64 a0_4] 26 (0, 0)) (upK BK111.out) hb)
              have n1_ := Aside0.mk (below_step (bW HB) hb)
              have z_HO118 := fun (h0_ : b 20 = true) => (show Kd.R Kd.string 9 w23 w.heap.size (fun _ => True) v117 y116 from by first | exact (Kd.R_below (by (with_reducible repeat (first | apply Kd.R_alloc | apply Kd.R_drewN | apply Kd.R_drew)); exact (Q_HO118 h0_)) hb) | exact Kd.R_mono (Kd.R_below (by (with_reducible repeat (first | apply Kd.R_alloc | apply Kd.R_drewN | apply Kd.R_drew)); exact (Q_HO118 h0_)) hb) (fun _ h_ => by first | trivial | exact h_ | exact h_.1))
              clear BK111
              clear HB
              have BK111 := n0_
              have HB := n1_
              clear n0_ n1_
              (try clear hb)
              refine hK.out _ _ ⟨v117, adz_v117, m23_, (by rw [ha.out]; exact putSel_upk 13 hb_ rfl rfl rfl), (upK BK111.out), (bW HB), z_HO118, Q_HA_HO118, Q_X23_⟩
             refine steps_cons ?_ ?_
             ·rintro b a w' ⟨v117, adz_v117, m23_, ha, Q_BK111, Q_HB, Q_HO118, Q_HA_HO118, Q_X23_⟩ hb_ hon hoff
              refine ⟨_, rfl, fun K hK => ?_⟩
              have e17 : a.tmps[17]? = some (.string (((((((⟨#[108, 101, 97, 100, 32]⟩ : ByteArray) ++ t112) ++ (⟨#[32, 97, 116, 32]⟩ : ByteArray)) ++ t113) ++ (⟨#[58, 32, 115, 105, 122, 101, 32]⟩ : ByteArray)) ++ t114) ++ (⟨#[32, 101, 97, 115, 101, 32]⟩ : ByteArray))) := by rw [ha]; exact putSel_on (e := (14, 17, .string (((((((⟨#[108, 101, 97, 100, 32]⟩ : ByteArray) ++ t112) ++ (⟨#[32, 97, 116, 32]⟩ : ByteArray)) ++ t113) ++ (⟨#[58, 32, 115, 105, 122, 101, 32]⟩ : ByteArray)) ++ t114) ++ (⟨#[32, 101, 97, 115, 101, 32]⟩ : ByteArray)))) 11 rfl rfl (hon 14 (by kernel_rfl)) rfl
              have e20 : a.tmps[20]? = some (.string t115) := by rw [ha]; exact putSel_on (e := (17, 20, .string t115)) 13 rfl rfl (hon 17 (by kernel_rfl)) rfl
              replace ha := Aside0.mk ha
              have BK111 := Aside0.mk Q_BK111
              have HB := Aside0.mk Q_HB
              refine value_ (w1 := w') (v := .string ((((((((⟨#[108, 101, 97, 100, 32]⟩ : ByteArray) ++ t112) ++ (⟨#[32, 97, 116, 32]⟩ : ByteArray)) ++ t113) ++ (⟨#[58, 32, 115, 105, 122, 101, 32]⟩ : ByteArray)) ++ t114) ++ (⟨#[32, 101, 97, 115, 101, 32]⟩ : ByteArray)) ++ t115)) (by rfl) rfl ?_ ?_
              ·go_simp
               (try simp only [i64_w])
               try rfl
               try (have e_ := c16; simp only [ByteArray.size_append, show (⟨#[108, 101, 97, 100, 32]⟩ : ByteArray).size = 5 from rfl, show (⟨#[32, 97, 116, 32]⟩ : ByteArray).size = 4 from rfl, show (⟨#[58, 32, 115, 105, 122, 101, 32]⟩ : ByteArray).size = 7 from rfl, show (⟨#[32, 101, 97, 115, 101, 32]⟩ : ByteArray).size = 6 from rfl, show (⟨#[111, 112, 101, 110]⟩ : ByteArray).size = 4 from rfl, show (⟨#[116, 97, 107, 101, 110]⟩ : ByteArray).size = 5 from rfl, show (⟨#[100, 111, 110, 101]⟩ : ByteArray).size = 4 from rfl, show (⟨#[101, 110, 100, 101, 100]⟩ : ByteArray).size = 5 from rfl, show (⟨#[32]⟩ : ByteArray).size = 1 from rfl] at e_; omega)
              refine hK.out _ _ ⟨v117, adz_v117, m23_, (by rw [ha.out]; exact putSel_upk 14 hb_ rfl rfl rfl), Q_BK111, Q_HB, Q_HO118, Q_HA_HO118, Q_X23_⟩
             refine steps_cons ?_ ?_
             ·rintro b a w' ⟨v117, adz_v117, m23_, ha, Q_BK111, Q_HB, Q_HO118, Q_HA_HO118, Q_X23_⟩ hb_ hon hoff
              refine ⟨_, rfl, fun K hK => ?_⟩
              have e21 : a.tmps[21]? = some (.string ((((((((⟨#[108, 101, 97, 100, 32]⟩ : ByteArray) ++ t112) ++ (⟨#[32, 97, 116, 32]⟩ : ByteArray)) ++ t113) ++ (⟨#[58, 32, 115, 105, 122, 101, 32]⟩ : ByteArray)) ++ t114) ++ (⟨#[32, 101, 97, 115, 101, 32]⟩ : ByteArray)) ++ t115)) := by rw [ha]; exact putSel_on (e := (18, 21, .string ((((((((⟨#[108, 101, 97, 100, 32]⟩ : ByteArray) ++ t112) ++ (⟨#[32, 97, 116, 32]⟩ : ByteArray)) ++ t113) ++ (⟨#[58, 32, 115, 105, 122, 101, 32]⟩ : ByteArray)) ++ t114) ++ (⟨#[32, 101, 97, 115, 101, 32]⟩ : ByteArray)) ++ t115))) 14 rfl rfl (hon 18 (by kernel_rfl)) rfl
              replace ha := Aside0.mk ha
              have BK111 := Aside0.mk Q_BK111
              have HB := Aside0.mk Q_HB
              refine value_ (w1 := w') (v := .string (((((((((⟨#[108, 101, 97, 100, 32]⟩ : ByteArray) ++ t112) ++ (⟨#[32, 97, 116, 32]⟩ : ByteArray)) ++ t113) ++ (⟨#[58, 32, 115, 105, 122, 101, 32]⟩ : ByteArray)) ++ t114) ++ (⟨#[32, 101, 97, 115, 101, 32]⟩ : ByteArray)) ++ t115) ++ (⟨#[32]⟩ : ByteArray))) (by rfl) rfl ?_ ?_
              ·go_simp
               (try simp only [i64_w])
               try rfl
               try (have e_ := c16; simp only [ByteArray.size_append, show (⟨#[108, 101, 97, 100, 32]⟩ : ByteArray).size = 5 from rfl, show (⟨#[32, 97, 116, 32]⟩ : ByteArray).size = 4 from rfl, show (⟨#[58, 32, 115, 105, 122, 101, 32]⟩ : ByteArray).size = 7 from rfl, show (⟨#[32, 101, 97, 115, 101, 32]⟩ : ByteArray).size = 6 from rfl, show (⟨#[111, 112, 101, 110]⟩ : ByteArray).size = 4 from rfl, show (⟨#[116, 97, 107, 101, 110]⟩ : ByteArray).size = 5 from rfl, show (⟨#[100, 111, 110, 101]⟩ : ByteArray).size = 4 from rfl, show (⟨#[101, 110, 100, 101, 100]⟩ : ByteArray).size = 5 from rfl, show (⟨#[32]⟩ : ByteArray).size = 1 from rfl] at e_; omega)
              refine hK.out _ _ ⟨v117, adz_v117, m23_, (by rw [ha.out]; exact putSel_upk 15 hb_ rfl rfl rfl), Q_BK111, Q_HB, Q_HO118, Q_HA_HO118, Q_X23_⟩
             refine steps_cons ?_ ?_
             ·rintro b a w' ⟨v117, adz_v117, m23_, ha, Q_BK111, Q_HB, Q_HO118, Q_HA_HO118, Q_X23_⟩ hb_ hon hoff
              refine ⟨_, rfl, fun K hK => ?_⟩
              replace ha := Aside0.mk ha
              have BK111 := Aside0.mk Q_BK111
              have HB := Aside0.mk Q_HB
              refine Kd.R_lit_step Kd.string _ 9 ?hg (N := 23) ?hd (xs := ([(⟨#[111, 112, 101, 110]⟩ : ByteArray), (⟨#[116, 97, 107, 101, 110]⟩ : ByteArray), (⟨#[100, 111, 110, 101]⟩ : ByteArray), (⟨#[101, 110, 100, 101, 100]⟩ : ByteArray)] : List ByteArray)) (inner := [.string (⟨#[111, 112, 101, 110]⟩ : ByteArray), .string (⟨#[116, 97, 107, 101, 110]⟩ : ByteArray), .string (⟨#[100, 111, 110, 101]⟩ : ByteArray), .string (⟨#[101, 110, 100, 101, 100]⟩ : ByteArray)]) (ok := fun _ => True) (okp := fun _ => True) ?hr ?hp (fun _ hk => hk) trivial (Below.refl _ _) (Nat.le_refl _) (by simp) ?_; (case hd => rfl); (case hg => rfl); (case hr => first | (go_simp; done) | (go_simp; rfl)); (case hp => exact (Reps.one (show Kd.M Kd.string _ _ _ (⟨#[111, 112, 101, 110]⟩ : ByteArray) [.string (⟨#[111, 112, 101, 110]⟩ : ByteArray)] from rfl) (Reps.one (show Kd.M Kd.string _ _ _ (⟨#[116, 97, 107, 101, 110]⟩ : ByteArray) [.string (⟨#[116, 97, 107, 101, 110]⟩ : ByteArray)] from rfl) (Reps.one (show Kd.M Kd.string _ _ _ (⟨#[100, 111, 110, 101]⟩ : ByteArray) [.string (⟨#[100, 111, 110, 101]⟩ : ByteArray)] from rfl) (Reps.one (show Kd.M Kd.string _ _ _ (⟨#[101, 110, 100, 101, 100]⟩ : ByteArray) [.string (⟨#[101, 110, 100, 101, 100]⟩ : ByteArray)] from rfl) (Reps.none _ _))))))
              intro v117 w19 ho20 hb hg_ hnew_
              clear hg_ hnew_
              (first | rw [← Ny116.out] at ho20 | (simp only [Int.reduceToNat] at ho20; rw [← Ny116.out] at ho20))
              have HO118 := Aside0.mk (Kd.R_lower ho20 (below_size (bW HB)))
              replace BK111 := uK BK111 hb
              replace HB := uB HB hb
              clear hb ho20
              obtain ⟨Ao21, co21, eo21⟩ := Kd.R_slice HO118.out
              subst eo21
              obtain ⟨ado21, fo21, _⟩ := Kd.at_string (Kd.R_reads' HO118.out).2.2 0 (by decide) (by rw [Ny116.out]; simp)
              cases fo21
              refine hK.out _ _ ⟨.slice (some ado21) y116.length co21, ado21, m23_, (by rw [ha.out]; exact putSel_upk 16 hb_ rfl rfl rfl), (upK BK111.out), (bW HB), fun _ => (upR HO118.out), fun _ => ⟨_, rfl⟩, fun h0_ => absurd ((hoff 23 (by kernel_rfl)).symm.trans h0_) (by decide)⟩
             refine steps_cons ?_ ?_
             ·rintro b a w' ⟨v117, adz_v117, m23_, ha, Q_BK111, Q_HB, Q_HO118, Q_HA_HO118, Q_X23_⟩ hb_ hon hoff
              refine ⟨_, rfl, fun K hK => ?_⟩
              have e24 : a.tmps[24]? = some (.pointer (some ⟨gb111, 4, none⟩)) := by rw [ha]; exact (putSel_off rfl).trans rfl
              replace ha := Aside0.mk ha
              have BK111 := Aside0.mk Q_BK111
              have HB := Aside0.mk Q_HB
              have ⟨hc0_, hc1_, hc2_, hc3_, hc4_, _⟩ := cz5 BK111
              refine value_ (w1 := w') (v := .int .i64 a0_4) (by rfl) rfl ?_ ?_
              ·go_simp
               (try simp only [i64_w])
               try rfl
               try (have e_ := c16; simp only [ByteArray.size_append, show (⟨#[108, 101, 97, 100, 32]⟩ : ByteArray).size = 5 from rfl, show (⟨#[32, 97, 116, 32]⟩ : ByteArray).size = 4 from rfl, show (⟨#[58, 32, 115, 105, 122, 101, 32]⟩ : ByteArray).size = 7 from rfl, show (⟨#[32, 101, 97, 115, 101, 32]⟩ : ByteArray).size = 6 from rfl, show (⟨#[111, 112, 101, 110]⟩ : ByteArray).size = 4 from rfl, show (⟨#[116, 97, 107, 101, 110]⟩ : ByteArray).size = 5 from rfl, show (⟨#[100, 111, 110, 101]⟩ : ByteArray).size = 4 from rfl, show (⟨#[101, 110, 100, 101, 100]⟩ : ByteArray).size = 5 from rfl, show (⟨#[32]⟩ : ByteArray).size = 1 from rfl] at e_; omega)
              refine hK.out _ _ ⟨v117, adz_v117, m23_, (by rw [ha.out]; exact putSel_upk 17 hb_ rfl rfl rfl), Q_BK111, Q_HB, Q_HO118, Q_HA_HO118, fun h0_ => absurd ((hoff 23 (by kernel_rfl)).symm.trans h0_) (by decide)⟩
             refine steps_cons ?_ ?_
             ·rintro b a w' ⟨v117, adz_v117, m23_, ha, Q_BK111, Q_HB, Q_HO118, Q_HA_HO118, Q_X23_⟩ hb_ hon hoff
              refine ⟨_, rfl, fun K hK => ?_⟩
              have e23 : a.tmps[23]? = some (v117) := by rw [ha]; exact putSel_on (e := (20, 23, v117)) 16 rfl rfl (hon 20 (by kernel_rfl)) rfl
              have e25 : a.tmps[25]? = some (.int .i64 a0_4) := by rw [ha]; exact putSel_on (e := (22, 25, .int .i64 a0_4)) 17 rfl rfl (hon 22 (by kernel_rfl)) rfl
              replace ha := Aside0.mk ha
              have BK111 := Aside0.mk Q_BK111
              have HB := Aside0.mk Q_HB
              have HO118 := Aside0.mk (Q_HO118 (hon 20 (by kernel_rfl)))
              have HA_HO118 := Aside0.mk (Q_HA_HO118 (hon 20 (by kernel_rfl)))
              obtain ⟨c_, hv_⟩ := HA_HO118.out
              rw [hv_] at e23
              refine value_ (w1 := w') (v := .pointer (some (adz_v117.add (a0_4).toNat))) (by rfl) rfl ?_ ?_
              ·go_simp
               (try simp only [i64_w])
               try rfl
               try (have e_ := c16; simp only [ByteArray.size_append, show (⟨#[108, 101, 97, 100, 32]⟩ : ByteArray).size = 5 from rfl, show (⟨#[32, 97, 116, 32]⟩ : ByteArray).size = 4 from rfl, show (⟨#[58, 32, 115, 105, 122, 101, 32]⟩ : ByteArray).size = 7 from rfl, show (⟨#[32, 101, 97, 115, 101, 32]⟩ : ByteArray).size = 6 from rfl, show (⟨#[111, 112, 101, 110]⟩ : ByteArray).size = 4 from rfl, show (⟨#[116, 97, 107, 101, 110]⟩ : ByteArray).size = 5 from rfl, show (⟨#[100, 111, 110, 101]⟩ : ByteArray).size = 4 from rfl, show (⟨#[101, 110, 100, 101, 100]⟩ : ByteArray).size = 5 from rfl, show (⟨#[32]⟩ : ByteArray).size = 1 from rfl] at e_; omega)
              refine hK.out _ _ ⟨v117, adz_v117, (.pointer (some (adz_v117.add (a0_4).toNat))), (by rw [ha.out]; exact putSel_upk 18 hb_ rfl rfl rfl), Q_BK111, Q_HB, Q_HO118, Q_HA_HO118, fun _ => rfl⟩
             refine steps_cons ?_ ?_
             ·rintro b a w' ⟨v117, adz_v117, m23_, ha, Q_BK111, Q_HB, Q_HO118, Q_HA_HO118, Q_X23_⟩ hb_ hon hoff
              refine ⟨_, rfl, fun K hK => ?_⟩
              have e26 : a.tmps[26]? = some (m23_) := by rw [ha]; exact putSel_on (e := (23, 26, m23_)) 18 rfl rfl (hon 23 (by kernel_rfl)) rfl
              rw [Q_X23_ (hon 23 (by kernel_rfl))] at e26
              replace ha := Aside0.mk ha
              have BK111 := Aside0.mk Q_BK111
              have HB := Aside0.mk Q_HB
              have HO118 := Aside0.mk (Q_HO118 (hon 20 (by kernel_rfl)))
              have HA_HO118 := Aside0.mk (Q_HA_HO118 (hon 20 (by kernel_rfl)))
              obtain ⟨c_, hv_⟩ := HA_HO118.out
              have hF_ := HO118.out
              rw [hv_] at hF_
              obtain ⟨ad_, ea_, hx_⟩ := Kd.at_string (Kd.R_reads' hF_).2.2 a0_4 (of_eq_true pi119) (of_eq_true qi119)
              cases ea_
              refine value_ (w1 := w') (v := .string (rdOf ByteArray.empty y116 a0_4)) (by rfl) rfl ?_ ?_
              ·go_simp
               (try simp only [i64_w])
               try rfl
               try (have e_ := c16; simp only [ByteArray.size_append, show (⟨#[108, 101, 97, 100, 32]⟩ : ByteArray).size = 5 from rfl, show (⟨#[32, 97, 116, 32]⟩ : ByteArray).size = 4 from rfl, show (⟨#[58, 32, 115, 105, 122, 101, 32]⟩ : ByteArray).size = 7 from rfl, show (⟨#[32, 101, 97, 115, 101, 32]⟩ : ByteArray).size = 6 from rfl, show (⟨#[111, 112, 101, 110]⟩ : ByteArray).size = 4 from rfl, show (⟨#[116, 97, 107, 101, 110]⟩ : ByteArray).size = 5 from rfl, show (⟨#[100, 111, 110, 101]⟩ : ByteArray).size = 4 from rfl, show (⟨#[101, 110, 100, 101, 100]⟩ : ByteArray).size = 5 from rfl, show (⟨#[32]⟩ : ByteArray).size = 1 from rfl] at e_; omega)
              refine hK.out _ _ ⟨v117, adz_v117, m23_, (by rw [ha.out]; exact putSel_upk 19 hb_ rfl rfl rfl), Q_BK111, Q_HB, Q_HO118, Q_HA_HO118, Q_X23_⟩
             refine steps_cons ?_ ?_
             ·rintro b a w' ⟨v117, adz_v117, m23_, ha, Q_BK111, Q_HB, Q_HO118, Q_HA_HO118, Q_X23_⟩ hb_ hon hoff
              refine ⟨_, rfl, fun K hK => ?_⟩
              have e22 : a.tmps[22]? = some (.string (((((((((⟨#[108, 101, 97, 100, 32]⟩ : ByteArray) ++ t112) ++ (⟨#[32, 97, 116, 32]⟩ : ByteArray)) ++ t113) ++ (⟨#[58, 32, 115, 105, 122, 101, 32]⟩ : ByteArray)) ++ t114) ++ (⟨#[32, 101, 97, 115, 101, 32]⟩ : ByteArray)) ++ t115) ++ (⟨#[32]⟩ : ByteArray))) := by rw [ha]; exact putSel_on (e := (19, 22, .string (((((((((⟨#[108, 101, 97, 100, 32]⟩ : ByteArray) ++ t112) ++ (⟨#[32, 97, 116, 32]⟩ : ByteArray)) ++ t113) ++ (⟨#[58, 32, 115, 105, 122, 101, 32]⟩ : ByteArray)) ++ t114) ++ (⟨#[32, 101, 97, 115, 101, 32]⟩ : ByteArray)) ++ t115) ++ (⟨#[32]⟩ : ByteArray)))) 15 rfl rfl (hon 19 (by kernel_rfl)) rfl
              have e27 : a.tmps[27]? = some (.string (rdOf ByteArray.empty y116 a0_4)) := by rw [ha]; exact putSel_on (e := (24, 27, .string (rdOf ByteArray.empty y116 a0_4))) 19 rfl rfl (hon 24 (by kernel_rfl)) rfl
              replace ha := Aside0.mk ha
              have BK111 := Aside0.mk Q_BK111
              have HB := Aside0.mk Q_HB
              have HO118 := Aside0.mk (Q_HO118 (hon 20 (by kernel_rfl)))
              have HA_HO118 := Aside0.mk (Q_HA_HO118 (hon 20 (by kernel_rfl)))
              refine value_ (w1 := w') (v := .string ((((((((((⟨#[108, 101, 97, 100, 32]⟩ : ByteArray) ++ t112) ++ (⟨#[32, 97, 116, 32]⟩ : ByteArray)) ++ t113) ++ (⟨#[58, 32, 115, 105, 122, 101, 32]⟩ : ByteArray)) ++ t114) ++ (⟨#[32, 101, 97, 115, 101, 32]⟩ : ByteArray)) ++ t115) ++ (⟨#[32]⟩ : ByteArray)) ++ (rdOf ByteArray.empty y116 a0_4))) (by rfl) rfl ?_ ?_
              ·go_simp
               (try simp only [i64_w])
               try rfl
               try (have e_ := c16; simp only [ByteArray.size_append, show (⟨#[108, 101, 97, 100, 32]⟩ : ByteArray).size = 5 from rfl, show (⟨#[32, 97, 116, 32]⟩ : ByteArray).size = 4 from rfl, show (⟨#[58, 32, 115, 105, 122, 101, 32]⟩ : ByteArray).size = 7 from rfl, show (⟨#[32, 101, 97, 115, 101, 32]⟩ : ByteArray).size = 6 from rfl, show (⟨#[111, 112, 101, 110]⟩ : ByteArray).size = 4 from rfl, show (⟨#[116, 97, 107, 101, 110]⟩ : ByteArray).size = 5 from rfl, show (⟨#[100, 111, 110, 101]⟩ : ByteArray).size = 4 from rfl, show (⟨#[101, 110, 100, 101, 100]⟩ : ByteArray).size = 5 from rfl, show (⟨#[32]⟩ : ByteArray).size = 1 from rfl] at e_; omega)
              refine hK.out _ _ ⟨v117, adz_v117, m23_, (by rw [ha.out]; exact putSel_upk 20 hb_ rfl rfl rfl), Q_BK111, Q_HB, Q_HO118, Q_HA_HO118, Q_X23_⟩
             refine steps_cons ?_ ?_
             ·rintro b a w' ⟨v117, adz_v117, m23_, ha, Q_BK111, Q_HB, Q_HO118, Q_HA_HO118, Q_X23_⟩ hb_ hon hoff
              refine ⟨_, rfl, fun K hK => ?_⟩
              have e28 : a.tmps[28]? = some (.string ((((((((((⟨#[108, 101, 97, 100, 32]⟩ : ByteArray) ++ t112) ++ (⟨#[32, 97, 116, 32]⟩ : ByteArray)) ++ t113) ++ (⟨#[58, 32, 115, 105, 122, 101, 32]⟩ : ByteArray)) ++ t114) ++ (⟨#[32, 101, 97, 115, 101, 32]⟩ : ByteArray)) ++ t115) ++ (⟨#[32]⟩ : ByteArray)) ++ (rdOf ByteArray.empty y116 a0_4))) := by rw [ha]; exact putSel_on (e := (25, 28, .string ((((((((((⟨#[108, 101, 97, 100, 32]⟩ : ByteArray) ++ t112) ++ (⟨#[32, 97, 116, 32]⟩ : ByteArray)) ++ t113) ++ (⟨#[58, 32, 115, 105, 122, 101, 32]⟩ : ByteArray)) ++ t114) ++ (⟨#[32, 101, 97, 115, 101, 32]⟩ : ByteArray)) ++ t115) ++ (⟨#[32]⟩ : ByteArray)) ++ (rdOf ByteArray.empty y116 a0_4)))) 20 rfl rfl (hon 25 (by kernel_rfl)) rfl
              replace ha := Aside0.mk ha
              have BK111 := Aside0.mk Q_BK111
              have HB := Aside0.mk Q_HB
              have HO118 := Aside0.mk (Q_HO118 (hon 20 (by kernel_rfl)))
              have HA_HO118 := Aside0.mk (Q_HA_HO118 (hon 20 (by kernel_rfl)))
              refine value_ (w1 := w') (v := .string ((((((((((⟨#[108, 101, 97, 100, 32]⟩ : ByteArray) ++ t112) ++ (⟨#[32, 97, 116, 32]⟩ : ByteArray)) ++ t113) ++ (⟨#[58, 32, 115, 105, 122, 101, 32]⟩ : ByteArray)) ++ t114) ++ (⟨#[32, 101, 97, 115, 101, 32]⟩ : ByteArray)) ++ t115) ++ (⟨#[32]⟩ : ByteArray)) ++ (rdOf ByteArray.empty y116 a0_4))) (by rfl) rfl ?_ ?_
              ·go_simp
               (try simp only [i64_w])
               try rfl
               try (have e_ := c16; simp only [ByteArray.size_append, show (⟨#[108, 101, 97, 100, 32]⟩ : ByteArray).size = 5 from rfl, show (⟨#[32, 97, 116, 32]⟩ : ByteArray).size = 4 from rfl, show (⟨#[58, 32, 115, 105, 122, 101, 32]⟩ : ByteArray).size = 7 from rfl, show (⟨#[32, 101, 97, 115, 101, 32]⟩ : ByteArray).size = 6 from rfl, show (⟨#[111, 112, 101, 110]⟩ : ByteArray).size = 4 from rfl, show (⟨#[116, 97, 107, 101, 110]⟩ : ByteArray).size = 5 from rfl, show (⟨#[100, 111, 110, 101]⟩ : ByteArray).size = 4 from rfl, show (⟨#[101, 110, 100, 101, 100]⟩ : ByteArray).size = 5 from rfl, show (⟨#[32]⟩ : ByteArray).size = 1 from rfl] at e_; omega)
              refine hK.out _ _ ⟨v117, adz_v117, m23_, (by rw [ha.out]; exact putSel_upk 21 hb_ rfl rfl rfl), Q_BK111, Q_HB, Q_HO118, Q_HA_HO118, Q_X23_⟩
             exact steps_nil
            rintro b a w26 hall ⟨v117, adz_v117, m23_, ha, Q_BK111, Q_HB, Q_HO118, Q_HA_HO118, Q_X23_⟩
            clear BK111 HB
            have hb1_ := hall 1 (by kernel_rfl)
            have hb2_ := hall 2 (by kernel_rfl)
            have hb3_ := hall 3 (by kernel_rfl)
            have hb4_ := hall 4 (by kernel_rfl)
            have hb6_ := hall 6 (by kernel_rfl)
            have hb7_ := hall 7 (by kernel_rfl)
            have hb8_ := hall 8 (by kernel_rfl)
            have hb9_ := hall 9 (by kernel_rfl)
            have hb11_ := hall 11 (by kernel_rfl)
            have hb12_ := hall 12 (by kernel_rfl)
            have hb13_ := hall 13 (by kernel_rfl)
            have hb14_ := hall 14 (by kernel_rfl)
            have hb16_ := hall 16 (by kernel_rfl)
            have hb17_ := hall 17 (by kernel_rfl)
            have hb18_ := hall 18 (by kernel_rfl)
            have hb19_ := hall 19 (by kernel_rfl)
            have hb20_ := hall 20 (by kernel_rfl)
            have hb22_ := hall 22 (by kernel_rfl)
            have hb23_ := hall 23 (by kernel_rfl)
            have hb24_ := hall 24 (by kernel_rfl)
            have hb25_ := hall 25 (by kernel_rfl)
            have hb26_ := hall 26 (by kernel_rfl)
            subst ha
            obtain rfl := Q_X23_ hb23_
            simp only [putSel, hb1_, hb2_, hb3_, hb4_, hb6_, hb7_, hb8_, hb9_, hb11_, hb12_, hb13_, hb14_, hb16_, hb17_, hb18_, hb19_, hb20_, hb22_, hb23_, hb24_, hb25_, hb26_, if_true, Act.put, List.setIfInBounds_toArray, List.set_cons_zero, List.set_cons_succ]
            have BK111 := Aside0.mk Q_BK111
            clear Q_BK111
            have HB := Aside0.mk Q_HB
            clear Q_HB
            have HO118 := Aside0.mk (Q_HO118 hb20_)
            clear Q_HO118
            have HA_HO118 := Aside0.mk (Q_HA_HO118 hb20_)
            clear Q_HA_HO118
            clear hall hb1_ hb2_ hb3_ hb4_ hb6_ hb7_ hb8_ hb9_ hb11_ hb12_ hb13_ hb14_ hb16_ hb17_ hb18_ hb19_ hb20_ hb22_ hb23_ hb24_ hb25_ hb26_
            obtain ⟨co27, eo27⟩ := HA_HO118.out
            clear HA_HO118
            subst eo27
            try go_wp2
            go_ret
            exact ⟨eB, (bW HB)⟩
           ·rw [if_neg c16] at H
            exact absurd H (by simp)
          ·rw [if_neg c15] at H
           exact absurd H (by simp)
         ·rw [if_neg c14] at H
          exact absurd H (by simp)
        ·rw [if_neg c13] at H
         exact absurd H (by simp)
       ·rw [if_neg c12] at H
        exact absurd H (by simp)
      ·rw [if_neg c10] at H
       exact absurd H (by simp)
     ·rw [if_neg c9] at H
      exact absurd H (by simp)
    ·rw [if_neg c7] at H
     exact absurd H (by simp)
   ·rw [if_neg c6] at H
    exact absurd H (by simp)
  ·rw [if_neg c4] at H
   exact absurd H (by simp)
 ·rw [if_neg c3] at H
  exact absurd H (by simp)

/-! ### spec_LeadText: function 6 -/
def spec_LeadText.f (k : Nat) (a0_0 a0_1 a0_2 a0_3 a0_4 : Int) : Option (ByteArray × Bool) := (spec_l18One.f a0_0 a0_1 a0_2 a0_3 a0_4).bind fun t121 => (if t121 = true then ((spec_l18Text.f k a0_0 a0_1 a0_2 a0_3 a0_4).bind fun t122 => (some (t122, true))) else (some ((⟨#[]⟩ : ByteArray), false)))
theorem spec_LeadText.mono : ∀ a0 a1 a2 a3 a4 k, LeO (spec_LeadText.f k a0 a1 a2 a3 a4) (spec_LeadText.f (k + 1) a0 a1 a2 a3 a4) := by
 intro a0 a1 a2 a3 a4 k
 unfold spec_LeadText.f
 repeat' with_reducible first | apply spec_l18Text.mono | exact LeO.refl _ | exact LeO.none _ | refine LeO.ite ?_ ?_ | refine LeO.bind ?_ (fun _ => ?_)
set_option maxHeartbeats 8000000 in
set_option maxRecDepth 100000 in
theorem spec_LeadText.calls (k : Nat) (a0_0 a0_1 a0_2 a0_3 a0_4 : Int) (r1 : ByteArray) (r2 : Bool) (w : World) (h : spec_LeadText.f k a0_0 a0_1 a0_2 a0_3 a0_4 = some (r1, r2)) :
  Calls Tryd.prog 6 #[.agg #[.int .i64 a0_0, .int .i64 a0_1, .int .i64 a0_2, .int .i64 a0_3, .int .i64 a0_4]] w fun e w' => e = .returned (.tuple #[.string r1, .bool r2]) ∧ Below w.heap.size w w' := by
 have hu26 := Tryd.underlying26
 have HB := Aside0.mk (Below.refl w.heap.size w)
 have H := h
 clear h
 unfold spec_LeadText.f at H
 replace H := bA H
 obtain ⟨t121, A2, H⟩ := H
 rcases Bool.eq_false_or_eq_true t121 with rfl | rfl
 ·replace H := iT rfl H
  replace H := bA H
  obtain ⟨t122, A4, H⟩ := H
  simp only [Option.some.injEq, Prod.mk.injEq] at H
  obtain ⟨rfl, rfl⟩ := H
  go_enter Tryd.func6, Tryd.ntmps6
  go_wp2_with (first | ((with_reducible refine gD 1 ?_); refine bxE 1 26 #[.int .i64 a0_0, .int .i64 a0_1, .int .i64 a0_2, .int .i64 a0_3, .int .i64 a0_4] fun gb120 w5 hg hbox hb => ?_; have BK120 := Aside0.mk hbox; have GE120 := gB HB hg; replace HB := uB HB hb; clear hb hbox hg; have ⟨hcz6_0, hcz6_1, hcz6_2, hcz6_3, hcz6_4, hfz6_0⟩ := cz5 BK120) | ((with_reducible refine gC 24 ?_); refine lA (some 5) Tryd.func24 (spec_l18One.calls a0_0 a0_1 a0_2 a0_3 a0_4 true _ A2.out) ?_; intro w7 hb; replace BK120 := uK BK120 hb; replace HB := uB HB hb; (try clear hb); have ⟨hcz8_0, hcz8_1, hcz8_2, hcz8_3, hcz8_4, hfz8_0⟩ := cz5 BK120) | ((with_reducible refine gC 25 ?_); refine lA (some 8) Tryd.func25 (spec_l18Text.calls k a0_0 a0_1 a0_2 a0_3 a0_4 t122 _ A4.out) ?_; intro w9 hb; replace BK120 := uK BK120 hb; replace HB := uB HB hb; (try clear hb)))
  go_ret2
  exact ⟨eB, (bW HB)⟩
 ·replace H := iF (by decide) H
  simp only [Option.some.injEq, Prod.mk.injEq] at H
  obtain ⟨rfl, rfl⟩ := H
  go_enter Tryd.func6, Tryd.ntmps6
  go_wp2_with (first | ((with_reducible refine gD 1 ?_); refine bxE 1 26 #[.int .i64 a0_0, .int .i64 a0_1, .int .i64 a0_2, .int .i64 a0_3, .int .i64 a0_4] fun gb120 w10 hg hbox hb => ?_; have BK120 := Aside0.mk hbox; have GE120 := gB HB hg; replace HB := uB HB hb; clear hb hbox hg; have ⟨hcz11_0, hcz11_1, hcz11_2, hcz11_3, hcz11_4, hfz11_0⟩ := cz5 BK120) | ((with_reducible refine gC 24 ?_); refine lA (some 5) Tryd.func24 (spec_l18One.calls a0_0 a0_1 a0_2 a0_3 a0_4 false _ A2.out) ?_; intro w12 hb; replace BK120 := uK BK120 hb; replace HB := uB HB hb; (try clear hb)))
  go_ret2
  exact ⟨eB, (bW HB)⟩

/-! ### impl_within: function 53 -/
def impl_within.f (a0 a1 a2 : Int) : Option (Bool) := if a0 ≥ a1 then (some (decide (a0 ≤ a2))) else (some false)
set_option maxHeartbeats 8000000 in
set_option maxRecDepth 100000 in
theorem impl_within.calls (a0 a1 a2 : Int) (r : Bool) (w : World) (h : impl_within.f a0 a1 a2 = some r) :
  Calls Tryd.prog 53 #[.int .i64 a0, .int .i64 a1, .int .i64 a2] w fun e w' => e = .returned (.bool r) ∧ Drawn0 w w' := by
 have H := h
 clear h
 unfold impl_within.f at H
 replace H := ifD H
 rcases H with ⟨H, -, c4b0⟩ | ⟨H, -, c4b0⟩
 ·obtain rfl := Option.some.inj H
  go_enter Tryd.func53, Tryd.ntmps53
  go_wp2
  go_ret
  exact ⟨rB, by repeat (first | exact Drawn0.refl _ | apply Drawn0.step)⟩
 ·obtain rfl := Option.some.inj H
  go_enter Tryd.func53, Tryd.ntmps53
  go_wp2
  go_ret
  exact ⟨rB, by repeat (first | exact Drawn0.refl _ | apply Drawn0.step)⟩

/-! ### impl_isId: function 34 -/
def impl_isId.f (a0 : Int) : Option (Bool) := (impl_within.f a0 1 99).bind fun t123 => (some t123)
set_option maxHeartbeats 8000000 in
set_option maxRecDepth 100000 in
theorem impl_isId.calls (a0 : Int) (r : Bool) (w : World) (h : impl_isId.f a0 = some r) :
  Calls Tryd.prog 34 #[.int .i64 a0] w fun e w' => e = .returned (.bool r) ∧ Drawn0 w w' := by
 have H := h
 clear h
 unfold impl_isId.f at H
 replace H := bA H
 obtain ⟨t123, A2, H⟩ := H
 obtain rfl := Option.some.inj H
 go_enter Tryd.func34, Tryd.ntmps34
 go_wp2_with (first | ((with_reducible refine gC 53 ?_); refine lA (some 4) Tryd.func53 (impl_within.calls a0 1 99 t123 _ A2.out) ?_; rintro _ ⟨nd, rfl⟩))
 go_ret
 exact ⟨rB, by repeat (first | exact Drawn0.refl _ | apply Drawn0.step)⟩

/-! ### impl_isStation: function 35 -/
def impl_isStation.f (a0 : Int) : Option (Bool) := (impl_within.f a0 0 7).bind fun t124 => (some t124)
set_option maxHeartbeats 8000000 in
set_option maxRecDepth 100000 in
theorem impl_isStation.calls (a0 : Int) (r : Bool) (w : World) (h : impl_isStation.f a0 = some r) :
  Calls Tryd.prog 35 #[.int .i64 a0] w fun e w' => e = .returned (.bool r) ∧ Drawn0 w w' := by
 have H := h
 clear h
 unfold impl_isStation.f at H
 replace H := bA H
 obtain ⟨t124, A2, H⟩ := H
 obtain rfl := Option.some.inj H
 go_enter Tryd.func35, Tryd.ntmps35
 go_wp2_with (first | ((with_reducible refine gC 53 ?_); refine lA (some 4) Tryd.func53 (impl_within.calls a0 0 7 t124 _ A2.out) ?_; rintro _ ⟨nd, rfl⟩))
 go_ret
 exact ⟨rB, by repeat (first | exact Drawn0.refl _ | apply Drawn0.step)⟩

/-! ### impl_isGrade: function 36 -/
def impl_isGrade.f (a0 : Int) : Option (Bool) := (impl_within.f a0 1 9).bind fun t125 => (some t125)
set_option maxHeartbeats 8000000 in
set_option maxRecDepth 100000 in
theorem impl_isGrade.calls (a0 : Int) (r : Bool) (w : World) (h : impl_isGrade.f a0 = some r) :
  Calls Tryd.prog 36 #[.int .i64 a0] w fun e w' => e = .returned (.bool r) ∧ Drawn0 w w' := by
 have H := h
 clear h
 unfold impl_isGrade.f at H
 replace H := bA H
 obtain ⟨t125, A2, H⟩ := H
 obtain rfl := Option.some.inj H
 go_enter Tryd.func36, Tryd.ntmps36
 go_wp2_with (first | ((with_reducible refine gC 53 ?_); refine lA (some 4) Tryd.func53 (impl_within.calls a0 1 9 t125 _ A2.out) ?_; rintro _ ⟨nd, rfl⟩))
 go_ret
 exact ⟨rB, by repeat (first | exact Drawn0.refl _ | apply Drawn0.step)⟩

/-! ### impl_isState: function 37 -/
def impl_isState.f (a0 : Int) : Option (Bool) := (impl_within.f a0 0 3).bind fun t126 => (some t126)
set_option maxHeartbeats 8000000 in
set_option maxRecDepth 100000 in
theorem impl_isState.calls (a0 : Int) (r : Bool) (w : World) (h : impl_isState.f a0 = some r) :
  Calls Tryd.prog 37 #[.int .i64 a0] w fun e w' => e = .returned (.bool r) ∧ Drawn0 w w' := by
 have H := h
 clear h
 unfold impl_isState.f at H
 replace H := bA H
 obtain ⟨t126, A2, H⟩ := H
 obtain rfl := Option.some.inj H
 go_enter Tryd.func37, Tryd.ntmps37
 go_wp2_with (first | ((with_reducible refine gC 53 ?_); refine lA (some 4) Tryd.func53 (impl_within.calls a0 0 3 t126 _ A2.out) ?_; rintro _ ⟨nd, rfl⟩))
 go_ret
 exact ⟨rB, by repeat (first | exact Drawn0.refl _ | apply Drawn0.step)⟩

/-! ### impl_IsLead: function 14 -/
def impl_IsLead.f (a0_0 a0_1 a0_2 a0_3 a0_4 : Int) : Option (Bool) := (impl_isId.f a0_0).bind fun t128 => (if t128 = true then ((impl_isStation.f a0_1).bind fun t129 => (if t129 = true then ((impl_isGrade.f a0_2).bind fun t130 => (if t130 = true then ((impl_isGrade.f a0_3).bind fun t131 => (if t131 = true then ((impl_isState.f a0_4).bind fun t132 => (some t132)) else (some false))) else (some false))) else (some false))) else (some false))
set_option maxHeartbeats 8000000 in
set_option maxRecDepth 100000 in
theorem impl_IsLead.calls (a0_0 a0_1 a0_2 a0_3 a0_4 : Int) (r : Bool) (w : World) (h : impl_IsLead.f a0_0 a0_1 a0_2 a0_3 a0_4 = some r) :
  Calls Tryd.prog 14 #[.agg #[.int .i64 a0_0, .int .i64 a0_1, .int .i64 a0_2, .int .i64 a0_3, .int .i64 a0_4]] w fun e w' => e = .returned (.bool r) ∧ Below w.heap.size w w' := by
 have hu26 := Tryd.underlying26
 have HB := Aside0.mk (Below.refl w.heap.size w)
 have H := h
 clear h
 unfold impl_IsLead.f at H
 replace H := bA H
 obtain ⟨t128, A2, H⟩ := H
 rcases Bool.eq_false_or_eq_true t128 with rfl | rfl
 ·replace H := iT rfl H
  replace H := bA H
  obtain ⟨t129, A4, H⟩ := H
  rcases Bool.eq_false_or_eq_true t129 with rfl | rfl
  ·replace H := iT rfl H
   replace H := bA H
   obtain ⟨t130, A6, H⟩ := H
   rcases Bool.eq_false_or_eq_true t130 with rfl | rfl
   ·replace H := iT rfl H
    replace H := bA H
    obtain ⟨t131, A8, H⟩ := H
    rcases Bool.eq_false_or_eq_true t131 with rfl | rfl
    ·replace H := iT rfl H
     replace H := bA H
     obtain ⟨t132, A10, H⟩ := H
     obtain rfl := Option.some.inj H
     go_enter Tryd.func14, Tryd.ntmps14
     go_wp2_with (first | ((with_reducible refine gD 1 ?_); refine bxE 1 26 #[.int .i64 a0_0, .int .i64 a0_1, .int .i64 a0_2, .int .i64 a0_3, .int .i64 a0_4] fun gb127 w11 hg hbox hb => ?_; have BK127 := Aside0.mk hbox; have GE127 := gB HB hg; replace HB := uB HB hb; clear hb hbox hg; have ⟨hcz12_0, hcz12_1, hcz12_2, hcz12_3, hcz12_4, hfz12_0⟩ := cz5 BK127) | ((with_reducible refine gC 34 ?_); refine lA (some 5) Tryd.func34 (impl_isId.calls a0_0 true _ A2.out) ?_; rintro _ ⟨nd, rfl⟩) | (go_at_call 35; (with_reducible refine (impl_isStation.calls a0_1 true _ A4.out).mono ?_); rintro e w' ⟨rfl, ⟨nd, rfl⟩⟩) | (go_at_call 36; (with_reducible refine (impl_isGrade.calls a0_2 true _ A6.out).mono ?_); rintro e w' ⟨rfl, ⟨nd, rfl⟩⟩) | (go_at_call 36; (with_reducible refine (impl_isGrade.calls a0_3 true _ A8.out).mono ?_); rintro e w' ⟨rfl, ⟨nd, rfl⟩⟩) | (go_at_call 37; (with_reducible refine (impl_isState.calls a0_4 t132 _ A10.out).mono ?_); rintro e w' ⟨rfl, ⟨nd, rfl⟩⟩))
     go_ret
     exact ⟨eB, (bW HB)⟩
    ·replace H := iF (by decide) H
     obtain rfl := Option.some.inj H
     go_enter Tryd.func14, Tryd.ntmps14
     go_wp2_with (first | ((with_reducible refine gD 1 ?_); refine bxE 1 26 #[.int .i64 a0_0, .int .i64 a0_1, .int .i64 a0_2, .int .i64 a0_3, .int .i64 a0_4] fun gb127 w13 hg hbox hb => ?_; have BK127 := Aside0.mk hbox; have GE127 := gB HB hg; replace HB := uB HB hb; clear hb hbox hg; have ⟨hcz14_0, hcz14_1, hcz14_2, hcz14_3, hcz14_4, hfz14_0⟩ := cz5 BK127) | ((with_reducible refine gC 34 ?_); refine lA (some 5) Tryd.func34 (impl_isId.calls a0_0 true _ A2.out) ?_; rintro _ ⟨nd, rfl⟩) | (go_at_call 35; (with_reducible refine (impl_isStation.calls a0_1 true _ A4.out).mono ?_); rintro e w' ⟨rfl, ⟨nd, rfl⟩⟩) | (go_at_call 36; (with_reducible refine (impl_isGrade.calls a0_2 true _ A6.out).mono ?_); rintro e w' ⟨rfl, ⟨nd, rfl⟩⟩) | (go_at_call 36; (with_reducible refine (impl_isGrade.calls a0_3 false _ A8.out).mono ?_); rintro e w' ⟨rfl, ⟨nd, rfl⟩⟩))
     go_ret
     exact ⟨eB, (bW HB)⟩
   ·replace H := iF (by decide) H
    obtain rfl := Option.some.inj H
    go_enter Tryd.func14, Tryd.ntmps14
    go_wp2_with (first | ((with_reducible refine gD 1 ?_); refine bxE 1 26 #[.int .i64 a0_0, .int .i64 a0_1, .int .i64 a0_2, .int .i64 a0_3, .int .i64 a0_4] fun gb127 w15 hg hbox hb => ?_; have BK127 := Aside0.mk hbox; have GE127 := gB HB hg; replace HB := uB HB hb; clear hb hbox hg; have ⟨hcz16_0, hcz16_1, hcz16_2, hcz16_3, hcz16_4, hfz16_0⟩ := cz5 BK127) | ((with_reducible refine gC 34 ?_); refine lA (some 5) Tryd.func34 (impl_isId.calls a0_0 true _ A2.out) ?_; rintro _ ⟨nd, rfl⟩) | (go_at_call 35; (with_reducible refine (impl_isStation.calls a0_1 true _ A4.out).mono ?_); rintro e w' ⟨rfl, ⟨nd, rfl⟩⟩) | (go_at_call 36; (with_reducible refine (impl_isGrade.calls a0_2 false _ A6.out).mono ?_); rintro e w' ⟨rfl, ⟨nd, rfl⟩⟩))
    go_ret
    exact ⟨eB, (bW HB)⟩
  ·replace H := iF (by decide) H
   obtain rfl := Option.some.inj H
   go_enter Tryd.func14, Tryd.ntmps14
   go_wp2_with (first | ((with_reducible refine gD 1 ?_); refine bxE 1 26 #[.int .i64 a0_0, .int .i64 a0_1, .int .i64 a0_2, .int .i64 a0_3, .int .i64 a0_4] fun gb127 w17 hg hbox hb => ?_; have BK127 := Aside0.mk hbox; have GE127 := gB HB hg; replace HB := uB HB hb; clear hb hbox hg; have ⟨hcz18_0, hcz18_1, hcz18_2, hcz18_3, hcz18_4, hfz18_0⟩ := cz5 BK127) | ((with_reducible refine gC 34 ?_); refine lA (some 5) Tryd.func34 (impl_isId.calls a0_0 true _ A2.out) ?_; rintro _ ⟨nd, rfl⟩) | (go_at_call 35; (with_reducible refine (impl_isStation.calls a0_1 false _ A4.out).mono ?_); rintro e w' ⟨rfl, ⟨nd, rfl⟩⟩))
   go_ret
   exact ⟨eB, (bW HB)⟩
 ·replace H := iF (by decide) H
  obtain rfl := Option.some.inj H
  go_enter Tryd.func14, Tryd.ntmps14
  go_wp2_with (first | ((with_reducible refine gD 1 ?_); refine bxE 1 26 #[.int .i64 a0_0, .int .i64 a0_1, .int .i64 a0_2, .int .i64 a0_3, .int .i64 a0_4] fun gb127 w19 hg hbox hb => ?_; have BK127 := Aside0.mk hbox; have GE127 := gB HB hg; replace HB := uB HB hb; clear hb hbox hg; have ⟨hcz20_0, hcz20_1, hcz20_2, hcz20_3, hcz20_4, hfz20_0⟩ := cz5 BK127) | ((with_reducible refine gC 34 ?_); refine lA (some 5) Tryd.func34 (impl_isId.calls a0_0 false _ A2.out) ?_; rintro _ ⟨nd, rfl⟩))
  go_ret
  exact ⟨eB, (bW HB)⟩

/-! ### impl_decimal: function 49 -/
-- calls: none
def stWords : List ByteArray := [(⟨#[111, 112, 101, 110]⟩ : ByteArray), (⟨#[116, 97, 107, 101, 110]⟩ : ByteArray), (⟨#[100, 111, 110, 101]⟩ : ByteArray), (⟨#[101, 110, 100, 101, 100]⟩ : ByteArray)]
def stW (i : Int) : ByteArray := stWords.getD i.toNat ByteArray.empty
/-- What the row's condition tells of five of the package's variables. -/
def TabW (w : World) : Prop := Lib.TabIs Tryd.prog w "internal/strconv.uint64pow10" .u64 Lib.pow10Tab ∧ (∀ i : Nat, i < 4 → w.cell? ⟨0, i, none⟩ = some (.string (stWords.getD i ByteArray.empty))) ∧ (∃ m : Int, w.cell? ⟨1, 0, none⟩ = some (.int .i64 m)) ∧ (∃ ev, w.cell? ⟨4, 0, none⟩ = some ev ∧ (ev = .nilIface ∨ ∃ te pe, ev = .iface te pe)) ∧ (∃ ev, w.cell? ⟨5, 0, none⟩ = some ev ∧ (ev = .nilIface ∨ ∃ te pe, ev = .iface te pe))
theorem tabW_below {n : String} {g : Nat} {k : IntKind} {zs : List Int} {w w' : World} (hg : Tryd.prog.globalNamed n = some g) (h : Lib.TabIs Tryd.prog w n k zs) (hb : Below w.heap.size w w') : Lib.TabIs Tryd.prog w' n k zs := by
 unfold Lib.TabIs World.var? at h ⊢
 rw [hg] at h ⊢
 simp only [Option.bind_some] at h ⊢
 split at h
 ·rename_i cs t hh e
  rw [blk_below e hb]
  exact h
 ·cases h
theorem tabW_cell {w W : World} {a : Addr} {v : Value} (hB : Below w.heap.size w W) (h : w.cell? a = some v) : W.cell? a = some v := (hB.cell (World.block_lt_of_cell? w _ h)).trans h
theorem TabW.up {w W : World} (hB : Aside0 (Below w.heap.size w W)) (h : TabW w) : TabW W := by
 obtain ⟨h1, h2, ⟨m, h3⟩, ⟨e4, h4, i4⟩, ⟨e5, h5, i5⟩⟩ := h
 exact ⟨tabW_below (g := 6) (by kernel_rfl) h1 hB.out, fun i hi => tabW_cell hB.out (h2 i hi), ⟨m, tabW_cell hB.out h3⟩, ⟨e4, tabW_cell hB.out h4, i4⟩, ⟨e5, tabW_cell hB.out h5, i5⟩⟩
theorem TabW.up2 {w W0 W : World} (h : TabW w) (hB : Below w.heap.size w W0) (hh : Below w.heap.size w W0 → Below w.heap.size w W := by (intro h_; repeat (first | (with_reducible first | exact h_ | apply below_alloc | apply pw_below_drewN | apply below_drew1) | exact h_ | refine below_set ?_ (Aside0.out (by assumption))))) : TabW W := TabW.up ⟨hh hB⟩ h
theorem TabW.word {w W : World} (h : TabW w) (hB : Below w.heap.size w W) {i : Int} (h0 : 0 ≤ i) (h1 : i < 4) : W.cell? ⟨0, i.toNat, none⟩ = some (.string (stW i)) := (TabW.up ⟨hB⟩ h).2.1 i.toNat (by omega)
theorem guard_some {α : Type} {p : Prop} [Decidable p] {x : Option α} {r : α} (h : (if p then x else none) = some r) : p ∧ x = some r := by
 split at h
 ·exact ⟨by assumption, h⟩
 ·cases h

theorem below_grow_ (w : World) (k : Nat) (os : Array Obj) : Below w.heap.size w (Sort.grow (w.drewN k) os) := Lib.below_grow _ _ (Nat.le_refl _) k os
def impl_decimal.f (a0 : Int) : Option ByteArray := if -9223372036854775808 ≤ a0 ∧ a0 ≤ 9223372036854775807 then some ⟨(Lib.itoa a0).toArray⟩ else none
theorem impl_decimal.calls (a0 : Int) (r : ByteArray) (w : World) (h : impl_decimal.f a0 = some r) (hT : TabW w) :
  Calls Tryd.prog 49 #[.int .i64 a0] w fun e w' => e = .returned (.string r) ∧ Below w.heap.size w w' := by
 obtain ⟨⟨h0, h1⟩, h⟩ := guard_some h
 obtain rfl := Option.some.inj h
 have hcon := Any.strconv_Itoa Tryd.lays171 a0 h0 h1 w hT.1
 change Calls Tryd.prog 55 _ _ (fun e w' => e = .returned (.string ⟨(Lib.itoa a0).toArray⟩) ∧ ∃ k os, w' = Sort.grow (w.drewN k) os) at hcon
 clear h hT
 generalize (⟨(Lib.itoa a0).toArray⟩ : ByteArray) = r at hcon ⊢
 go_enter Tryd.func49, Tryd.ntmps49
 go_wp2_with (go_at_call 55; refine hcon.mono ?_; rintro e w1 ⟨rfl, nk, os, rfl⟩)
 go_ret
 exact ⟨rfl, below_grow_ w nk os⟩

end Go.Proofs.YtldgjibimolcdaaDoor.QFnLeads
