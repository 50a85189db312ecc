/- Contracts of Go functions that FnExactTripText reaches: the call computes what the plain function says. No condition. -/
import Derived.Test.YtmeaacbnjpgepaaDoorQFnExactTripTextx0
import Derived.Test.YtmeaacbnjpgepaaDoorQFnExactTripTextx1
namespace Go.Proofs.YtmeaacbnjpgepaaDoor.QFnExactTripText
open Go.RowKit Go.Proofs.YtmeaacbnjpgepaaDoorW.PrintWords Go.Proofs.YtmeaacbnjpgepaaDoorW.PrintLast Go.Proofs.YtmeaacbnjpgepaaDoorW.PrintMore
attribute [local go_sem] max2_int min2_int max_two min_two max_three min_three max_four min_four   -- for this text's walks alone
set_option linter.unusedVariables false
set_option linter.unusedSimpArgs false

/-! ### spec_l21Text: function 12 -/
theorem more_ {P : Program} {md : Region.Mode} {ops : Array Oper} {Q : Exit → Act → World → Prop} {S S' : World → Prop} {fuel : Nat} {l : Array Bool} {a : Act} {w : World} (h1 : ∀ w, S' w → S w) (hS : S' w) (h : S' w → wpAnyLast P md ops Q S' [] fuel l a w) : wpAnyLast P md ops Q S [] fuel l a w := by
  have key : ∀ (fuel : Nat) (l : Array Bool) (a : Act) (w : World), S' w → wpAnyLast P md ops Q S' [] fuel l a w → wpAnyLast P md ops Q S [] fuel l a w := by
    intro fuel
    induction fuel with
    | zero => exact fun _ _ _ _ h => h
    | succ n ih => exact fun l a w hS h => ⟨h.1, fun i hi => wpOp_mono (fun a' w' h' => ⟨fun hn _ => h1 w' (h'.1 hn hS), ih _ _ _ (h'.1 (by simp) hS) h'.2⟩) (h.2 i hi)⟩
  exact key fuel l a w hS (h hS)
def spec_l21Text.f (k : Nat) (a0_0 : Int) (a0_1 : Int) (a0_2 : Int) (a0_3 : Int) (a0_4 : Int) : Option (ByteArray) := (spec_l21Words.f).bind fun t116 => (if 0 ≤ a0_0 then (if a0_0 < (t116.length : Int) then (if (rdOf ByteArray.empty t116 a0_0).size + 1 ≤ 9223372036854775807 then ((spec_l1Num.f k a0_2).bind fun t120 => (if ((rdOf ByteArray.empty t116 a0_0) ++ (⟨#[32]⟩ : ByteArray)).size + t120.size ≤ 9223372036854775807 then (if (((rdOf ByteArray.empty t116 a0_0) ++ (⟨#[32]⟩ : ByteArray)) ++ t120).size + 1 ≤ 9223372036854775807 then ((spec_l1Num.f k a0_1).bind fun t121 => (if ((((rdOf ByteArray.empty t116 a0_0) ++ (⟨#[32]⟩ : ByteArray)) ++ t120) ++ (⟨#[47]⟩ : ByteArray)).size + t121.size ≤ 9223372036854775807 then (if (((((rdOf ByteArray.empty t116 a0_0) ++ (⟨#[32]⟩ : ByteArray)) ++ t120) ++ (⟨#[47]⟩ : ByteArray)) ++ t121).size + 5 ≤ 9223372036854775807 then ((spec_l1Num.f k a0_3).bind fun t122 => (if ((((((rdOf ByteArray.empty t116 a0_0) ++ (⟨#[32]⟩ : ByteArray)) ++ t120) ++ (⟨#[47]⟩ : ByteArray)) ++ t121) ++ (⟨#[32, 100, 117, 101, 32]⟩ : ByteArray)).size + t122.size ≤ 9223372036854775807 then (if (((((((rdOf ByteArray.empty t116 a0_0) ++ (⟨#[32]⟩ : ByteArray)) ++ t120) ++ (⟨#[47]⟩ : ByteArray)) ++ t121) ++ (⟨#[32, 100, 117, 101, 32]⟩ : ByteArray)) ++ t122).size + 4 ≤ 9223372036854775807 then ((spec_l1Num.f k a0_4).bind fun t123 => (if ((((((((rdOf ByteArray.empty t116 a0_0) ++ (⟨#[32]⟩ : ByteArray)) ++ t120) ++ (⟨#[47]⟩ : ByteArray)) ++ t121) ++ (⟨#[32, 100, 117, 101, 32]⟩ : ByteArray)) ++ t122) ++ (⟨#[32, 97, 116, 32]⟩ : ByteArray)).size + t123.size ≤ 9223372036854775807 then (some (((((((((rdOf ByteArray.empty t116 a0_0) ++ (⟨#[32]⟩ : ByteArray)) ++ t120) ++ (⟨#[47]⟩ : ByteArray)) ++ t121) ++ (⟨#[32, 100, 117, 101, 32]⟩ : ByteArray)) ++ t122) ++ (⟨#[32, 97, 116, 32]⟩ : ByteArray)) ++ t123)) else (none))) else (none)) else (none))) else (none)) else (none))) else (none)) else (none))) else (none)) else (none)) else (none))
theorem spec_l21Text.mono : ∀ a0 a1 a2 a3 a4 k, LeO (spec_l21Text.f k a0 a1 a2 a3 a4) (spec_l21Text.f (k + 1) a0 a1 a2 a3 a4) := by
  intro a0 a1 a2 a3 a4 k
  unfold spec_l21Text.f
  repeat' first
      | (with_reducible exact spec_l1Num.mono _ _)
      | (with_reducible exact LeO.refl _)
      | (with_reducible exact LeO.none _)
      | (with_reducible refine LeO.ite ?_ ?_)
      | (with_reducible refine LeO.bind ?_ (fun _ => ?_))
      | exact spec_l1Num.mono _ _
      | exact LeO.none _
      | refine LeO.ite ?_ ?_
      | refine LeO.bind ?_ (fun _ => ?_)
def spec_l21Text.T1 : Bool × List (List Nat × List Nat) := (true, [([], []), ([], []), ([1], [1]), ([0, 2], [0, 2]), ([3], [3]), ([4], [4]), ([], []), ([6], [6]), ([7, 0], [7]), ([5, 8], [5, 8]), ([9], [9]), ([], []), ([11], [11]), ([12, 8], [12]), ([10, 13], [10, 13]), ([14], [14]), ([], []), ([16], [16]), ([17, 13], [17]), ([15, 18], [15, 18]), ([19], [19]), ([], []), ([21], [21]), ([22, 18], [22]), ([20, 23], [20, 23]), ([24, 23, 0, 1, 2, 3, 4, 5, 6, 7, 8, 9, 10, 11, 12, 13, 14, 15, 16, 17, 18, 19, 20, 21, 22, 23, 24], [24])])
def spec_l21Text.B1 : List Nat := [0, 0, 2, 7, 15, 31, 0, 64, 193, 511, 1023, 0, 2048, 6593, 16383, 32767, 0, 65536, 211393, 524287, 1048575, 0, 2097152, 6764993, 16777215, 33554431]
theorem spec_l21Text.tab1 : rtab .any (opsOf Tryd.f12 1) = spec_l21Text.T1 := by kernel_rfl
theorem spec_l21Text.bits1 : waitsOk spec_l21Text.T1.2 spec_l21Text.B1 = true := by kernel_rfl
set_option maxHeartbeats 8000000 in
set_option maxRecDepth 100000 in
theorem spec_l21Text.calls (k : Nat) (a0_0 : Int) (a0_1 : Int) (a0_2 : Int) (a0_3 : Int) (a0_4 : Int) (r : ByteArray) (w : World) (h : spec_l21Text.f k a0_0 a0_1 a0_2 a0_3 a0_4 = some r) :
    Calls Tryd.prog 12 #[.agg #[.int .i64 a0_0, .int .i64 a0_1, .int .i64 a0_2, .int .i64 a0_3, .int .i64 a0_4]] w fun e w' => e = .returned (.string r) ∧ Below w.heap.size w w' := by
  have hu26 := Tryd.underlying26
  have HB := Aside0.mk (Below.refl w.heap.size w)
  have H : ((spec_l21Words.f).bind fun t116 => (if 0 ≤ a0_0 then (if a0_0 < (t116.length : Int) then (if (rdOf ByteArray.empty t116 a0_0).size + 1 ≤ 9223372036854775807 then ((spec_l1Num.f k a0_2).bind fun t120 => (if ((rdOf ByteArray.empty t116 a0_0) ++ (⟨#[32]⟩ : ByteArray)).size + t120.size ≤ 9223372036854775807 then (if (((rdOf ByteArray.empty t116 a0_0) ++ (⟨#[32]⟩ : ByteArray)) ++ t120).size + 1 ≤ 9223372036854775807 then ((spec_l1Num.f k a0_1).bind fun t121 => (if ((((rdOf ByteArray.empty t116 a0_0) ++ (⟨#[32]⟩ : ByteArray)) ++ t120) ++ (⟨#[47]⟩ : ByteArray)).size + t121.size ≤ 9223372036854775807 then (if (((((rdOf ByteArray.empty t116 a0_0) ++ (⟨#[32]⟩ : ByteArray)) ++ t120) ++ (⟨#[47]⟩ : ByteArray)) ++ t121).size + 5 ≤ 9223372036854775807 then ((spec_l1Num.f k a0_3).bind fun t122 => (if ((((((rdOf ByteArray.empty t116 a0_0) ++ (⟨#[32]⟩ : ByteArray)) ++ t120) ++ (⟨#[47]⟩ : ByteArray)) ++ t121) ++ (⟨#[32, 100, 117, 101, 32]⟩ : ByteArray)).size + t122.size ≤ 9223372036854775807 then (if (((((((rdOf ByteArray.empty t116 a0_0) ++ (⟨#[32]⟩ : ByteArray)) ++ t120) ++ (⟨#[47]⟩ : ByteArray)) ++ t121) ++ (⟨#[32, 100, 117, 101, 32]⟩ : ByteArray)) ++ t122).size + 4 ≤ 9223372036854775807 then ((spec_l1Num.f k a0_4).bind fun t123 => (if ((((((((rdOf ByteArray.empty t116 a0_0) ++ (⟨#[32]⟩ : ByteArray)) ++ t120) ++ (⟨#[47]⟩ : ByteArray)) ++ t121) ++ (⟨#[32, 100, 117, 101, 32]⟩ : ByteArray)) ++ t122) ++ (⟨#[32, 97, 116, 32]⟩ : ByteArray)).size + t123.size ≤ 9223372036854775807 then (some (((((((((rdOf ByteArray.empty t116 a0_0) ++ (⟨#[32]⟩ : ByteArray)) ++ t120) ++ (⟨#[47]⟩ : ByteArray)) ++ t121) ++ (⟨#[32, 100, 117, 101, 32]⟩ : ByteArray)) ++ t122) ++ (⟨#[32, 97, 116, 32]⟩ : ByteArray)) ++ t123)) else (none))) else (none)) else (none))) else (none)) else (none))) else (none)) else (none))) else (none)) else (none)) else (none))) = some r := h
  clear h
  replace H := Option.bind_eq_some_iff.mp H
  obtain ⟨t116, A20, H⟩ := H
  replace H : (if 0 ≤ a0_0 then (if a0_0 < (t116.length : Int) then (if (rdOf ByteArray.empty t116 a0_0).size + 1 ≤ 9223372036854775807 then ((spec_l1Num.f k a0_2).bind fun t120 => (if ((rdOf ByteArray.empty t116 a0_0) ++ (⟨#[32]⟩ : ByteArray)).size + t120.size ≤ 9223372036854775807 then (if (((rdOf ByteArray.empty t116 a0_0) ++ (⟨#[32]⟩ : ByteArray)) ++ t120).size + 1 ≤ 9223372036854775807 then ((spec_l1Num.f k a0_1).bind fun t121 => (if ((((rdOf ByteArray.empty t116 a0_0) ++ (⟨#[32]⟩ : ByteArray)) ++ t120) ++ (⟨#[47]⟩ : ByteArray)).size + t121.size ≤ 9223372036854775807 then (if (((((rdOf ByteArray.empty t116 a0_0) ++ (⟨#[32]⟩ : ByteArray)) ++ t120) ++ (⟨#[47]⟩ : ByteArray)) ++ t121).size + 5 ≤ 9223372036854775807 then ((spec_l1Num.f k a0_3).bind fun t122 => (if ((((((rdOf ByteArray.empty t116 a0_0) ++ (⟨#[32]⟩ : ByteArray)) ++ t120) ++ (⟨#[47]⟩ : ByteArray)) ++ t121) ++ (⟨#[32, 100, 117, 101, 32]⟩ : ByteArray)).size + t122.size ≤ 9223372036854775807 then (if (((((((rdOf ByteArray.empty t116 a0_0) ++ (⟨#[32]⟩ : ByteArray)) ++ t120) ++ (⟨#[47]⟩ : ByteArray)) ++ t121) ++ (⟨#[32, 100, 117, 101, 32]⟩ : ByteArray)) ++ t122).size + 4 ≤ 9223372036854775807 then ((spec_l1Num.f k a0_4).bind fun t123 => (if ((((((((rdOf ByteArray.empty t116 a0_0) ++ (⟨#[32]⟩ : ByteArray)) ++ t120) ++ (⟨#[47]⟩ : ByteArray)) ++ t121) ++ (⟨#[32, 100, 117, 101, 32]⟩ : ByteArray)) ++ t122) ++ (⟨#[32, 97, 116, 32]⟩ : ByteArray)).size + t123.size ≤ 9223372036854775807 then (some (((((((((rdOf ByteArray.empty t116 a0_0) ++ (⟨#[32]⟩ : ByteArray)) ++ t120) ++ (⟨#[47]⟩ : ByteArray)) ++ t121) ++ (⟨#[32, 100, 117, 101, 32]⟩ : ByteArray)) ++ t122) ++ (⟨#[32, 97, 116, 32]⟩ : ByteArray)) ++ t123)) else (none))) else (none)) else (none))) else (none)) else (none))) else (none)) else (none))) else (none)) else (none)) else (none)) = some r := H
  have A2 := Aside0.mk A20
  clear A20
  by_cases c3 : 0 ≤ a0_0
  · rw [if_pos c3] at H
    have c3b0 : decide (0 ≤ a0_0) = true := decide_eq_true c3
    clear c3
    by_cases c4 : a0_0 < (t116.length : Int)
    · rw [if_pos c4] at H
      have c4b0 : decide (a0_0 < (t116.length : Int)) = true := decide_eq_true c4
      clear c4
      by_cases c5 : (rdOf ByteArray.empty t116 a0_0).size + 1 ≤ 9223372036854775807
      · rw [if_pos c5] at H
        have c5b0 := eq_true c5
        have c5b1 : decide ((rdOf ByteArray.empty t116 a0_0).size + 1 ≤ 9223372036854775807) = true := decide_eq_true c5
        try have c5b2 : (9223372036854775807 < (rdOf ByteArray.empty t116 a0_0).size + 1) = False := eq_false (Nat.not_lt.2 c5)
        replace H := Option.bind_eq_some_iff.mp H
        obtain ⟨t120, A60, H⟩ := H
        replace H : (if ((rdOf ByteArray.empty t116 a0_0) ++ (⟨#[32]⟩ : ByteArray)).size + t120.size ≤ 9223372036854775807 then (if (((rdOf ByteArray.empty t116 a0_0) ++ (⟨#[32]⟩ : ByteArray)) ++ t120).size + 1 ≤ 9223372036854775807 then ((spec_l1Num.f k a0_1).bind fun t121 => (if ((((rdOf ByteArray.empty t116 a0_0) ++ (⟨#[32]⟩ : ByteArray)) ++ t120) ++ (⟨#[47]⟩ : ByteArray)).size + t121.size ≤ 9223372036854775807 then (if (((((rdOf ByteArray.empty t116 a0_0) ++ (⟨#[32]⟩ : ByteArray)) ++ t120) ++ (⟨#[47]⟩ : ByteArray)) ++ t121).size + 5 ≤ 9223372036854775807 then ((spec_l1Num.f k a0_3).bind fun t122 => (if ((((((rdOf ByteArray.empty t116 a0_0) ++ (⟨#[32]⟩ : ByteArray)) ++ t120) ++ (⟨#[47]⟩ : ByteArray)) ++ t121) ++ (⟨#[32, 100, 117, 101, 32]⟩ : ByteArray)).size + t122.size ≤ 9223372036854775807 then (if (((((((rdOf ByteArray.empty t116 a0_0) ++ (⟨#[32]⟩ : ByteArray)) ++ t120) ++ (⟨#[47]⟩ : ByteArray)) ++ t121) ++ (⟨#[32, 100, 117, 101, 32]⟩ : ByteArray)) ++ t122).size + 4 ≤ 9223372036854775807 then ((spec_l1Num.f k a0_4).bind fun t123 => (if ((((((((rdOf ByteArray.empty t116 a0_0) ++ (⟨#[32]⟩ : ByteArray)) ++ t120) ++ (⟨#[47]⟩ : ByteArray)) ++ t121) ++ (⟨#[32, 100, 117, 101, 32]⟩ : ByteArray)) ++ t122) ++ (⟨#[32, 97, 116, 32]⟩ : ByteArray)).size + t123.size ≤ 9223372036854775807 then (some (((((((((rdOf ByteArray.empty t116 a0_0) ++ (⟨#[32]⟩ : ByteArray)) ++ t120) ++ (⟨#[47]⟩ : ByteArray)) ++ t121) ++ (⟨#[32, 100, 117, 101, 32]⟩ : ByteArray)) ++ t122) ++ (⟨#[32, 97, 116, 32]⟩ : ByteArray)) ++ t123)) else (none))) else (none)) else (none))) else (none)) else (none))) else (none)) else (none)) = some r := H
        have A6 := Aside0.mk A60
        clear A60
        by_cases c7 : ((rdOf ByteArray.empty t116 a0_0) ++ (⟨#[32]⟩ : ByteArray)).size + t120.size ≤ 9223372036854775807
        · rw [if_pos c7] at H
          have c7b0 := eq_true c7
          have c7b1 : decide (((rdOf ByteArray.empty t116 a0_0) ++ (⟨#[32]⟩ : ByteArray)).size + t120.size ≤ 9223372036854775807) = true := decide_eq_true c7
          try have c7b2 : (9223372036854775807 < ((rdOf ByteArray.empty t116 a0_0) ++ (⟨#[32]⟩ : ByteArray)).size + t120.size) = False := eq_false (Nat.not_lt.2 c7)
          have c7b3 : (9223372036854775807 < (rdOf ByteArray.empty t116 a0_0).size + 1 + t120.size) = False := by have e_ := c7; simp only [ByteArray.size_append, show (⟨#[32]⟩ : ByteArray).size = 1 from rfl] at e_; exact eq_false (by omega)
          by_cases c8 : (((rdOf ByteArray.empty t116 a0_0) ++ (⟨#[32]⟩ : ByteArray)) ++ t120).size + 1 ≤ 9223372036854775807
          · rw [if_pos c8] at H
            have c8b0 := eq_true c8
            have c8b1 : decide ((((rdOf ByteArray.empty t116 a0_0) ++ (⟨#[32]⟩ : ByteArray)) ++ t120).size + 1 ≤ 9223372036854775807) = true := decide_eq_true c8
            try have c8b2 : (9223372036854775807 < (((rdOf ByteArray.empty t116 a0_0) ++ (⟨#[32]⟩ : ByteArray)) ++ t120).size + 1) = False := eq_false (Nat.not_lt.2 c8)
            have c8b3 : (9223372036854775807 < (rdOf ByteArray.empty t116 a0_0).size + 1 + t120.size + 1) = False := by have e_ := c8; simp only [ByteArray.size_append, show (⟨#[32]⟩ : ByteArray).size = 1 from rfl] at e_; exact eq_false (by omega)
            replace H := Option.bind_eq_some_iff.mp H
            obtain ⟨t121, A90, H⟩ := H
            replace H : (if ((((rdOf ByteArray.empty t116 a0_0) ++ (⟨#[32]⟩ : ByteArray)) ++ t120) ++ (⟨#[47]⟩ : ByteArray)).size + t121.size ≤ 9223372036854775807 then (if (((((rdOf ByteArray.empty t116 a0_0) ++ (⟨#[32]⟩ : ByteArray)) ++ t120) ++ (⟨#[47]⟩ : ByteArray)) ++ t121).size + 5 ≤ 9223372036854775807 then ((spec_l1Num.f k a0_3).bind fun t122 => (if ((((((rdOf ByteArray.empty t116 a0_0) ++ (⟨#[32]⟩ : ByteArray)) ++ t120) ++ (⟨#[47]⟩ : ByteArray)) ++ t121) ++ (⟨#[32, 100, 117, 101, 32]⟩ : ByteArray)).size + t122.size ≤ 9223372036854775807 then (if (((((((rdOf ByteArray.empty t116 a0_0) ++ (⟨#[32]⟩ : ByteArray)) ++ t120) ++ (⟨#[47]⟩ : ByteArray)) ++ t121) ++ (⟨#[32, 100, 117, 101, 32]⟩ : ByteArray)) ++ t122).size + 4 ≤ 9223372036854775807 then ((spec_l1Num.f k a0_4).bind fun t123 => (if ((((((((rdOf ByteArray.empty t116 a0_0) ++ (⟨#[32]⟩ : ByteArray)) ++ t120) ++ (⟨#[47]⟩ : ByteArray)) ++ t121) ++ (⟨#[32, 100, 117, 101, 32]⟩ : ByteArray)) ++ t122) ++ (⟨#[32, 97, 116, 32]⟩ : ByteArray)).size + t123.size ≤ 9223372036854775807 then (some (((((((((rdOf ByteArray.empty t116 a0_0) ++ (⟨#[32]⟩ : ByteArray)) ++ t120) ++ (⟨#[47]⟩ : ByteArray)) ++ t121) ++ (⟨#[32, 100, 117, 101, 32]⟩ : ByteArray)) ++ t122) ++ (⟨#[32, 97, 116, 32]⟩ : ByteArray)) ++ t123)) else (none))) else (none)) else (none))) else (none)) else (none)) = some r := H
            have A9 := Aside0.mk A90
            clear A90
            by_cases c10 : ((((rdOf ByteArray.empty t116 a0_0) ++ (⟨#[32]⟩ : ByteArray)) ++ t120) ++ (⟨#[47]⟩ : ByteArray)).size + t121.size ≤ 9223372036854775807
            · rw [if_pos c10] at H
              have c10b0 := eq_true c10
              have c10b1 : decide (((((rdOf ByteArray.empty t116 a0_0) ++ (⟨#[32]⟩ : ByteArray)) ++ t120) ++ (⟨#[47]⟩ : ByteArray)).size + t121.size ≤ 9223372036854775807) = true := decide_eq_true c10
              try have c10b2 : (9223372036854775807 < ((((rdOf ByteArray.empty t116 a0_0) ++ (⟨#[32]⟩ : ByteArray)) ++ t120) ++ (⟨#[47]⟩ : ByteArray)).size + t121.size) = False := eq_false (Nat.not_lt.2 c10)
              have c10b3 : (9223372036854775807 < (rdOf ByteArray.empty t116 a0_0).size + 1 + t120.size + 1 + t121.size) = False := by have e_ := c10; simp only [ByteArray.size_append, show (⟨#[32]⟩ : ByteArray).size = 1 from rfl, show (⟨#[47]⟩ : ByteArray).size = 1 from rfl] at e_; exact eq_false (by omega)
              by_cases c11 : (((((rdOf ByteArray.empty t116 a0_0) ++ (⟨#[32]⟩ : ByteArray)) ++ t120) ++ (⟨#[47]⟩ : ByteArray)) ++ t121).size + 5 ≤ 9223372036854775807
              · rw [if_pos c11] at H
                have c11b0 := eq_true c11
                have c11b1 : decide ((((((rdOf ByteArray.empty t116 a0_0) ++ (⟨#[32]⟩ : ByteArray)) ++ t120) ++ (⟨#[47]⟩ : ByteArray)) ++ t121).size + 5 ≤ 9223372036854775807) = true := decide_eq_true c11
                try have c11b2 : (9223372036854775807 < (((((rdOf ByteArray.empty t116 a0_0) ++ (⟨#[32]⟩ : ByteArray)) ++ t120) ++ (⟨#[47]⟩ : ByteArray)) ++ t121).size + 5) = False := eq_false (Nat.not_lt.2 c11)
                have c11b3 : (9223372036854775807 < (rdOf ByteArray.empty t116 a0_0).size + 1 + t120.size + 1 + t121.size + 5) = False := by have e_ := c11; simp only [ByteArray.size_append, show (⟨#[32]⟩ : ByteArray).size = 1 from rfl, show (⟨#[47]⟩ : ByteArray).size = 1 from rfl] at e_; exact eq_false (by omega)
                replace H := Option.bind_eq_some_iff.mp H
                obtain ⟨t122, A120, H⟩ := H
                replace H : (if ((((((rdOf ByteArray.empty t116 a0_0) ++ (⟨#[32]⟩ : ByteArray)) ++ t120) ++ (⟨#[47]⟩ : ByteArray)) ++ t121) ++ (⟨#[32, 100, 117, 101, 32]⟩ : ByteArray)).size + t122.size ≤ 9223372036854775807 then (if (((((((rdOf ByteArray.empty t116 a0_0) ++ (⟨#[32]⟩ : ByteArray)) ++ t120) ++ (⟨#[47]⟩ : ByteArray)) ++ t121) ++ (⟨#[32, 100, 117, 101, 32]⟩ : ByteArray)) ++ t122).size + 4 ≤ 9223372036854775807 then ((spec_l1Num.f k a0_4).bind fun t123 => (if ((((((((rdOf ByteArray.empty t116 a0_0) ++ (⟨#[32]⟩ : ByteArray)) ++ t120) ++ (⟨#[47]⟩ : ByteArray)) ++ t121) ++ (⟨#[32, 100, 117, 101, 32]⟩ : ByteArray)) ++ t122) ++ (⟨#[32, 97, 116, 32]⟩ : ByteArray)).size + t123.size ≤ 9223372036854775807 then (some (((((((((rdOf ByteArray.empty t116 a0_0) ++ (⟨#[32]⟩ : ByteArray)) ++ t120) ++ (⟨#[47]⟩ : ByteArray)) ++ t121) ++ (⟨#[32, 100, 117, 101, 32]⟩ : ByteArray)) ++ t122) ++ (⟨#[32, 97, 116, 32]⟩ : ByteArray)) ++ t123)) else (none))) else (none)) else (none)) = some r := H
                have A12 := Aside0.mk A120
                clear A120
                by_cases c13 : ((((((rdOf ByteArray.empty t116 a0_0) ++ (⟨#[32]⟩ : ByteArray)) ++ t120) ++ (⟨#[47]⟩ : ByteArray)) ++ t121) ++ (⟨#[32, 100, 117, 101, 32]⟩ : ByteArray)).size + t122.size ≤ 9223372036854775807
                · rw [if_pos c13] at H
                  have c13b0 := eq_true c13
                  have c13b1 : decide (((((((rdOf ByteArray.empty t116 a0_0) ++ (⟨#[32]⟩ : ByteArray)) ++ t120) ++ (⟨#[47]⟩ : ByteArray)) ++ t121) ++ (⟨#[32, 100, 117, 101, 32]⟩ : ByteArray)).size + t122.size ≤ 9223372036854775807) = true := decide_eq_true c13
                  try have c13b2 : (9223372036854775807 < ((((((rdOf ByteArray.empty t116 a0_0) ++ (⟨#[32]⟩ : ByteArray)) ++ t120) ++ (⟨#[47]⟩ : ByteArray)) ++ t121) ++ (⟨#[32, 100, 117, 101, 32]⟩ : ByteArray)).size + t122.size) = False := eq_false (Nat.not_lt.2 c13)
                  have c13b3 : (9223372036854775807 < (rdOf ByteArray.empty t116 a0_0).size + 1 + t120.size + 1 + t121.size + 5 + t122.size) = False := by have e_ := c13; simp only [ByteArray.size_append, show (⟨#[32]⟩ : ByteArray).size = 1 from rfl, show (⟨#[47]⟩ : ByteArray).size = 1 from rfl, show (⟨#[32, 100, 117, 101, 32]⟩ : ByteArray).size = 5 from rfl] at e_; exact eq_false (by omega)
                  by_cases c14 : (((((((rdOf ByteArray.empty t116 a0_0) ++ (⟨#[32]⟩ : ByteArray)) ++ t120) ++ (⟨#[47]⟩ : ByteArray)) ++ t121) ++ (⟨#[32, 100, 117, 101, 32]⟩ : ByteArray)) ++ t122).size + 4 ≤ 9223372036854775807
                  · rw [if_pos c14] at H
                    have c14b0 := eq_true c14
                    have c14b1 : decide ((((((((rdOf ByteArray.empty t116 a0_0) ++ (⟨#[32]⟩ : ByteArray)) ++ t120) ++ (⟨#[47]⟩ : ByteArray)) ++ t121) ++ (⟨#[32, 100, 117, 101, 32]⟩ : ByteArray)) ++ t122).size + 4 ≤ 9223372036854775807) = true := decide_eq_true c14
                    try have c14b2 : (9223372036854775807 < (((((((rdOf ByteArray.empty t116 a0_0) ++ (⟨#[32]⟩ : ByteArray)) ++ t120) ++ (⟨#[47]⟩ : ByteArray)) ++ t121) ++ (⟨#[32, 100, 117, 101, 32]⟩ : ByteArray)) ++ t122).size + 4) = False := eq_false (Nat.not_lt.2 c14)
                    have c14b3 : (9223372036854775807 < (rdOf ByteArray.empty t116 a0_0).size + 1 + t120.size + 1 + t121.size + 5 + t122.size + 4) = False := by have e_ := c14; simp only [ByteArray.size_append, show (⟨#[32]⟩ : ByteArray).size = 1 from rfl, show (⟨#[47]⟩ : ByteArray).size = 1 from rfl, show (⟨#[32, 100, 117, 101, 32]⟩ : ByteArray).size = 5 from rfl] at e_; exact eq_false (by omega)
                    replace H := Option.bind_eq_some_iff.mp H
                    obtain ⟨t123, A150, H⟩ := H
                    replace H : (if ((((((((rdOf ByteArray.empty t116 a0_0) ++ (⟨#[32]⟩ : ByteArray)) ++ t120) ++ (⟨#[47]⟩ : ByteArray)) ++ t121) ++ (⟨#[32, 100, 117, 101, 32]⟩ : ByteArray)) ++ t122) ++ (⟨#[32, 97, 116, 32]⟩ : ByteArray)).size + t123.size ≤ 9223372036854775807 then (some (((((((((rdOf ByteArray.empty t116 a0_0) ++ (⟨#[32]⟩ : ByteArray)) ++ t120) ++ (⟨#[47]⟩ : ByteArray)) ++ t121) ++ (⟨#[32, 100, 117, 101, 32]⟩ : ByteArray)) ++ t122) ++ (⟨#[32, 97, 116, 32]⟩ : ByteArray)) ++ t123)) else (none)) = some r := H
                    have A15 := Aside0.mk A150
                    clear A150
                    by_cases c16 : ((((((((rdOf ByteArray.empty t116 a0_0) ++ (⟨#[32]⟩ : ByteArray)) ++ t120) ++ (⟨#[47]⟩ : ByteArray)) ++ t121) ++ (⟨#[32, 100, 117, 101, 32]⟩ : ByteArray)) ++ t122) ++ (⟨#[32, 97, 116, 32]⟩ : ByteArray)).size + t123.size ≤ 9223372036854775807
                    · rw [if_pos c16] at H
                      have c16b0 := eq_true c16
                      have c16b1 : decide (((((((((rdOf ByteArray.empty t116 a0_0) ++ (⟨#[32]⟩ : ByteArray)) ++ t120) ++ (⟨#[47]⟩ : ByteArray)) ++ t121) ++ (⟨#[32, 100, 117, 101, 32]⟩ : ByteArray)) ++ t122) ++ (⟨#[32, 97, 116, 32]⟩ : ByteArray)).size + t123.size ≤ 9223372036854775807) = true := decide_eq_true c16
                      try have c16b2 : (9223372036854775807 < ((((((((rdOf ByteArray.empty t116 a0_0) ++ (⟨#[32]⟩ : ByteArray)) ++ t120) ++ (⟨#[47]⟩ : ByteArray)) ++ t121) ++ (⟨#[32, 100, 117, 101, 32]⟩ : ByteArray)) ++ t122) ++ (⟨#[32, 97, 116, 32]⟩ : ByteArray)).size + t123.size) = False := eq_false (Nat.not_lt.2 c16)
                      have c16b3 : (9223372036854775807 < (rdOf ByteArray.empty t116 a0_0).size + 1 + t120.size + 1 + t121.size + 5 + t122.size + 4 + t123.size) = False := by have e_ := c16; simp only [ByteArray.size_append, show (⟨#[32]⟩ : ByteArray).size = 1 from rfl, show (⟨#[47]⟩ : ByteArray).size = 1 from rfl, show (⟨#[32, 100, 117, 101, 32]⟩ : ByteArray).size = 5 from rfl, show (⟨#[32, 97, 116, 32]⟩ : ByteArray).size = 4 from rfl] at e_; exact eq_false (by omega)
                      obtain rfl := Option.some.inj H
                      go_enter Tryd.func12, Tryd.ntmps12
                      try go_wp2_with (first | ((with_reducible refine gate_dst (N := 1) rfl ?_); refine box_event ?hg (N := 1) ?hd (cs := #[.int .i64 a0_0, .int .i64 a0_1, .int .i64 a0_2, .int .i64 a0_3, .int .i64 a0_4]) (t := 26) ?hr ?_; (case hd => rfl); (case hg => rfl); (case hr => first | (go_simp; done) | (go_simp; rfl)); intro gb115 hg w17 hbox hb; have n0_ := Aside0.mk (below_step (upB HB.out) hb); have n1_ := Aside0.mk (hbox); have n2_ := Aside0.mk ((by rw [hg]; exact (below_size (upB HB.out)) : w.heap.size ≤ gb115)); have n3_ := Aside0.mk ((by rw [hg]; exact (below_size (upB HB.out)) : w.heap.size ≤ gb115)); clear HB; have HB := n0_; have BK115 := n1_; have GW115 := n2_; have GE115 := n3_; clear n0_ n1_ n2_ n3_; clear hb hbox hg))
                      have n0_ := Aside0.mk (blk_drew BK115.out)
                      have n1_ := Aside0.mk (below_drew1 HB.out)
                      clear BK115
                      clear HB
                      have BK115 := n0_
                      have HB := n1_
                      clear n0_ n1_
                      refine start_ (n := 26) (S := fun w' => w'.cell? ⟨gb115, 0, none⟩ = some (.int .i64 a0_0) ∧ w'.cell? ⟨gb115, 1, none⟩ = some (.int .i64 a0_1) ∧ w'.cell? ⟨gb115, 2, none⟩ = some (.int .i64 a0_2) ∧ w'.cell? ⟨gb115, 3, none⟩ = some (.int .i64 a0_3) ∧ w'.cell? ⟨gb115, 4, none⟩ = some (.int .i64 a0_4)) (ds := []) #[false, false, false, false, false, false, false, false, false, false, false, false, false, false, false, false, false, false, false, false, false, false, false, false, false, false] (by kernel_rfl) rfl rfl ⟨(blk_cell BK115.out 0).trans rfl, (blk_cell BK115.out 1).trans rfl, (blk_cell BK115.out 2).trans rfl, (blk_cell BK115.out 3).trans rfl, (blk_cell BK115.out 4).trans rfl⟩ (fun hHeld => ?_); refine with_tabW spec_l21Text.tab1 spec_l21Text.bits1 (fun HT_ HW_ => ?_)
                      generalize w17.drew = w18 at BK115 HB hHeld ⊢
                      refine pure_ (i := 1) (N := some 4) (v := ?_) (a' := ?_) #[false, true, false, false, false, false, false, false, false, false, false, false, false, false, false, false, false, false, false, false, false, false, false, false, false, false] rfl rfl (any_of HT_.out (by kernel_rfl)) (fun _ _ _ h => h) (Or.inl ⟨by rfl, ?_⟩) ?_ ?_
                      rotate_left
                      · intro w'
                        go_simp
                        with_reducible rfl
                      rotate_left
                      · simp only [Act.put, List.setIfInBounds_toArray, List.set_cons_zero, List.set_cons_succ, i64_w, i32_w]
                        rfl
                      refine pure_ (i := 6) (N := some 9) (v := ?_) (a' := ?_) #[false, true, false, false, false, false, true, false, false, false, false, false, false, false, false, false, false, false, false, false, false, false, false, false, false, false] rfl rfl (any_of HT_.out (by kernel_rfl)) (fun _ _ _ h => h) (Or.inl ⟨by rfl, ?_⟩) ?_ ?_
                      rotate_left
                      · intro w'
                        go_simp
                        with_reducible rfl
                      rotate_left
                      · simp only [Act.put, List.setIfInBounds_toArray, List.set_cons_zero, List.set_cons_succ, i64_w, i32_w]
                        rfl
                      refine pure_ (i := 11) (N := some 14) (v := ?_) (a' := ?_) #[false, true, false, false, false, false, true, false, false, false, false, true, false, false, false, false, false, false, false, false, false, false, false, false, false, false] rfl rfl (any_of HT_.out (by kernel_rfl)) (fun _ _ _ h => h) (Or.inl ⟨by rfl, ?_⟩) ?_ ?_
                      rotate_left
                      · intro w'
                        go_simp
                        with_reducible rfl
                      rotate_left
                      · simp only [Act.put, List.setIfInBounds_toArray, List.set_cons_zero, List.set_cons_succ, i64_w, i32_w]
                        rfl
                      refine pure_ (i := 16) (N := some 19) (v := ?_) (a' := ?_) #[false, true, false, false, false, false, true, false, false, false, false, true, false, false, false, false, true, false, false, false, false, false, false, false, false, false] rfl rfl (any_of HT_.out (by kernel_rfl)) (fun _ _ _ h => h) (Or.inl ⟨by rfl, ?_⟩) ?_ ?_
                      rotate_left
                      · intro w'
                        go_simp
                        with_reducible rfl
                      rotate_left
                      · simp only [Act.put, List.setIfInBounds_toArray, List.set_cons_zero, List.set_cons_succ, i64_w, i32_w]
                        rfl
                      refine pure_ (i := 21) (N := some 24) (v := ?_) (a' := ?_) #[false, true, false, false, false, false, true, false, false, false, false, true, false, false, false, false, true, false, false, false, false, true, false, false, false, false] rfl rfl (any_of HT_.out (by kernel_rfl)) (fun _ _ _ h => h) (Or.inl ⟨by rfl, ?_⟩) ?_ ?_
                      rotate_left
                      · intro w'
                        go_simp
                        with_reducible rfl
                      rotate_left
                      · simp only [Act.put, List.setIfInBounds_toArray, List.set_cons_zero, List.set_cons_succ, i64_w, i32_w]
                        rfl
                      refine take_ (i := 2) (N := some 5) (v := ?_) (a' := ?_) #[false, true, true, false, false, false, true, false, false, false, false, true, false, false, false, false, true, false, false, false, false, true, false, false, false, false] rfl rfl (take_ofW HT_.out HW_.out (by kernel_rfl)) (fun _ _ _ h => h) (Or.inl ⟨by rfl, ?_⟩) hHeld ?_ ?_
                      rotate_left
                      · rintro w' ⟨s0, s1, s2, s3, s4⟩
                        go_simp
                        with_reducible rfl
                      rotate_left
                      · simp only [Act.put, List.setIfInBounds_toArray, List.set_cons_zero, List.set_cons_succ, i64_w, i32_w]
                        rfl
                      refine take_ (i := 7) (N := some 10) (v := ?_) (a' := ?_) #[false, true, true, false, false, false, true, true, false, false, false, true, false, false, false, false, true, false, false, false, false, true, false, false, false, false] rfl rfl (take_ofW HT_.out HW_.out (by kernel_rfl)) (fun _ _ _ h => h) (Or.inl ⟨by rfl, ?_⟩) hHeld ?_ ?_
                      rotate_left
                      · rintro w' ⟨s0, s1, s2, s3, s4⟩
                        go_simp
                        with_reducible rfl
                      rotate_left
                      · simp only [Act.put, List.setIfInBounds_toArray, List.set_cons_zero, List.set_cons_succ, i64_w, i32_w]
                        rfl
                      refine take_ (i := 12) (N := some 15) (v := ?_) (a' := ?_) #[false, true, true, false, false, false, true, true, false, false, false, true, true, false, false, false, true, false, false, false, false, true, false, false, false, false] rfl rfl (take_ofW HT_.out HW_.out (by kernel_rfl)) (fun _ _ _ h => h) (Or.inl ⟨by rfl, ?_⟩) hHeld ?_ ?_
                      rotate_left
                      · rintro w' ⟨s0, s1, s2, s3, s4⟩
                        go_simp
                        with_reducible rfl
                      rotate_left
                      · simp only [Act.put, List.setIfInBounds_toArray, List.set_cons_zero, List.set_cons_succ, i64_w, i32_w]
                        rfl
                      refine take_ (i := 17) (N := some 20) (v := ?_) (a' := ?_) #[false, true, true, false, false, false, true, true, false, false, false, true, true, false, false, false, true, true, false, false, false, true, false, false, false, false] rfl rfl (take_ofW HT_.out HW_.out (by kernel_rfl)) (fun _ _ _ h => h) (Or.inl ⟨by rfl, ?_⟩) hHeld ?_ ?_
                      rotate_left
                      · rintro w' ⟨s0, s1, s2, s3, s4⟩
                        go_simp
                        with_reducible rfl
                      rotate_left
                      · simp only [Act.put, List.setIfInBounds_toArray, List.set_cons_zero, List.set_cons_succ, i64_w, i32_w]
                        rfl
                      refine take_ (i := 22) (N := some 25) (v := ?_) (a' := ?_) #[false, true, true, false, false, false, true, true, false, false, false, true, true, false, false, false, true, true, false, false, false, true, true, false, false, false] rfl rfl (take_ofW HT_.out HW_.out (by kernel_rfl)) (fun _ _ _ h => h) (Or.inl ⟨by rfl, ?_⟩) hHeld ?_ ?_
                      rotate_left
                      · rintro w' ⟨s0, s1, s2, s3, s4⟩
                        go_simp
                        with_reducible rfl
                      rotate_left
                      · simp only [Act.put, List.setIfInBounds_toArray, List.set_cons_zero, List.set_cons_succ, i64_w, i32_w]
                        rfl
                      refine one_ (i := 0) (N := some 3) #[true, true, true, false, false, false, true, true, false, false, false, true, true, false, false, false, true, true, false, false, false, true, true, false, false, false] rfl rfl (one_of HT_.out (by kernel_rfl)) (by decide) (fun K hK => ?_)
                      refine goes_ Tryd.func24 (by kernel_rfl) rfl #[] (by rfl) rfl rfl argsB ?_
                      with_reducible refine (spec_l21Words.calls  t116 _ A2.out).mono ?_
                      rintro e w19 ⟨v117, rfl, ho0, hb⟩
                      refine ⟨_, rfl, ?_⟩
                      have n0_ := Aside0.mk (Kd.R_lower ho0 (below_size (upB1 HB.out GE115.out)))
                      have n1_ := Aside0.mk (blk_below (g := gb115) (o := .cells #[.int .i64 a0_0, .int .i64 a0_1, .int .i64 a0_2, .int .i64 a0_3, .int .i64 a0_4] 26 (0, 0)) (upK BK115.out) hb)
                      have n2_ := Aside0.mk (below_step (upB1 HB.out GE115.out) hb)
                      clear BK115
                      clear HB
                      have HO118 := n0_
                      have BK115 := n1_
                      have HB := n2_
                      clear n0_ n1_ n2_
                      (try clear hb)
                      (try clear hi)
                      (try clear ho0)
                      obtain ⟨Ao20, co20, eo20⟩ := Kd.R_slice HO118.out
                      (first | subst eo20 | (injection eo20 with f1_ f2_ f3_; have f4_ := f1_.symm; have f5_ := f3_.symm; clear f1_ f2_ f3_; subst f4_; subst f5_))
                      have p119 : 0 ≤ (a0_0 : Int) := of_decide_eq_true asmB
                      have q119 : a0_0 < (t116.length : Int) := of_decide_eq_true asmB
                      obtain ⟨ad119, e119, hx119_0⟩ := Kd.at_string (Kd.R_reads' HO118.out).2.2 a0_0 p119 q119
                      cases e119
                      replace p119 := eq_true p119
                      replace q119 := eq_true q119
                      refine hK.out _ _ ⟨(blk_cell BK115.out 0).trans rfl, (blk_cell BK115.out 1).trans rfl, (blk_cell BK115.out 2).trans rfl, (blk_cell BK115.out 3).trans rfl, (blk_cell BK115.out 4).trans rfl⟩ (fun hHeld => ?_)
                      clear hK K
                      refine more_ (S' := fun w' => w'.cell? ⟨gb115, 0, none⟩ = some (.int .i64 a0_0) ∧ w'.cell? ⟨gb115, 1, none⟩ = some (.int .i64 a0_1) ∧ w'.cell? ⟨gb115, 2, none⟩ = some (.int .i64 a0_2) ∧ w'.cell? ⟨gb115, 3, none⟩ = some (.int .i64 a0_3) ∧ w'.cell? ⟨gb115, 4, none⟩ = some (.int .i64 a0_4) ∧ w'.cell? (ad119.add (a0_0).toNat) = some (.string (rdOf ByteArray.empty t116 a0_0))) (fun w' h_ => ⟨h_.1, h_.2.1, h_.2.2.1, h_.2.2.2.1, h_.2.2.2.2.1⟩) ⟨hHeld.1, hHeld.2.1, hHeld.2.2.1, hHeld.2.2.2.1, hHeld.2.2.2.2, hx119_0⟩ (fun hHeld => ?_)
                      refine norm_ (a' := ?_) ?_ ?_
                      rotate_left
                      · show Act.put _ (some 3) _ = _
                        simp only [Act.put, List.setIfInBounds_toArray, List.set_cons_zero, List.set_cons_succ, i64_w, i32_w]
                        rfl
                      refine pure_ (i := 3) (N := some 6) (v := ?_) (a' := ?_) #[true, true, true, true, false, false, true, true, false, false, false, true, true, false, false, false, true, true, false, false, false, true, true, false, false, false] rfl rfl (any_of HT_.out (by kernel_rfl)) (fun _ _ _ h => h) (Or.inl ⟨by rfl, ?_⟩) ?_ ?_
                      rotate_left
                      · intro w'
                        go_simp
                        with_reducible rfl
                      rotate_left
                      · simp only [Act.put, List.setIfInBounds_toArray, List.set_cons_zero, List.set_cons_succ, i64_w, i32_w]
                        rfl
                      refine take_ (i := 4) (N := some 7) (v := ?_) (a' := ?_) #[true, true, true, true, true, false, true, true, false, false, false, true, true, false, false, false, true, true, false, false, false, true, true, false, false, false] rfl rfl (take_ofW HT_.out HW_.out (by kernel_rfl)) (fun _ _ _ h => h) (Or.inl ⟨by rfl, ?_⟩) hHeld ?_ ?_
                      rotate_left
                      · rintro w' ⟨s0, s1, s2, s3, s4, s5⟩
                        go_simp
                        with_reducible rfl
                      rotate_left
                      · simp only [Act.put, List.setIfInBounds_toArray, List.set_cons_zero, List.set_cons_succ, i64_w, i32_w]
                        rfl
                      refine pure_ (i := 5) (N := some 8) (v := ?_) (a' := ?_) #[true, true, true, true, true, true, true, true, false, false, false, true, true, false, false, false, true, true, false, false, false, true, true, false, false, false] rfl rfl (any_of HT_.out (by kernel_rfl)) (fun _ _ _ h => h) (Or.inl ⟨by rfl, ?_⟩) ?_ ?_
                      rotate_left
                      · intro w'
                        go_simp
                        with_reducible rfl
                      rotate_left
                      · simp only [Act.put, List.setIfInBounds_toArray, List.set_cons_zero, List.set_cons_succ, i64_w, i32_w]
                        rfl
                      refine one_ (i := 8) (N := some 11) #[true, true, true, true, true, true, true, true, true, false, false, true, true, false, false, false, true, true, false, false, false, true, true, false, false, false] rfl rfl (one_of HT_.out (by kernel_rfl)) (by decide) (fun K hK => ?_)
                      refine goes_ Tryd.func25 (by kernel_rfl) rfl #[.int .i64 a0_2] (by rfl) rfl rfl argsB ?_
                      with_reducible refine (spec_l1Num.calls k a0_2 t120 _ A6.out).mono ?_
                      rintro e w21 ⟨rfl, hb⟩
                      have HS5_ := (hb.cell (World.block_lt_of_cell? _ _ (hHeld.2.2.2.2.2))).trans (hHeld.2.2.2.2.2)
                      refine ⟨_, rfl, ?_⟩
                      have n0_ := Aside0.mk (Kd.R_below (upR HO118.out) hb)
                      have n1_ := Aside0.mk (blk_below (g := gb115) (o := .cells #[.int .i64 a0_0, .int .i64 a0_1, .int .i64 a0_2, .int .i64 a0_3, .int .i64 a0_4] 26 (0, 0)) (upK BK115.out) hb)
                      have n2_ := Aside0.mk (below_step (upB1 HB.out GE115.out) hb)
                      clear HO118
                      clear BK115
                      clear HB
                      have HO118 := n0_
                      have BK115 := n1_
                      have HB := n2_
                      clear n0_ n1_ n2_
                      (try clear hb)
                      (try clear hi)
                      refine hK.out _ _ ⟨(blk_cell BK115.out 0).trans rfl, (blk_cell BK115.out 1).trans rfl, (blk_cell BK115.out 2).trans rfl, (blk_cell BK115.out 3).trans rfl, (blk_cell BK115.out 4).trans rfl, HS5_⟩ (fun hHeld => ?_)
                      clear hK K
                      refine norm_ (a' := ?_) ?_ ?_
                      rotate_left
                      · show Act.put _ (some 11) _ = _
                        simp only [Act.put, List.setIfInBounds_toArray, List.set_cons_zero, List.set_cons_succ, i64_w, i32_w]
                        rfl
                      refine pure_ (i := 9) (N := some 12) (v := ?_) (a' := ?_) #[true, true, true, true, true, true, true, true, true, true, false, true, true, false, false, false, true, true, false, false, false, true, true, false, false, false] rfl rfl (any_of HT_.out (by kernel_rfl)) (fun _ _ _ h => h) (Or.inl ⟨by rfl, ?_⟩) ?_ ?_
                      rotate_left
                      · intro w'
                        go_simp
                        with_reducible rfl
                      rotate_left
                      · simp only [Act.put, List.setIfInBounds_toArray, List.set_cons_zero, List.set_cons_succ, i64_w, i32_w]
                        rfl
                      refine pure_ (i := 10) (N := some 13) (v := ?_) (a' := ?_) #[true, true, true, true, true, true, true, true, true, true, true, true, true, false, false, false, true, true, false, false, false, true, true, false, false, false] rfl rfl (any_of HT_.out (by kernel_rfl)) (fun _ _ _ h => h) (Or.inl ⟨by rfl, ?_⟩) ?_ ?_
                      rotate_left
                      · intro w'
                        go_simp
                        with_reducible rfl
                      rotate_left
                      · simp only [Act.put, List.setIfInBounds_toArray, List.set_cons_zero, List.set_cons_succ, i64_w, i32_w]
                        rfl
                      refine one_ (i := 13) (N := some 16) #[true, true, true, true, true, true, true, true, true, true, true, true, true, true, false, false, true, true, false, false, false, true, true, false, false, false] rfl rfl (one_of HT_.out (by kernel_rfl)) (by decide) (fun K hK => ?_)
                      refine goes_ Tryd.func25 (by kernel_rfl) rfl #[.int .i64 a0_1] (by rfl) rfl rfl argsB ?_
                      with_reducible refine (spec_l1Num.calls k a0_1 t121 _ A9.out).mono ?_
                      rintro e w22 ⟨rfl, hb⟩
                      have HS5_ := (hb.cell (World.block_lt_of_cell? _ _ (hHeld.2.2.2.2.2))).trans (hHeld.2.2.2.2.2)
                      refine ⟨_, rfl, ?_⟩
                      have n0_ := Aside0.mk (Kd.R_below (upR HO118.out) hb)
                      have n1_ := Aside0.mk (blk_below (g := gb115) (o := .cells #[.int .i64 a0_0, .int .i64 a0_1, .int .i64 a0_2, .int .i64 a0_3, .int .i64 a0_4] 26 (0, 0)) (upK BK115.out) hb)
                      have n2_ := Aside0.mk (below_step (upB1 HB.out GE115.out) hb)
                      clear HO118
                      clear BK115
                      clear HB
                      have HO118 := n0_
                      have BK115 := n1_
                      have HB := n2_
                      clear n0_ n1_ n2_
                      (try clear hb)
                      (try clear hi)
                      refine hK.out _ _ ⟨(blk_cell BK115.out 0).trans rfl, (blk_cell BK115.out 1).trans rfl, (blk_cell BK115.out 2).trans rfl, (blk_cell BK115.out 3).trans rfl, (blk_cell BK115.out 4).trans rfl, HS5_⟩ (fun hHeld => ?_)
                      clear hK K
                      refine norm_ (a' := ?_) ?_ ?_
                      rotate_left
                      · show Act.put _ (some 16) _ = _
                        simp only [Act.put, List.setIfInBounds_toArray, List.set_cons_zero, List.set_cons_succ, i64_w, i32_w]
                        rfl
                      refine pure_ (i := 14) (N := some 17) (v := ?_) (a' := ?_) #[true, true, true, true, true, true, true, true, true, true, true, true, true, true, true, false, true, true, false, false, false, true, true, false, false, false] rfl rfl (any_of HT_.out (by kernel_rfl)) (fun _ _ _ h => h) (Or.inl ⟨by rfl, ?_⟩) ?_ ?_
                      rotate_left
                      · intro w'
                        go_simp
                        with_reducible rfl
                      rotate_left
                      · simp only [Act.put, List.setIfInBounds_toArray, List.set_cons_zero, List.set_cons_succ, i64_w, i32_w]
                        rfl
                      refine pure_ (i := 15) (N := some 18) (v := ?_) (a' := ?_) #[true, true, true, true, true, true, true, true, true, true, true, true, true, true, true, true, true, true, false, false, false, true, true, false, false, false] rfl rfl (any_of HT_.out (by kernel_rfl)) (fun _ _ _ h => h) (Or.inl ⟨by rfl, ?_⟩) ?_ ?_
                      rotate_left
                      · intro w'
                        go_simp
                        with_reducible rfl
                      rotate_left
                      · simp only [Act.put, List.setIfInBounds_toArray, List.set_cons_zero, List.set_cons_succ, i64_w, i32_w]
                        rfl
                      refine one_ (i := 18) (N := some 21) #[true, true, true, true, true, true, true, true, true, true, true, true, true, true, true, true, true, true, true, false, false, true, true, false, false, false] rfl rfl (one_of HT_.out (by kernel_rfl)) (by decide) (fun K hK => ?_)
                      refine goes_ Tryd.func25 (by kernel_rfl) rfl #[.int .i64 a0_3] (by rfl) rfl rfl argsB ?_
                      with_reducible refine (spec_l1Num.calls k a0_3 t122 _ A12.out).mono ?_
                      rintro e w23 ⟨rfl, hb⟩
                      have HS5_ := (hb.cell (World.block_lt_of_cell? _ _ (hHeld.2.2.2.2.2))).trans (hHeld.2.2.2.2.2)
                      refine ⟨_, rfl, ?_⟩
                      have n0_ := Aside0.mk (Kd.R_below (upR HO118.out) hb)
                      have n1_ := Aside0.mk (blk_below (g := gb115) (o := .cells #[.int .i64 a0_0, .int .i64 a0_1, .int .i64 a0_2, .int .i64 a0_3, .int .i64 a0_4] 26 (0, 0)) (upK BK115.out) hb)
                      have n2_ := Aside0.mk (below_step (upB1 HB.out GE115.out) hb)
                      clear HO118
                      clear BK115
                      clear HB
                      have HO118 := n0_
                      have BK115 := n1_
                      have HB := n2_
                      clear n0_ n1_ n2_
                      (try clear hb)
                      (try clear hi)
                      refine hK.out _ _ ⟨(blk_cell BK115.out 0).trans rfl, (blk_cell BK115.out 1).trans rfl, (blk_cell BK115.out 2).trans rfl, (blk_cell BK115.out 3).trans rfl, (blk_cell BK115.out 4).trans rfl, HS5_⟩ (fun hHeld => ?_)
                      clear hK K
                      refine norm_ (a' := ?_) ?_ ?_
                      rotate_left
                      · show Act.put _ (some 21) _ = _
                        simp only [Act.put, List.setIfInBounds_toArray, List.set_cons_zero, List.set_cons_succ, i64_w, i32_w]
                        rfl
                      refine pure_ (i := 19) (N := some 22) (v := ?_) (a' := ?_) #[true, true, true, true, true, true, true, true, true, true, true, true, true, true, true, true, true, true, true, true, false, true, true, false, false, false] rfl rfl (any_of HT_.out (by kernel_rfl)) (fun _ _ _ h => h) (Or.inl ⟨by rfl, ?_⟩) ?_ ?_
                      rotate_left
                      · intro w'
                        go_simp
                        with_reducible rfl
                      rotate_left
                      · simp only [Act.put, List.setIfInBounds_toArray, List.set_cons_zero, List.set_cons_succ, i64_w, i32_w]
                        rfl
                      refine pure_ (i := 20) (N := some 23) (v := ?_) (a' := ?_) #[true, true, true, true, true, true, true, true, true, true, true, true, true, true, true, true, true, true, true, true, true, true, true, false, false, false] rfl rfl (any_of HT_.out (by kernel_rfl)) (fun _ _ _ h => h) (Or.inl ⟨by rfl, ?_⟩) ?_ ?_
                      rotate_left
                      · intro w'
                        go_simp
                        with_reducible rfl
                      rotate_left
                      · simp only [Act.put, List.setIfInBounds_toArray, List.set_cons_zero, List.set_cons_succ, i64_w, i32_w]
                        rfl
                      refine one_ (i := 23) (N := some 26) #[true, true, true, true, true, true, true, true, true, true, true, true, true, true, true, true, true, true, true, true, true, true, true, true, false, false] rfl rfl (one_of HT_.out (by kernel_rfl)) (by decide) (fun K hK => ?_)
                      refine goes_ Tryd.func25 (by kernel_rfl) rfl #[.int .i64 a0_4] (by rfl) rfl rfl argsB ?_
                      with_reducible refine (spec_l1Num.calls k a0_4 t123 _ A15.out).mono ?_
                      rintro e w24 ⟨rfl, hb⟩
                      have HS5_ := (hb.cell (World.block_lt_of_cell? _ _ (hHeld.2.2.2.2.2))).trans (hHeld.2.2.2.2.2)
                      refine ⟨_, rfl, ?_⟩
                      have n0_ := Aside0.mk (Kd.R_below (upR HO118.out) hb)
                      have n1_ := Aside0.mk (blk_below (g := gb115) (o := .cells #[.int .i64 a0_0, .int .i64 a0_1, .int .i64 a0_2, .int .i64 a0_3, .int .i64 a0_4] 26 (0, 0)) (upK BK115.out) hb)
                      have n2_ := Aside0.mk (below_step (upB1 HB.out GE115.out) hb)
                      clear HO118
                      clear BK115
                      clear HB
                      have HO118 := n0_
                      have BK115 := n1_
                      have HB := n2_
                      clear n0_ n1_ n2_
                      (try clear hb)
                      (try clear hi)
                      refine hK.out _ _ ⟨(blk_cell BK115.out 0).trans rfl, (blk_cell BK115.out 1).trans rfl, (blk_cell BK115.out 2).trans rfl, (blk_cell BK115.out 3).trans rfl, (blk_cell BK115.out 4).trans rfl, HS5_⟩ (fun hHeld => ?_)
                      clear hK K
                      refine norm_ (a' := ?_) ?_ ?_
                      rotate_left
                      · show Act.put _ (some 26) _ = _
                        simp only [Act.put, List.setIfInBounds_toArray, List.set_cons_zero, List.set_cons_succ, i64_w, i32_w]
                        rfl
                      refine pure_ (i := 24) (N := some 27) (v := ?_) (a' := ?_) #[true, true, true, true, true, true, true, true, true, true, true, true, true, true, true, true, true, true, true, true, true, true, true, true, true, false] rfl rfl (any_of HT_.out (by kernel_rfl)) (fun _ _ _ h => h) (Or.inl ⟨by rfl, ?_⟩) ?_ ?_
                      rotate_left
                      · intro w'
                        go_simp
                        with_reducible rfl
                      rotate_left
                      · simp only [Act.put, List.setIfInBounds_toArray, List.set_cons_zero, List.set_cons_succ, i64_w, i32_w]
                        rfl
                      refine pure_ (i := 25) (N := some 2) (v := ?_) (a' := ?_) #[true, true, true, true, true, true, true, true, true, true, true, true, true, true, true, true, true, true, true, true, true, true, true, true, true, true] rfl rfl (any_of HT_.out (by kernel_rfl)) (fun _ _ _ h => h) (Or.inl ⟨by rfl, ?_⟩) ?_ ?_
                      rotate_left
                      · intro w'
                        go_simp
                        with_reducible rfl
                      rotate_left
                      · simp only [Act.put, List.setIfInBounds_toArray, List.set_cons_zero, List.set_cons_succ, i64_w, i32_w]
                        rfl
                      refine done_ (done_of HT_.out (by kernel_rfl)) ?_
                      try go_wp2
                      go_ret
                      exact ⟨by first | rfl | (simp [errW_none, errW_some] <;> rfl) | (simp [*, errW_none, errW_some] <;> rfl), (upB1 HB.out GE115.out)⟩
                    · rw [if_neg c16] at H
                      exact absurd H (by simp)
                  · rw [if_neg c14] at H
                    exact absurd H (by simp)
                · rw [if_neg c13] at H
                  exact absurd H (by simp)
              · rw [if_neg c11] at H
                exact absurd H (by simp)
            · rw [if_neg c10] at H
              exact absurd H (by simp)
          · rw [if_neg c8] at H
            exact absurd H (by simp)
        · rw [if_neg c7] at H
          exact absurd H (by simp)
      · rw [if_neg c5] at H
        exact absurd H (by simp)
    · rw [if_neg c4] at H
      exact absurd H (by simp)
  · rw [if_neg c3] at H
    exact absurd H (by simp)

/-! ### spec_TripText: function 5 -/
def spec_TripText.f (k : Nat) (a0_0 : Int) (a0_1 : Int) (a0_2 : Int) (a0_3 : Int) (a0_4 : Int) : Option (ByteArray × Bool) := (spec_l21Good.f k a0_0 a0_1 a0_2 a0_3 a0_4).bind fun t125 => (if t125 = true then ((spec_l21Text.f k a0_0 a0_1 a0_2 a0_3 a0_4).bind fun t126 => (some (t126, true))) else (some ((⟨#[]⟩ : ByteArray), false)))
theorem spec_TripText.mono : ∀ a0 a1 a2 a3 a4 k, LeO (spec_TripText.f k a0 a1 a2 a3 a4) (spec_TripText.f (k + 1) a0 a1 a2 a3 a4) := by
  intro a0 a1 a2 a3 a4 k
  unfold spec_TripText.f
  repeat' first
      | (with_reducible exact spec_l21Good.mono _ _ _ _ _ _)
      | (with_reducible exact spec_l21Text.mono _ _ _ _ _ _)
      | (with_reducible exact LeO.refl _)
      | (with_reducible exact LeO.none _)
      | (with_reducible refine LeO.ite ?_ ?_)
      | (with_reducible refine LeO.bind ?_ (fun _ => ?_))
      | exact spec_l21Good.mono _ _ _ _ _ _
      | exact spec_l21Text.mono _ _ _ _ _ _
      | exact LeO.none _
      | refine LeO.ite ?_ ?_
      | refine LeO.bind ?_ (fun _ => ?_)
set_option maxHeartbeats 8000000 in
set_option maxRecDepth 100000 in
theorem spec_TripText.calls (k : Nat) (a0_0 : Int) (a0_1 : Int) (a0_2 : Int) (a0_3 : Int) (a0_4 : Int) (r1 : ByteArray) (r2 : Bool) (w : World) (h : spec_TripText.f k a0_0 a0_1 a0_2 a0_3 a0_4 = some (r1, r2)) :
    Calls Tryd.prog 5 #[.agg #[.int .i64 a0_0, .int .i64 a0_1, .int .i64 a0_2, .int .i64 a0_3, .int .i64 a0_4]] w fun e w' => e = .returned (.tuple #[.string r1, .bool r2]) ∧ Below w.heap.size w w' := by
  have hu26 := Tryd.underlying26
  have HB := Aside0.mk (Below.refl w.heap.size w)
  have H : ((spec_l21Good.f k a0_0 a0_1 a0_2 a0_3 a0_4).bind fun t125 => (if t125 = true then ((spec_l21Text.f k a0_0 a0_1 a0_2 a0_3 a0_4).bind fun t126 => (some (t126, true))) else (some ((⟨#[]⟩ : ByteArray), false)))) = some (r1, r2) := h
  clear h
  replace H := Option.bind_eq_some_iff.mp H
  obtain ⟨t125, A20, H⟩ := H
  replace H : (if t125 = true then ((spec_l21Text.f k a0_0 a0_1 a0_2 a0_3 a0_4).bind fun t126 => (some (t126, true))) else (some ((⟨#[]⟩ : ByteArray), false))) = some (r1, r2) := H
  have A2 := Aside0.mk A20
  clear A20
  by_cases c3 : t125 = true
  · subst c3
    have H1 : ((spec_l21Text.f k a0_0 a0_1 a0_2 a0_3 a0_4).bind fun t126 => (some (t126, true))) = some (r1, r2) := by rw [if_pos rfl] at H; exact H
    clear H
    have H := H1
    clear H1
    replace H := Option.bind_eq_some_iff.mp H
    obtain ⟨t126, A40, H⟩ := H
    replace H : (some (t126, true)) = some (r1, r2) := H
    have A4 := Aside0.mk A40
    clear A40
    simp only [Option.some.injEq, Prod.mk.injEq] at H
    obtain ⟨rfl, rfl⟩ := H
    go_enter Tryd.func5, Tryd.ntmps5
    go_wp2_with (first | ((with_reducible refine gate_dst (N := 1) rfl ?_); refine box_event ?hg (N := 1) ?hd (cs := #[.int .i64 a0_0, .int .i64 a0_1, .int .i64 a0_2, .int .i64 a0_3, .int .i64 a0_4]) (t := 26) ?hr ?_; (case hd => rfl); (case hg => rfl); (case hr => first | (go_simp; done) | (go_simp; rfl)); intro gb124 hg w5 hbox hb; have n0_ := Aside0.mk (below_step (upB HB.out) hb); have n1_ := Aside0.mk (hbox); have n2_ := Aside0.mk ((by rw [hg]; exact (below_size (upB HB.out)) : w.heap.size ≤ gb124)); have n3_ := Aside0.mk ((by rw [hg]; exact (below_size (upB HB.out)) : w.heap.size ≤ gb124)); clear HB; have HB := n0_; have BK124 := n1_; have GW124 := n2_; have GE124 := n3_; clear n0_ n1_ n2_ n3_; clear hb hbox hg; have hcz6_0 := ci BK124.out 0 a0_0 rfl; have hcz6_1 := ci BK124.out 1 a0_1 rfl; have hcz6_2 := ci BK124.out 2 a0_2 rfl; have hcz6_3 := ci BK124.out 3 a0_3 rfl; have hcz6_4 := ci BK124.out 4 a0_4 rfl; have hfz6_0 := fun j_ : Nat => blk_frozen BK124.out j_) | ((with_reducible refine gate_callee (f := 11) rfl ?_); refine goesL_ (some 5) rfl rfl Tryd.func11 (by kernel_rfl) rfl #[.agg #[.int .i64 a0_0, .int .i64 a0_1, .int .i64 a0_2, .int .i64 a0_3, .int .i64 a0_4]] rfl argsB ?_; (with_reducible refine (spec_l21Good.calls k a0_0 a0_1 a0_2 a0_3 a0_4 true _ A2.out).mono ?_); rintro e w7 ⟨rfl, hb⟩; refine ⟨_, rfl, ?_⟩; have n0_ := Aside0.mk (blk_below (g := gb124) (o := .cells #[.int .i64 a0_0, .int .i64 a0_1, .int .i64 a0_2, .int .i64 a0_3, .int .i64 a0_4] 26 (0, 0)) (upK BK124.out) hb); have n1_ := Aside0.mk (below_step (upB1 HB.out GE124.out) hb); clear BK124; clear HB; have BK124 := n0_; have HB := n1_; clear n0_ n1_; (try clear hb); have hcz8_0 := ci BK124.out 0 a0_0 rfl; have hcz8_1 := ci BK124.out 1 a0_1 rfl; have hcz8_2 := ci BK124.out 2 a0_2 rfl; have hcz8_3 := ci BK124.out 3 a0_3 rfl; have hcz8_4 := ci BK124.out 4 a0_4 rfl; have hfz8_0 := fun j_ : Nat => blk_frozen BK124.out j_) | ((with_reducible refine gate_callee (f := 12) rfl ?_); refine goesL_ (some 8) rfl rfl Tryd.func12 (by kernel_rfl) rfl #[.agg #[.int .i64 a0_0, .int .i64 a0_1, .int .i64 a0_2, .int .i64 a0_3, .int .i64 a0_4]] rfl argsB ?_; (with_reducible refine (spec_l21Text.calls k a0_0 a0_1 a0_2 a0_3 a0_4 t126 _ A4.out).mono ?_); rintro e w9 ⟨rfl, hb⟩; refine ⟨_, rfl, ?_⟩; have n0_ := Aside0.mk (blk_below (g := gb124) (o := .cells #[.int .i64 a0_0, .int .i64 a0_1, .int .i64 a0_2, .int .i64 a0_3, .int .i64 a0_4] 26 (0, 0)) (upK BK124.out) hb); have n1_ := Aside0.mk (below_step (upB1 HB.out GE124.out) hb); clear BK124; clear HB; have BK124 := n0_; have HB := n1_; clear n0_ n1_; (try clear hb)))
    go_ret2
    exact ⟨by first | rfl | (simp [errW_none, errW_some] <;> rfl) | (simp [*, errW_none, errW_some] <;> rfl), (upB1 HB.out GE124.out)⟩
  · replace c3 := Bool.eq_false_iff.mpr c3
    subst c3
    have H1 : (some ((⟨#[]⟩ : ByteArray), false)) = some (r1, r2) := by rw [if_neg (show ¬ (false = true) by decide)] at H; exact H
    clear H
    have H := H1
    clear H1
    simp only [Option.some.injEq, Prod.mk.injEq] at H
    obtain ⟨rfl, rfl⟩ := H
    go_enter Tryd.func5, Tryd.ntmps5
    go_wp2_with (first | ((with_reducible refine gate_dst (N := 1) rfl ?_); refine box_event ?hg (N := 1) ?hd (cs := #[.int .i64 a0_0, .int .i64 a0_1, .int .i64 a0_2, .int .i64 a0_3, .int .i64 a0_4]) (t := 26) ?hr ?_; (case hd => rfl); (case hg => rfl); (case hr => first | (go_simp; done) | (go_simp; rfl)); intro gb124 hg w10 hbox hb; have n0_ := Aside0.mk (below_step (upB HB.out) hb); have n1_ := Aside0.mk (hbox); have n2_ := Aside0.mk ((by rw [hg]; exact (below_size (upB HB.out)) : w.heap.size ≤ gb124)); have n3_ := Aside0.mk ((by rw [hg]; exact (below_size (upB HB.out)) : w.heap.size ≤ gb124)); clear HB; have HB := n0_; have BK124 := n1_; have GW124 := n2_; have GE124 := n3_; clear n0_ n1_ n2_ n3_; clear hb hbox hg; have hcz11_0 := ci BK124.out 0 a0_0 rfl; have hcz11_1 := ci BK124.out 1 a0_1 rfl; have hcz11_2 := ci BK124.out 2 a0_2 rfl; have hcz11_3 := ci BK124.out 3 a0_3 rfl; have hcz11_4 := ci BK124.out 4 a0_4 rfl; have hfz11_0 := fun j_ : Nat => blk_frozen BK124.out j_) | ((with_reducible refine gate_callee (f := 11) rfl ?_); refine goesL_ (some 5) rfl rfl Tryd.func11 (by kernel_rfl) rfl #[.agg #[.int .i64 a0_0, .int .i64 a0_1, .int .i64 a0_2, .int .i64 a0_3, .int .i64 a0_4]] rfl argsB ?_; (with_reducible refine (spec_l21Good.calls k a0_0 a0_1 a0_2 a0_3 a0_4 false _ A2.out).mono ?_); rintro e w12 ⟨rfl, hb⟩; refine ⟨_, rfl, ?_⟩; have n0_ := Aside0.mk (blk_below (g := gb124) (o := .cells #[.int .i64 a0_0, .int .i64 a0_1, .int .i64 a0_2, .int .i64 a0_3, .int .i64 a0_4] 26 (0, 0)) (upK BK124.out) hb); have n1_ := Aside0.mk (below_step (upB1 HB.out GE124.out) hb); clear BK124; clear HB; have BK124 := n0_; have HB := n1_; clear n0_ n1_; (try clear hb)))
    go_ret2
    exact ⟨by first | rfl | (simp [errW_none, errW_some] <;> rfl) | (simp [*, errW_none, errW_some] <;> rfl), (upB1 HB.out GE124.out)⟩

/-! ### laws_toTrip: function 6 -/
def laws_toTrip.f (a0_0 : Int) (a0_1 : Int) (a0_2 : Int) (a0_3 : Int) (a0_4 : Int) : Option (Int × Int × Int × Int × Int) := some (a0_0, a0_1, a0_2, a0_3, a0_4)
set_option maxHeartbeats 8000000 in
set_option maxRecDepth 100000 in
theorem laws_toTrip.calls (a0_0 : Int) (a0_1 : Int) (a0_2 : Int) (a0_3 : Int) (a0_4 : Int) (r1 : Int) (r2 : Int) (r3 : Int) (r4 : Int) (r5 : Int) (w : World) (h : laws_toTrip.f a0_0 a0_1 a0_2 a0_3 a0_4 = some (r1, r2, r3, r4, r5)) :
    Calls Tryd.prog 6 #[.agg #[.int .i64 a0_0, .int .i64 a0_1, .int .i64 a0_2, .int .i64 a0_3, .int .i64 a0_4]] w fun e w' => e = .returned (.agg #[.int .i64 r1, .int .i64 r2, .int .i64 r3, .int .i64 r4, .int .i64 r5]) ∧ Below w.heap.size w w' := by
  have hu23 := Tryd.underlying23
  have hu26 := Tryd.underlying26
  have HB := Aside0.mk (Below.refl w.heap.size w)
  have H : (some (a0_0, a0_1, a0_2, a0_3, a0_4)) = some (r1, r2, r3, r4, r5) := h
  clear h
  simp only [Option.some.injEq, Prod.mk.injEq] at H
  obtain ⟨rfl, rfl, rfl, rfl, rfl⟩ := H
  go_enter Tryd.func6, Tryd.ntmps6
  go_wp2_with (first | ((with_reducible refine gate_dst (N := 1) rfl ?_); refine box_event ?hg (N := 1) ?hd (cs := #[.int .i64 a0_0, .int .i64 a0_1, .int .i64 a0_2, .int .i64 a0_3, .int .i64 a0_4]) (t := 23) ?hr ?_; (case hd => rfl); (case hg => rfl); (case hr => first | (go_simp; done) | (go_simp; rfl)); intro gb127 hg w2 hbox hb; have n0_ := Aside0.mk (below_step (upB HB.out) hb); have n1_ := Aside0.mk (hbox); have n2_ := Aside0.mk ((by rw [hg]; exact (below_size (upB HB.out)) : w.heap.size ≤ gb127)); have n3_ := Aside0.mk ((by rw [hg]; exact (below_size (upB HB.out)) : w.heap.size ≤ gb127)); clear HB; have HB := n0_; have BK127 := n1_; have GW127 := n2_; have GE127 := n3_; clear n0_ n1_ n2_ n3_; clear hb hbox hg) | ((with_reducible refine gate_dst (N := 2) rfl ?_); refine box_event ?hg (N := 2) ?hd (cs := #[.int .i64 0, .int .i64 0, .int .i64 0, .int .i64 0, .int .i64 0]) (t := 26) ?hr ?_; (case hd => rfl); (case hg => rfl); (case hr => first | (go_simp; done) | (go_simp; rfl)); intro gb128 hg w3 hbox hb; have n0_ := Aside0.mk (blk_below (g := gb127) (o := .cells #[.int .i64 a0_0, .int .i64 a0_1, .int .i64 a0_2, .int .i64 a0_3, .int .i64 a0_4] 23 (0, 0)) (upK BK127.out) hb); have n1_ := Aside0.mk (below_step (upB1 HB.out GE127.out) hb); have n2_ := Aside0.mk (hbox); have n3_ := Aside0.mk ((by rw [hg]; exact (below_size (upB1 HB.out GE127.out)) : w.heap.size ≤ gb128)); have n4_ := Aside0.mk ((by rw [hg]; exact (below_size (upB1 HB.out GE127.out)) : w.heap.size ≤ gb128)); have n5_ := Aside0.mk ((by rw [hg]; exact Nat.ne_of_lt (blk_lt (g := gb127) (o := .cells #[.int .i64 a0_0, .int .i64 a0_1, .int .i64 a0_2, .int .i64 a0_3, .int .i64 a0_4] 23 (0, 0)) (upK BK127.out)) : gb127 ≠ gb128)); have n6_ := Aside0.mk ((by rw [hg]; exact Nat.ne_of_gt (blk_lt (g := gb127) (o := .cells #[.int .i64 a0_0, .int .i64 a0_1, .int .i64 a0_2, .int .i64 a0_3, .int .i64 a0_4] 23 (0, 0)) (upK BK127.out)) : gb128 ≠ gb127)); clear BK127; clear HB; have BK127 := n0_; have HB := n1_; have BK128 := n2_; have GW128 := n3_; have GE128 := n4_; have NB127_128 := n5_; have NB128_127 := n6_; clear n0_ n1_ n2_ n3_ n4_ n5_ n6_; clear hb hbox hg) | ((with_reducible refine gate_dst (N := 3) rfl ?_); refine box_event ?hg (N := 3) ?hd (cs := #[.int .i64 0, .int .i64 0, .int .i64 0, .int .i64 0, .int .i64 0]) (t := 26) ?hr ?_; (case hd => rfl); (case hg => rfl); (case hr => first | (go_simp; done) | (go_simp; rfl)); intro gb129 hg w4 hbox hb; have n0_ := Aside0.mk (blk_below (g := gb127) (o := .cells #[.int .i64 a0_0, .int .i64 a0_1, .int .i64 a0_2, .int .i64 a0_3, .int .i64 a0_4] 23 (0, 0)) (upK BK127.out) hb); have n1_ := Aside0.mk (blk_below (g := gb128) (o := .cells #[.int .i64 0, .int .i64 0, .int .i64 0, .int .i64 0, .int .i64 0] 26 (0, 0)) (upK BK128.out) hb); have n2_ := Aside0.mk (below_step (upB2 HB.out GE127.out GE128.out) hb); have n3_ := Aside0.mk (hbox); have n4_ := Aside0.mk ((by rw [hg]; exact (below_size (upB2 HB.out GE127.out GE128.out)) : w.heap.size ≤ gb129)); have n5_ := Aside0.mk ((by rw [hg]; exact (below_size (upB2 HB.out GE127.out GE128.out)) : w.heap.size ≤ gb129)); have n6_ := Aside0.mk ((by rw [hg]; exact Nat.ne_of_lt (blk_lt (g := gb127) (o := .cells #[.int .i64 a0_0, .int .i64 a0_1, .int .i64 a0_2, .int .i64 a0_3, .int .i64 a0_4] 23 (0, 0)) (upK BK127.out)) : gb127 ≠ gb129)); have n7_ := Aside0.mk ((by rw [hg]; exact Nat.ne_of_gt (blk_lt (g := gb127) (o := .cells #[.int .i64 a0_0, .int .i64 a0_1, .int .i64 a0_2, .int .i64 a0_3, .int .i64 a0_4] 23 (0, 0)) (upK BK127.out)) : gb129 ≠ gb127)); have n8_ := Aside0.mk ((by rw [hg]; exact Nat.ne_of_lt (blk_lt (g := gb128) (o := .cells #[.int .i64 0, .int .i64 0, .int .i64 0, .int .i64 0, .int .i64 0] 26 (0, 0)) (upK BK128.out)) : gb128 ≠ gb129)); have n9_ := Aside0.mk ((by rw [hg]; exact Nat.ne_of_gt (blk_lt (g := gb128) (o := .cells #[.int .i64 0, .int .i64 0, .int .i64 0, .int .i64 0, .int .i64 0] 26 (0, 0)) (upK BK128.out)) : gb129 ≠ gb128)); clear BK127; clear BK128; clear HB; have BK127 := n0_; have BK128 := n1_; have HB := n2_; have BK129 := n3_; have GW129 := n4_; have GE129 := n5_; have NB127_129 := n6_; have NB129_127 := n7_; have NB128_129 := n8_; have NB129_128 := n9_; clear n0_ n1_ n2_ n3_ n4_ n5_ n6_ n7_ n8_ n9_; clear hb hbox hg; have hnb5 := NB127_128.out; have hnc5 := NB128_127.out; have hnb6 := NB127_129.out; have hnc6 := NB129_127.out; have hcz7_0 := ci BK127.out 0 a0_0 rfl; have hcz7_1 := ci BK127.out 1 a0_1 rfl; have hcz7_2 := ci BK127.out 2 a0_2 rfl; have hcz7_3 := ci BK127.out 3 a0_3 rfl; have hcz7_4 := ci BK127.out 4 a0_4 rfl; have hfz7_0 := fun j_ : Nat => blk_frozen BK127.out j_; have hnb8 := NB129_128.out; have hnc8 := NB128_129.out; have hcz9_0 := ci BK129.out 0 0 rfl; have hcz9_1 := ci BK129.out 1 0 rfl; have hcz9_2 := ci BK129.out 2 0 rfl; have hcz9_3 := ci BK129.out 3 0 rfl; have hcz9_4 := ci BK129.out 4 0 rfl; have hfz9_0 := fun j_ : Nat => blk_frozen BK129.out j_; have hcz10_0 := ci BK128.out 0 0 rfl; have hcz10_1 := ci BK128.out 1 0 rfl; have hcz10_2 := ci BK128.out 2 0 rfl; have hcz10_3 := ci BK128.out 3 0 rfl; have hcz10_4 := ci BK128.out 4 0 rfl; have hfz10_0 := fun j_ : Nat => blk_frozen BK128.out j_))
  refine bodyPost_ret (results_cell_row rfl _ _ gb128 26 #[.int .i64 a0_0, .int .i64 a0_1, .int .i64 a0_2, .int .i64 a0_3, .int .i64 a0_4] (0, 0) _ rfl (by (with_reducible repeat (first | refine blk_drewN ?_ _ | refine blk_drew ?_ | refine blk_alloc ?_ _)); refine blk_put (cs := #[.int .i64 a0_0, .int .i64 a0_1, .int .i64 a0_2, .int .i64 a0_3, .int .i64 0]) ?_ 4 _ rfl; (with_reducible repeat (first | refine blk_drewN ?_ _ | refine blk_drew ?_ | refine blk_alloc ?_ _)); refine blk_put (cs := #[.int .i64 a0_0, .int .i64 a0_1, .int .i64 a0_2, .int .i64 0, .int .i64 0]) ?_ 3 _ rfl; (with_reducible repeat (first | refine blk_drewN ?_ _ | refine blk_drew ?_ | refine blk_alloc ?_ _)); refine blk_put (cs := #[.int .i64 a0_0, .int .i64 a0_1, .int .i64 0, .int .i64 0, .int .i64 0]) ?_ 2 _ rfl; (with_reducible repeat (first | refine blk_drewN ?_ _ | refine blk_drew ?_ | refine blk_alloc ?_ _)); refine blk_put (cs := #[.int .i64 a0_0, .int .i64 0, .int .i64 0, .int .i64 0, .int .i64 0]) ?_ 1 _ rfl; (with_reducible repeat (first | refine blk_drewN ?_ _ | refine blk_drew ?_ | refine blk_alloc ?_ _)); refine blk_put (cs := #[.int .i64 0, .int .i64 0, .int .i64 0, .int .i64 0, .int .i64 0]) ?_ 0 _ rfl; (with_reducible repeat (first | refine blk_drewN ?_ _ | refine blk_drew ?_ | refine blk_alloc ?_ _)); refine blk_far ?_ NB128_129.out _; (with_reducible repeat (first | refine blk_drewN ?_ _ | refine blk_drew ?_ | refine blk_alloc ?_ _)); refine blk_far ?_ NB128_129.out _; (with_reducible repeat (first | refine blk_drewN ?_ _ | refine blk_drew ?_ | refine blk_alloc ?_ _)); refine blk_far ?_ NB128_129.out _; (with_reducible repeat (first | refine blk_drewN ?_ _ | refine blk_drew ?_ | refine blk_alloc ?_ _)); refine blk_far ?_ NB128_129.out _; (with_reducible repeat (first | refine blk_drewN ?_ _ | refine blk_drew ?_ | refine blk_alloc ?_ _)); refine blk_far ?_ NB128_129.out _; (with_reducible repeat (first | refine blk_drewN ?_ _ | refine blk_drew ?_ | refine blk_alloc ?_ _)); exact BK128.out) Tryd.underlying26 rfl (by kernel_rfl)) rfl ?_
  exact ⟨by first | rfl | (simp [errW_none, errW_some] <;> rfl) | (simp [*, errW_none, errW_some] <;> rfl), (upB3 HB.out GE127.out GE128.out GE129.out)⟩

/-! ### impl_within: function 26 -/
def impl_within.f (a0 : Int) (a1 : Int) (a2 : Int) : Option (Bool) := if a0 ≥ a1 then (some (decide (a0 ≤ a2))) else (some false)
set_option maxHeartbeats 8000000 in
set_option maxRecDepth 100000 in
theorem impl_within.calls (a0 : Int) (a1 : Int) (a2 : Int) (r : Bool) (w : World) (h : impl_within.f a0 a1 a2 = some r) :
    Calls Tryd.prog 26 #[.int .i64 a0, .int .i64 a1, .int .i64 a2] w fun e w' => e = .returned (.bool r) ∧ Drawn0 w w' := by
  have H : (if a0 ≥ a1 then (some (decide (a0 ≤ a2))) else (some false)) = some r := h
  clear h
  by_cases c4 : a0 ≥ a1
  · rw [if_pos c4] at H
    have c4b0 : decide (a1 ≤ a0) = true := decide_eq_true c4
    clear c4
    obtain rfl := Option.some.inj H
    go_enter Tryd.func26, Tryd.ntmps26
    go_wp2
    go_ret
    exact ⟨by first | rfl | (simp; done) | (simp [*]; done), by repeat (first | exact Drawn0.refl _ | apply Drawn0.step)⟩
  · rw [if_neg c4] at H
    have c4b0 : decide (a1 ≤ a0) = false := decide_eq_false c4
    clear c4
    obtain rfl := Option.some.inj H
    go_enter Tryd.func26, Tryd.ntmps26
    go_wp2
    go_ret
    exact ⟨by first | rfl | (simp; done) | (simp [*]; done), by repeat (first | exact Drawn0.refl _ | apply Drawn0.step)⟩

/-! ### impl_isTime: function 27 -/
def impl_isTime.f (a0 : Int) : Option (Bool) := (impl_within.f a0 0 999).bind fun t130 => (some t130)
set_option maxHeartbeats 8000000 in
set_option maxRecDepth 100000 in
theorem impl_isTime.calls (a0 : Int) (r : Bool) (w : World) (h : impl_isTime.f a0 = some r) :
    Calls Tryd.prog 27 #[.int .i64 a0] w fun e w' => e = .returned (.bool r) ∧ Drawn0 w w' := by
  have H : ((impl_within.f a0 0 999).bind fun t130 => (some t130)) = some r := h
  clear h
  replace H := Option.bind_eq_some_iff.mp H
  obtain ⟨t130, A20, H⟩ := H
  replace H : (some t130) = some r := H
  have A2 := Aside0.mk A20
  clear A20
  obtain rfl := Option.some.inj H
  go_enter Tryd.func27, Tryd.ntmps27
  go_wp2_with (first | ((with_reducible refine gate_callee (f := 26) rfl ?_); refine goesL_ (some 4) rfl rfl Tryd.func26 (by kernel_rfl) rfl #[.int .i64 a0, .int .i64 0, .int .i64 999] rfl argsB ?_; (with_reducible refine (impl_within.calls a0 0 999 t130 _ A2.out).mono ?_); rintro e w' ⟨rfl, ⟨nd, rfl⟩⟩; refine ⟨_, rfl, ?_⟩))
  go_ret
  exact ⟨by first | rfl | (simp; done) | (simp [*]; done), by repeat (first | exact Drawn0.refl _ | apply Drawn0.step)⟩

end Go.Proofs.YtmeaacbnjpgepaaDoor.QFnExactTripText
