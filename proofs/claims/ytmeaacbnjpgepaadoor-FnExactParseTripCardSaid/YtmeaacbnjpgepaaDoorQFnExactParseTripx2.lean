/- Contracts of Go functions that FnExactParseTrip reaches: the call computes what the plain function says. No condition. -/
import Derived.Test.YtmeaacbnjpgepaaDoorQFnExactParseTripx0
import Derived.Test.YtmeaacbnjpgepaaDoorQFnExactParseTripx1
namespace Go.Proofs.YtmeaacbnjpgepaaDoor.QFnExactParseTrip
open Go.RowKit Go.Proofs.YtmeaacbnjpgepaaDoorW.PrintWords Go.Proofs.YtmeaacbnjpgepaaDoorW.PrintLast Go.Proofs.YtmeaacbnjpgepaaDoorW.PrintMore
attribute [local go_sem] max2_int min2_int max_two min_two max_three min_three max_four min_four   -- for this text's walks alone
set_option linter.unusedVariables false
set_option linter.unusedSimpArgs false

/-! ### spec_l21Text: function 12 -/
theorem more_ {P : Program} {md : Region.Mode} {ops : Array Oper} {Q : Exit → Act → World → Prop} {S S' : World → Prop} {fuel : Nat} {l : Array Bool} {a : Act} {w : World} (h1 : ∀ w, S' w → S w) (hS : S' w) (h : S' w → wpAnyLast P md ops Q S' [] fuel l a w) : wpAnyLast P md ops Q S [] fuel l a w := by
  have key : ∀ (fuel : Nat) (l : Array Bool) (a : Act) (w : World), S' w → wpAnyLast P md ops Q S' [] fuel l a w → wpAnyLast P md ops Q S [] fuel l a w := by
    intro fuel
    induction fuel with
    | zero => exact fun _ _ _ _ h => h
    | succ n ih => exact fun l a w hS h => ⟨h.1, fun i hi => wpOp_mono (fun a' w' h' => ⟨fun hn _ => h1 w' (h'.1 hn hS), ih _ _ _ (h'.1 (by simp) hS) h'.2⟩) (h.2 i hi)⟩
  exact key fuel l a w hS (h hS)
def spec_l21Text.f (k : Nat) (a0_0 : Int) (a0_1 : Int) (a0_2 : Int) (a0_3 : Int) (a0_4 : Int) : Option (ByteArray) := (spec_l21Words.f).bind fun t116 => (if 0 ≤ a0_0 then (if a0_0 < (t116.length : Int) then (if (rdOf ByteArray.empty t116 a0_0).size + 1 ≤ 9223372036854775807 then ((spec_l1Num.f k a0_2).bind fun t120 => (if ((rdOf ByteArray.empty t116 a0_0) ++ (⟨#[32]⟩ : ByteArray)).size + t120.size ≤ 9223372036854775807 then (if (((rdOf ByteArray.empty t116 a0_0) ++ (⟨#[32]⟩ : ByteArray)) ++ t120).size + 1 ≤ 9223372036854775807 then ((spec_l1Num.f k a0_1).bind fun t121 => (if ((((rdOf ByteArray.empty t116 a0_0) ++ (⟨#[32]⟩ : ByteArray)) ++ t120) ++ (⟨#[47]⟩ : ByteArray)).size + t121.size ≤ 9223372036854775807 then (if (((((rdOf ByteArray.empty t116 a0_0) ++ (⟨#[32]⟩ : ByteArray)) ++ t120) ++ (⟨#[47]⟩ : ByteArray)) ++ t121).size + 5 ≤ 9223372036854775807 then ((spec_l1Num.f k a0_3).bind fun t122 => (if ((((((rdOf ByteArray.empty t116 a0_0) ++ (⟨#[32]⟩ : ByteArray)) ++ t120) ++ (⟨#[47]⟩ : ByteArray)) ++ t121) ++ (⟨#[32, 100, 117, 101, 32]⟩ : ByteArray)).size + t122.size ≤ 9223372036854775807 then (if (((((((rdOf ByteArray.empty t116 a0_0) ++ (⟨#[32]⟩ : ByteArray)) ++ t120) ++ (⟨#[47]⟩ : ByteArray)) ++ t121) ++ (⟨#[32, 100, 117, 101, 32]⟩ : ByteArray)) ++ t122).size + 4 ≤ 9223372036854775807 then ((spec_l1Num.f k a0_4).bind fun t123 => (if ((((((((rdOf ByteArray.empty t116 a0_0) ++ (⟨#[32]⟩ : ByteArray)) ++ t120) ++ (⟨#[47]⟩ : ByteArray)) ++ t121) ++ (⟨#[32, 100, 117, 101, 32]⟩ : ByteArray)) ++ t122) ++ (⟨#[32, 97, 116, 32]⟩ : ByteArray)).size + t123.size ≤ 9223372036854775807 then (some (((((((((rdOf ByteArray.empty t116 a0_0) ++ (⟨#[32]⟩ : ByteArray)) ++ t120) ++ (⟨#[47]⟩ : ByteArray)) ++ t121) ++ (⟨#[32, 100, 117, 101, 32]⟩ : ByteArray)) ++ t122) ++ (⟨#[32, 97, 116, 32]⟩ : ByteArray)) ++ t123)) else (none))) else (none)) else (none))) else (none)) else (none))) else (none)) else (none))) else (none)) else (none)) else (none))
theorem spec_l21Text.mono : ∀ a0 a1 a2 a3 a4 k, LeO (spec_l21Text.f k a0 a1 a2 a3 a4) (spec_l21Text.f (k + 1) a0 a1 a2 a3 a4) := by
  intro a0 a1 a2 a3 a4 k
  unfold spec_l21Text.f
  repeat' first
      | (with_reducible exact spec_l1Num.mono _ _)
      | (with_reducible exact LeO.refl _)
      | (with_reducible exact LeO.none _)
      | (with_reducible refine LeO.ite ?_ ?_)
      | (with_reducible refine LeO.bind ?_ (fun _ => ?_))
      | exact spec_l1Num.mono _ _
      | exact LeO.none _
      | refine LeO.ite ?_ ?_
      | refine LeO.bind ?_ (fun _ => ?_)
def spec_l21Text.T1 : Bool × List (List Nat × List Nat) := (true, [([], []), ([], []), ([1], [1]), ([0, 2], [0, 2]), ([3], [3]), ([4], [4]), ([], []), ([6], [6]), ([7, 0], [7]), ([5, 8], [5, 8]), ([9], [9]), ([], []), ([11], [11]), ([12, 8], [12]), ([10, 13], [10, 13]), ([14], [14]), ([], []), ([16], [16]), ([17, 13], [17]), ([15, 18], [15, 18]), ([19], [19]), ([], []), ([21], [21]), ([22, 18], [22]), ([20, 23], [20, 23]), ([24, 23, 0, 1, 2, 3, 4, 5, 6, 7, 8, 9, 10, 11, 12, 13, 14, 15, 16, 17, 18, 19, 20, 21, 22, 23, 24], [24])])
def spec_l21Text.B1 : List Nat := [0, 0, 2, 7, 15, 31, 0, 64, 193, 511, 1023, 0, 2048, 6593, 16383, 32767, 0, 65536, 211393, 524287, 1048575, 0, 2097152, 6764993, 16777215, 33554431]
theorem spec_l21Text.tab1 : rtab .any (opsOf Tryd.f12 1) = spec_l21Text.T1 := by kernel_rfl
theorem spec_l21Text.bits1 : waitsOk spec_l21Text.T1.2 spec_l21Text.B1 = true := by kernel_rfl
set_option maxHeartbeats 8000000 in
set_option maxRecDepth 100000 in
theorem spec_l21Text.calls (k : Nat) (a0_0 : Int) (a0_1 : Int) (a0_2 : Int) (a0_3 : Int) (a0_4 : Int) (r : ByteArray) (w : World) (h : spec_l21Text.f k a0_0 a0_1 a0_2 a0_3 a0_4 = some r) :
    Calls Tryd.prog 12 #[.agg #[.int .i64 a0_0, .int .i64 a0_1, .int .i64 a0_2, .int .i64 a0_3, .int .i64 a0_4]] w fun e w' => e = .returned (.string r) ∧ Below w.heap.size w w' := by
  have hu26 := Tryd.underlying26
  have HB := Aside0.mk (Below.refl w.heap.size w)
  have H : ((spec_l21Words.f).bind fun t116 => (if 0 ≤ a0_0 then (if a0_0 < (t116.length : Int) then (if (rdOf ByteArray.empty t116 a0_0).size + 1 ≤ 9223372036854775807 then ((spec_l1Num.f k a0_2).bind fun t120 => (if ((rdOf ByteArray.empty t116 a0_0) ++ (⟨#[32]⟩ : ByteArray)).size + t120.size ≤ 9223372036854775807 then (if (((rdOf ByteArray.empty t116 a0_0) ++ (⟨#[32]⟩ : ByteArray)) ++ t120).size + 1 ≤ 9223372036854775807 then ((spec_l1Num.f k a0_1).bind fun t121 => (if ((((rdOf ByteArray.empty t116 a0_0) ++ (⟨#[32]⟩ : ByteArray)) ++ t120) ++ (⟨#[47]⟩ : ByteArray)).size + t121.size ≤ 9223372036854775807 then (if (((((rdOf ByteArray.empty t116 a0_0) ++ (⟨#[32]⟩ : ByteArray)) ++ t120) ++ (⟨#[47]⟩ : ByteArray)) ++ t121).size + 5 ≤ 9223372036854775807 then ((spec_l1Num.f k a0_3).bind fun t122 => (if ((((((rdOf ByteArray.empty t116 a0_0) ++ (⟨#[32]⟩ : ByteArray)) ++ t120) ++ (⟨#[47]⟩ : ByteArray)) ++ t121) ++ (⟨#[32, 100, 117, 101, 32]⟩ : ByteArray)).size + t122.size ≤ 9223372036854775807 then (if (((((((rdOf ByteArray.empty t116 a0_0) ++ (⟨#[32]⟩ : ByteArray)) ++ t120) ++ (⟨#[47]⟩ : ByteArray)) ++ t121) ++ (⟨#[32, 100, 117, 101, 32]⟩ : ByteArray)) ++ t122).size + 4 ≤ 9223372036854775807 then ((spec_l1Num.f k a0_4).bind fun t123 => (if ((((((((rdOf ByteArray.empty t116 a0_0) ++ (⟨#[32]⟩ : ByteArray)) ++ t120) ++ (⟨#[47]⟩ : ByteArray)) ++ t121) ++ (⟨#[32, 100, 117, 101, 32]⟩ : ByteArray)) ++ t122) ++ (⟨#[32, 97, 116, 32]⟩ : ByteArray)).size + t123.size ≤ 9223372036854775807 then (some (((((((((rdOf ByteArray.empty t116 a0_0) ++ (⟨#[32]⟩ : ByteArray)) ++ t120) ++ (⟨#[47]⟩ : ByteArray)) ++ t121) ++ (⟨#[32, 100, 117, 101, 32]⟩ : ByteArray)) ++ t122) ++ (⟨#[32, 97, 116, 32]⟩ : ByteArray)) ++ t123)) else (none))) else (none)) else (none))) else (none)) else (none))) else (none)) else (none))) else (none)) else (none)) else (none))) = some r := h
  clear h
  replace H := Option.bind_eq_some_iff.mp H
  obtain ⟨t116, A20, H⟩ := H
  replace H : (if 0 ≤ a0_0 then (if a0_0 < (t116.length : Int) then (if (rdOf ByteArray.empty t116 a0_0).size + 1 ≤ 9223372036854775807 then ((spec_l1Num.f k a0_2).bind fun t120 => (if ((rdOf ByteArray.empty t116 a0_0) ++ (⟨#[32]⟩ : ByteArray)).size + t120.size ≤ 9223372036854775807 then (if (((rdOf ByteArray.empty t116 a0_0) ++ (⟨#[32]⟩ : ByteArray)) ++ t120).size + 1 ≤ 9223372036854775807 then ((spec_l1Num.f k a0_1).bind fun t121 => (if ((((rdOf ByteArray.empty t116 a0_0) ++ (⟨#[32]⟩ : ByteArray)) ++ t120) ++ (⟨#[47]⟩ : ByteArray)).size + t121.size ≤ 9223372036854775807 then (if (((((rdOf ByteArray.empty t116 a0_0) ++ (⟨#[32]⟩ : ByteArray)) ++ t120) ++ (⟨#[47]⟩ : ByteArray)) ++ t121).size + 5 ≤ 9223372036854775807 then ((spec_l1Num.f k a0_3).bind fun t122 => (if ((((((rdOf ByteArray.empty t116 a0_0) ++ (⟨#[32]⟩ : ByteArray)) ++ t120) ++ (⟨#[47]⟩ : ByteArray)) ++ t121) ++ (⟨#[32, 100, 117, 101, 32]⟩ : ByteArray)).size + t122.size ≤ 9223372036854775807 then (if (((((((rdOf ByteArray.empty t116 a0_0) ++ (⟨#[32]⟩ : ByteArray)) ++ t120) ++ (⟨#[47]⟩ : ByteArray)) ++ t121) ++ (⟨#[32, 100, 117, 101, 32]⟩ : ByteArray)) ++ t122).size + 4 ≤ 9223372036854775807 then ((spec_l1Num.f k a0_4).bind fun t123 => (if ((((((((rdOf ByteArray.empty t116 a0_0) ++ (⟨#[32]⟩ : ByteArray)) ++ t120) ++ (⟨#[47]⟩ : ByteArray)) ++ t121) ++ (⟨#[32, 100, 117, 101, 32]⟩ : ByteArray)) ++ t122) ++ (⟨#[32, 97, 116, 32]⟩ : ByteArray)).size + t123.size ≤ 9223372036854775807 then (some (((((((((rdOf ByteArray.empty t116 a0_0) ++ (⟨#[32]⟩ : ByteArray)) ++ t120) ++ (⟨#[47]⟩ : ByteArray)) ++ t121) ++ (⟨#[32, 100, 117, 101, 32]⟩ : ByteArray)) ++ t122) ++ (⟨#[32, 97, 116, 32]⟩ : ByteArray)) ++ t123)) else (none))) else (none)) else (none))) else (none)) else (none))) else (none)) else (none))) else (none)) else (none)) else (none)) = some r := H
  have A2 := Aside0.mk A20
  clear A20
  by_cases c3 : 0 ≤ a0_0
  · rw [if_pos c3] at H
    have c3b0 : decide (0 ≤ a0_0) = true := decide_eq_true c3
    clear c3
    by_cases c4 : a0_0 < (t116.length : Int)
    · rw [if_pos c4] at H
      have c4b0 : decide (a0_0 < (t116.length : Int)) = true := decide_eq_true c4
      clear c4
      by_cases c5 : (rdOf ByteArray.empty t116 a0_0).size + 1 ≤ 9223372036854775807
      · rw [if_pos c5] at H
        have c5b0 := eq_true c5
        have c5b1 : decide ((rdOf ByteArray.empty t116 a0_0).size + 1 ≤ 9223372036854775807) = true := decide_eq_true c5
        try have c5b2 : (9223372036854775807 < (rdOf ByteArray.empty t116 a0_0).size + 1) = False := eq_false (Nat.not_lt.2 c5)
        replace H := Option.bind_eq_some_iff.mp H
        obtain ⟨t120, A60, H⟩ := H
        replace H : (if ((rdOf ByteArray.empty t116 a0_0) ++ (⟨#[32]⟩ : ByteArray)).size + t120.size ≤ 9223372036854775807 then (if (((rdOf ByteArray.empty t116 a0_0) ++ (⟨#[32]⟩ : ByteArray)) ++ t120).size + 1 ≤ 9223372036854775807 then ((spec_l1Num.f k a0_1).bind fun t121 => (if ((((rdOf ByteArray.empty t116 a0_0) ++ (⟨#[32]⟩ : ByteArray)) ++ t120) ++ (⟨#[47]⟩ : ByteArray)).size + t121.size ≤ 9223372036854775807 then (if (((((rdOf ByteArray.empty t116 a0_0) ++ (⟨#[32]⟩ : ByteArray)) ++ t120) ++ (⟨#[47]⟩ : ByteArray)) ++ t121).size + 5 ≤ 9223372036854775807 then ((spec_l1Num.f k a0_3).bind fun t122 => (if ((((((rdOf ByteArray.empty t116 a0_0) ++ (⟨#[32]⟩ : ByteArray)) ++ t120) ++ (⟨#[47]⟩ : ByteArray)) ++ t121) ++ (⟨#[32, 100, 117, 101, 32]⟩ : ByteArray)).size + t122.size ≤ 9223372036854775807 then (if (((((((rdOf ByteArray.empty t116 a0_0) ++ (⟨#[32]⟩ : ByteArray)) ++ t120) ++ (⟨#[47]⟩ : ByteArray)) ++ t121) ++ (⟨#[32, 100, 117, 101, 32]⟩ : ByteArray)) ++ t122).size + 4 ≤ 9223372036854775807 then ((spec_l1Num.f k a0_4).bind fun t123 => (if ((((((((rdOf ByteArray.empty t116 a0_0) ++ (⟨#[32]⟩ : ByteArray)) ++ t120) ++ (⟨#[47]⟩ : ByteArray)) ++ t121) ++ (⟨#[32, 100, 117, 101, 32]⟩ : ByteArray)) ++ t122) ++ (⟨#[32, 97, 116, 32]⟩ : ByteArray)).size + t123.size ≤ 9223372036854775807 then (some (((((((((rdOf ByteArray.empty t116 a0_0) ++ (⟨#[32]⟩ : ByteArray)) ++ t120) ++ (⟨#[47]⟩ : ByteArray)) ++ t121) ++ (⟨#[32, 100, 117, 101, 32]⟩ : ByteArray)) ++ t122) ++ (⟨#[32, 97, 116, 32]⟩ : ByteArray)) ++ t123)) else (none))) else (none)) else (none))) else (none)) else (none))) else (none)) else (none)) = some r := H
        have A6 := Aside0.mk A60
        clear A60
        by_cases c7 : ((rdOf ByteArray.empty t116 a0_0) ++ (⟨#[32]⟩ : ByteArray)).size + t120.size ≤ 9223372036854775807
        · rw [if_pos c7] at H
          have c7b0 := eq_true c7
          have c7b1 : decide (((rdOf ByteArray.empty t116 a0_0) ++ (⟨#[32]⟩ : ByteArray)).size + t120.size ≤ 9223372036854775807) = true := decide_eq_true c7
          try have c7b2 : (9223372036854775807 < ((rdOf ByteArray.empty t116 a0_0) ++ (⟨#[32]⟩ : ByteArray)).size + t120.size) = False := eq_false (Nat.not_lt.2 c7)
          have c7b3 : (9223372036854775807 < (rdOf ByteArray.empty t116 a0_0).size + 1 + t120.size) = False := by have e_ := c7; simp only [ByteArray.size_append, show (⟨#[32]⟩ : ByteArray).size = 1 from rfl] at e_; exact eq_false (by omega)
          by_cases c8 : (((rdOf ByteArray.empty t116 a0_0) ++ (⟨#[32]⟩ : ByteArray)) ++ t120).size + 1 ≤ 9223372036854775807
          · rw [if_pos c8] at H
            have c8b0 := eq_true c8
            have c8b1 : decide ((((rdOf ByteArray.empty t116 a0_0) ++ (⟨#[32]⟩ : ByteArray)) ++ t120).size + 1 ≤ 9223372036854775807) = true := decide_eq_true c8
            try have c8b2 : (9223372036854775807 < (((rdOf ByteArray.empty t116 a0_0) ++ (⟨#[32]⟩ : ByteArray)) ++ t120).size + 1) = False := eq_false (Nat.not_lt.2 c8)
            have c8b3 : (9223372036854775807 < (rdOf ByteArray.empty t116 a0_0).size + 1 + t120.size + 1) = False := by have e_ := c8; simp only [ByteArray.size_append, show (⟨#[32]⟩ : ByteArray).size = 1 from rfl] at e_; exact eq_false (by omega)
            replace H := Option.bind_eq_some_iff.mp H
            obtain ⟨t121, A90, H⟩ := H
            replace H : (if ((((rdOf ByteArray.empty t116 a0_0) ++ (⟨#[32]⟩ : ByteArray)) ++ t120) ++ (⟨#[47]⟩ : ByteArray)).size + t121.size ≤ 9223372036854775807 then (if (((((rdOf ByteArray.empty t116 a0_0) ++ (⟨#[32]⟩ : ByteArray)) ++ t120) ++ (⟨#[47]⟩ : ByteArray)) ++ t121).size + 5 ≤ 9223372036854775807 then ((spec_l1Num.f k a0_3).bind fun t122 => (if ((((((rdOf ByteArray.empty t116 a0_0) ++ (⟨#[32]⟩ : ByteArray)) ++ t120) ++ (⟨#[47]⟩ : ByteArray)) ++ t121) ++ (⟨#[32, 100, 117, 101, 32]⟩ : ByteArray)).size + t122.size ≤ 9223372036854775807 then (if (((((((rdOf ByteArray.empty t116 a0_0) ++ (⟨#[32]⟩ : ByteArray)) ++ t120) ++ (⟨#[47]⟩ : ByteArray)) ++ t121) ++ (⟨#[32, 100, 117, 101, 32]⟩ : ByteArray)) ++ t122).size + 4 ≤ 9223372036854775807 then ((spec_l1Num.f k a0_4).bind fun t123 => (if ((((((((rdOf ByteArray.empty t116 a0_0) ++ (⟨#[32]⟩ : ByteArray)) ++ t120) ++ (⟨#[47]⟩ : ByteArray)) ++ t121) ++ (⟨#[32, 100, 117, 101, 32]⟩ : ByteArray)) ++ t122) ++ (⟨#[32, 97, 116, 32]⟩ : ByteArray)).size + t123.size ≤ 9223372036854775807 then (some (((((((((rdOf ByteArray.empty t116 a0_0) ++ (⟨#[32]⟩ : ByteArray)) ++ t120) ++ (⟨#[47]⟩ : ByteArray)) ++ t121) ++ (⟨#[32, 100, 117, 101, 32]⟩ : ByteArray)) ++ t122) ++ (⟨#[32, 97, 116, 32]⟩ : ByteArray)) ++ t123)) else (none))) else (none)) else (none))) else (none)) else (none)) = some r := H
            have A9 := Aside0.mk A90
            clear A90
            by_cases c10 : ((((rdOf ByteArray.empty t116 a0_0) ++ (⟨#[32]⟩ : ByteArray)) ++ t120) ++ (⟨#[47]⟩ : ByteArray)).size + t121.size ≤ 9223372036854775807
            · rw [if_pos c10] at H
              have c10b0 := eq_true c10
              have c10b1 : decide (((((rdOf ByteArray.empty t116 a0_0) ++ (⟨#[32]⟩ : ByteArray)) ++ t120) ++ (⟨#[47]⟩ : ByteArray)).size + t121.size ≤ 9223372036854775807) = true := decide_eq_true c10
              try have c10b2 : (9223372036854775807 < ((((rdOf ByteArray.empty t116 a0_0) ++ (⟨#[32]⟩ : ByteArray)) ++ t120) ++ (⟨#[47]⟩ : ByteArray)).size + t121.size) = False := eq_false (Nat.not_lt.2 c10)
              have c10b3 : (9223372036854775807 < (rdOf ByteArray.empty t116 a0_0).size + 1 + t120.size + 1 + t121.size) = False := by have e_ := c10; simp only [ByteArray.size_append, show (⟨#[32]⟩ : ByteArray).size = 1 from rfl, show (⟨#[47]⟩ : ByteArray).size = 1 from rfl] at e_; exact eq_false (by omega)
              by_cases c11 : (((((rdOf ByteArray.empty t116 a0_0) ++ (⟨#[32]⟩ : ByteArray)) ++ t120) ++ (⟨#[47]⟩ : ByteArray)) ++ t121).size + 5 ≤ 9223372036854775807
              · rw [if_pos c11] at H
                have c11b0 := eq_true c11
                have c11b1 : decide ((((((rdOf ByteArray.empty t116 a0_0) ++ (⟨#[32]⟩ : ByteArray)) ++ t120) ++ (⟨#[47]⟩ : ByteArray)) ++ t121).size + 5 ≤ 9223372036854775807) = true := decide_eq_true c11
                try have c11b2 : (9223372036854775807 < (((((rdOf ByteArray.empty t116 a0_0) ++ (⟨#[32]⟩ : ByteArray)) ++ t120) ++ (⟨#[47]⟩ : ByteArray)) ++ t121).size + 5) = False := eq_false (Nat.not_lt.2 c11)
                have c11b3 : (9223372036854775807 < (rdOf ByteArray.empty t116 a0_0).size + 1 + t120.size + 1 + t121.size + 5) = False := by have e_ := c11; simp only [ByteArray.size_append, show (⟨#[32]⟩ : ByteArray).size = 1 from rfl, show (⟨#[47]⟩ : ByteArray).size = 1 from rfl] at e_; exact eq_false (by omega)
                replace H := Option.bind_eq_some_iff.mp H
                obtain ⟨t122, A120, H⟩ := H
                replace H : (if ((((((rdOf ByteArray.empty t116 a0_0) ++ (⟨#[32]⟩ : ByteArray)) ++ t120) ++ (⟨#[47]⟩ : ByteArray)) ++ t121) ++ (⟨#[32, 100, 117, 101, 32]⟩ : ByteArray)).size + t122.size ≤ 9223372036854775807 then (if (((((((rdOf ByteArray.empty t116 a0_0) ++ (⟨#[32]⟩ : ByteArray)) ++ t120) ++ (⟨#[47]⟩ : ByteArray)) ++ t121) ++ (⟨#[32, 100, 117, 101, 32]⟩ : ByteArray)) ++ t122).size + 4 ≤ 9223372036854775807 then ((spec_l1Num.f k a0_4).bind fun t123 => (if ((((((((rdOf ByteArray.empty t116 a0_0) ++ (⟨#[32]⟩ : ByteArray)) ++ t120) ++ (⟨#[47]⟩ : ByteArray)) ++ t121) ++ (⟨#[32, 100, 117, 101, 32]⟩ : ByteArray)) ++ t122) ++ (⟨#[32, 97, 116, 32]⟩ : ByteArray)).size + t123.size ≤ 9223372036854775807 then (some (((((((((rdOf ByteArray.empty t116 a0_0) ++ (⟨#[32]⟩ : ByteArray)) ++ t120) ++ (⟨#[47]⟩ : ByteArray)) ++ t121) ++ (⟨#[32, 100, 117, 101, 32]⟩ : ByteArray)) ++ t122) ++ (⟨#[32, 97, 116, 32]⟩ : ByteArray)) ++ t123)) else (none))) else (none)) else (none)) = some r := H
                have A12 := Aside0.mk A120
                clear A120
                by_cases c13 : ((((((rdOf ByteArray.empty t116 a0_0) ++ (⟨#[32]⟩ : ByteArray)) ++ t120) ++ (⟨#[47]⟩ : ByteArray)) ++ t121) ++ (⟨#[32, 100, 117, 101, 32]⟩ : ByteArray)).size + t122.size ≤ 9223372036854775807
                · rw [if_pos c13] at H
                  have c13b0 := eq_true c13
                  have c13b1 : decide (((((((rdOf ByteArray.empty t116 a0_0) ++ (⟨#[32]⟩ : ByteArray)) ++ t120) ++ (⟨#[47]⟩ : ByteArray)) ++ t121) ++ (⟨#[32, 100, 117, 101, 32]⟩ : ByteArray)).size + t122.size ≤ 9223372036854775807) = true := decide_eq_true c13
                  try have c13b2 : (9223372036854775807 < ((((((rdOf ByteArray.empty t116 a0_0) ++ (⟨#[32]⟩ : ByteArray)) ++ t120) ++ (⟨#[47]⟩ : ByteArray)) ++ t121) ++ (⟨#[32, 100, 117, 101, 32]⟩ : ByteArray)).size + t122.size) = False := eq_false (Nat.not_lt.2 c13)
                  have c13b3 : (9223372036854775807 < (rdOf ByteArray.empty t116 a0_0).size + 1 + t120.size + 1 + t121.size + 5 + t122.size) = False := by have e_ := c13; simp only [ByteArray.size_append, show (⟨#[32]⟩ : ByteArray).size = 1 from rfl, show (⟨#[47]⟩ : ByteArray).size = 1 from rfl, show (⟨#[32, 100, 117, 101, 32]⟩ : ByteArray).size = 5 from rfl] at e_; exact eq_false (by omega)
                  by_cases c14 : (((((((rdOf ByteArray.empty t116 a0_0) ++ (⟨#[32]⟩ : ByteArray)) ++ t120) ++ (⟨#[47]⟩ : ByteArray)) ++ t121) ++ (⟨#[32, 100, 117, 101, 32]⟩ : ByteArray)) ++ t122).size + 4 ≤ 9223372036854775807
                  · rw [if_pos c14] at H
                    have c14b0 := eq_true c14
                    have c14b1 : decide ((((((((rdOf ByteArray.empty t116 a0_0) ++ (⟨#[32]⟩ : ByteArray)) ++ t120) ++ (⟨#[47]⟩ : ByteArray)) ++ t121) ++ (⟨#[32, 100, 117, 101, 32]⟩ : ByteArray)) ++ t122).size + 4 ≤ 9223372036854775807) = true := decide_eq_true c14
                    try have c14b2 : (9223372036854775807 < (((((((rdOf ByteArray.empty t116 a0_0) ++ (⟨#[32]⟩ : ByteArray)) ++ t120) ++ (⟨#[47]⟩ : ByteArray)) ++ t121) ++ (⟨#[32, 100, 117, 101, 32]⟩ : ByteArray)) ++ t122).size + 4) = False := eq_false (Nat.not_lt.2 c14)
                    have c14b3 : (9223372036854775807 < (rdOf ByteArray.empty t116 a0_0).size + 1 + t120.size + 1 + t121.size + 5 + t122.size + 4) = False := by have e_ := c14; simp only [ByteArray.size_append, show (⟨#[32]⟩ : ByteArray).size = 1 from rfl, show (⟨#[47]⟩ : ByteArray).size = 1 from rfl, show (⟨#[32, 100, 117, 101, 32]⟩ : ByteArray).size = 5 from rfl] at e_; exact eq_false (by omega)
                    replace H := Option.bind_eq_some_iff.mp H
                    obtain ⟨t123, A150, H⟩ := H
                    replace H : (if ((((((((rdOf ByteArray.empty t116 a0_0) ++ (⟨#[32]⟩ : ByteArray)) ++ t120) ++ (⟨#[47]⟩ : ByteArray)) ++ t121) ++ (⟨#[32, 100, 117, 101, 32]⟩ : ByteArray)) ++ t122) ++ (⟨#[32, 97, 116, 32]⟩ : ByteArray)).size + t123.size ≤ 9223372036854775807 then (some (((((((((rdOf ByteArray.empty t116 a0_0) ++ (⟨#[32]⟩ : ByteArray)) ++ t120) ++ (⟨#[47]⟩ : ByteArray)) ++ t121) ++ (⟨#[32, 100, 117, 101, 32]⟩ : ByteArray)) ++ t122) ++ (⟨#[32, 97, 116, 32]⟩ : ByteArray)) ++ t123)) else (none)) = some r := H
                    have A15 := Aside0.mk A150
                    clear A150
                    by_cases c16 : ((((((((rdOf ByteArray.empty t116 a0_0) ++ (⟨#[32]⟩ : ByteArray)) ++ t120) ++ (⟨#[47]⟩ : ByteArray)) ++ t121) ++ (⟨#[32, 100, 117, 101, 32]⟩ : ByteArray)) ++ t122) ++ (⟨#[32, 97, 116, 32]⟩ : ByteArray)).size + t123.size ≤ 9223372036854775807
                    · rw [if_pos c16] at H
                      have c16b0 := eq_true c16
                      have c16b1 : decide (((((((((rdOf ByteArray.empty t116 a0_0) ++ (⟨#[32]⟩ : ByteArray)) ++ t120) ++ (⟨#[47]⟩ : ByteArray)) ++ t121) ++ (⟨#[32, 100, 117, 101, 32]⟩ : ByteArray)) ++ t122) ++ (⟨#[32, 97, 116, 32]⟩ : ByteArray)).size + t123.size ≤ 9223372036854775807) = true := decide_eq_true c16
                      try have c16b2 : (9223372036854775807 < ((((((((rdOf ByteArray.empty t116 a0_0) ++ (⟨#[32]⟩ : ByteArray)) ++ t120) ++ (⟨#[47]⟩ : ByteArray)) ++ t121) ++ (⟨#[32, 100, 117, 101, 32]⟩ : ByteArray)) ++ t122) ++ (⟨#[32, 97, 116, 32]⟩ : ByteArray)).size + t123.size) = False := eq_false (Nat.not_lt.2 c16)
                      have c16b3 : (9223372036854775807 < (rdOf ByteArray.empty t116 a0_0).size + 1 + t120.size + 1 + t121.size + 5 + t122.size + 4 + t123.size) = False := by have e_ := c16; simp only [ByteArray.size_append, show (⟨#[32]⟩ : ByteArray).size = 1 from rfl, show (⟨#[47]⟩ : ByteArray).size = 1 from rfl, show (⟨#[32, 100, 117, 101, 32]⟩ : ByteArray).size = 5 from rfl, show (⟨#[32, 97, 116, 32]⟩ : ByteArray).size = 4 from rfl] at e_; exact eq_false (by omega)
                      obtain rfl := Option.some.inj H
                      go_enter Tryd.func12, Tryd.ntmps12
                      try go_wp2_with (first | ((with_reducible refine gate_dst (N := 1) rfl ?_); refine box_event ?hg (N := 1) ?hd (cs := #[.int .i64 a0_0, .int .i64 a0_1, .int .i64 a0_2, .int .i64 a0_3, .int .i64 a0_4]) (t := 26) ?hr ?_; (case hd => rfl); (case hg => rfl); (case hr => first | (go_simp; done) | (go_simp; rfl)); intro gb115 hg w17 hbox hb; have n0_ := Aside0.mk (below_step (by repeat (first | (with_reducible first | exact HB.out | apply below_alloc | apply pw_below_drewN | apply below_drew1) | exact HB.out)) hb); have n1_ := Aside0.mk (hbox); have n2_ := Aside0.mk ((by rw [hg]; exact (below_size (by repeat (first | (with_reducible first | exact HB.out | apply below_alloc | apply pw_below_drewN | apply below_drew1) | exact HB.out))) : w.heap.size ≤ gb115)); have n3_ := Aside0.mk ((by rw [hg]; exact (below_size (by repeat (first | (with_reducible first | exact HB.out | apply below_alloc | apply pw_below_drewN | apply below_drew1) | exact HB.out))) : w.heap.size ≤ gb115)); clear HB; have HB := n0_; have BK115 := n1_; have GW115 := n2_; have GE115 := n3_; clear n0_ n1_ n2_ n3_; clear hb hbox hg))
                      have n0_ := Aside0.mk (blk_drew BK115.out)
                      have n1_ := Aside0.mk (below_drew1 HB.out)
                      clear BK115
                      clear HB
                      have BK115 := n0_
                      have HB := n1_
                      clear n0_ n1_
                      refine start_ (n := 26) (S := fun w' => w'.cell? ⟨gb115, 0, none⟩ = some (.int .i64 a0_0) ∧ w'.cell? ⟨gb115, 1, none⟩ = some (.int .i64 a0_1) ∧ w'.cell? ⟨gb115, 2, none⟩ = some (.int .i64 a0_2) ∧ w'.cell? ⟨gb115, 3, none⟩ = some (.int .i64 a0_3) ∧ w'.cell? ⟨gb115, 4, none⟩ = some (.int .i64 a0_4)) (ds := []) #[false, false, false, false, false, false, false, false, false, false, false, false, false, false, false, false, false, false, false, false, false, false, false, false, false, false] (by kernel_rfl) rfl rfl ⟨(blk_cell BK115.out 0).trans rfl, (blk_cell BK115.out 1).trans rfl, (blk_cell BK115.out 2).trans rfl, (blk_cell BK115.out 3).trans rfl, (blk_cell BK115.out 4).trans rfl⟩ (fun hHeld => ?_); refine with_tabW spec_l21Text.tab1 spec_l21Text.bits1 (fun HT_ HW_ => ?_)
                      generalize w17.drew = w18 at BK115 HB hHeld ⊢
                      refine pure_ (i := 1) (N := some 4) (v := ?_) (a' := ?_) #[false, true, false, false, false, false, false, false, false, false, false, false, false, false, false, false, false, false, false, false, false, false, false, false, false, false] rfl rfl (any_of HT_.out (by kernel_rfl)) (fun _ _ _ h => h) (Or.inl ⟨by rfl, ?_⟩) ?_ ?_
                      rotate_left
                      · intro w'
                        go_simp
                        with_reducible rfl
                      rotate_left
                      · simp only [Act.put, List.setIfInBounds_toArray, List.set_cons_zero, List.set_cons_succ, i64_w, i32_w]
                        rfl
                      refine pure_ (i := 6) (N := some 9) (v := ?_) (a' := ?_) #[false, true, false, false, false, false, true, false, false, false, false, false, false, false, false, false, false, false, false, false, false, false, false, false, false, false] rfl rfl (any_of HT_.out (by kernel_rfl)) (fun _ _ _ h => h) (Or.inl ⟨by rfl, ?_⟩) ?_ ?_
                      rotate_left
                      · intro w'
                        go_simp
                        with_reducible rfl
                      rotate_left
                      · simp only [Act.put, List.setIfInBounds_toArray, List.set_cons_zero, List.set_cons_succ, i64_w, i32_w]
                        rfl
                      refine pure_ (i := 11) (N := some 14) (v := ?_) (a' := ?_) #[false, true, false, false, false, false, true, false, false, false, false, true, false, false, false, false, false, false, false, false, false, false, false, false, false, false] rfl rfl (any_of HT_.out (by kernel_rfl)) (fun _ _ _ h => h) (Or.inl ⟨by rfl, ?_⟩) ?_ ?_
                      rotate_left
                      · intro w'
                        go_simp
                        with_reducible rfl
                      rotate_left
                      · simp only [Act.put, List.setIfInBounds_toArray, List.set_cons_zero, List.set_cons_succ, i64_w, i32_w]
                        rfl
                      refine pure_ (i := 16) (N := some 19) (v := ?_) (a' := ?_) #[false, true, false, false, false, false, true, false, false, false, false, true, false, false, false, false, true, false, false, false, false, false, false, false, false, false] rfl rfl (any_of HT_.out (by kernel_rfl)) (fun _ _ _ h => h) (Or.inl ⟨by rfl, ?_⟩) ?_ ?_
                      rotate_left
                      · intro w'
                        go_simp
                        with_reducible rfl
                      rotate_left
                      · simp only [Act.put, List.setIfInBounds_toArray, List.set_cons_zero, List.set_cons_succ, i64_w, i32_w]
                        rfl
                      refine pure_ (i := 21) (N := some 24) (v := ?_) (a' := ?_) #[false, true, false, false, false, false, true, false, false, false, false, true, false, false, false, false, true, false, false, false, false, true, false, false, false, false] rfl rfl (any_of HT_.out (by kernel_rfl)) (fun _ _ _ h => h) (Or.inl ⟨by rfl, ?_⟩) ?_ ?_
                      rotate_left
                      · intro w'
                        go_simp
                        with_reducible rfl
                      rotate_left
                      · simp only [Act.put, List.setIfInBounds_toArray, List.set_cons_zero, List.set_cons_succ, i64_w, i32_w]
                        rfl
                      refine take_ (i := 2) (N := some 5) (v := ?_) (a' := ?_) #[false, true, true, false, false, false, true, false, false, false, false, true, false, false, false, false, true, false, false, false, false, true, false, false, false, false] rfl rfl (take_ofW HT_.out HW_.out (by kernel_rfl)) (fun _ _ _ h => h) (Or.inl ⟨by rfl, ?_⟩) hHeld ?_ ?_
                      rotate_left
                      · rintro w' ⟨s0, s1, s2, s3, s4⟩
                        go_simp
                        with_reducible rfl
                      rotate_left
                      · simp only [Act.put, List.setIfInBounds_toArray, List.set_cons_zero, List.set_cons_succ, i64_w, i32_w]
                        rfl
                      refine take_ (i := 7) (N := some 10) (v := ?_) (a' := ?_) #[false, true, true, false, false, false, true, true, false, false, false, true, false, false, false, false, true, false, false, false, false, true, false, false, false, false] rfl rfl (take_ofW HT_.out HW_.out (by kernel_rfl)) (fun _ _ _ h => h) (Or.inl ⟨by rfl, ?_⟩) hHeld ?_ ?_
                      rotate_left
                      · rintro w' ⟨s0, s1, s2, s3, s4⟩
                        go_simp
                        with_reducible rfl
                      rotate_left
                      · simp only [Act.put, List.setIfInBounds_toArray, List.set_cons_zero, List.set_cons_succ, i64_w, i32_w]
                        rfl
                      refine take_ (i := 12) (N := some 15) (v := ?_) (a' := ?_) #[false, true, true, false, false, false, true, true, false, false, false, true, true, false, false, false, true, false, false, false, false, true, false, false, false, false] rfl rfl (take_ofW HT_.out HW_.out (by kernel_rfl)) (fun _ _ _ h => h) (Or.inl ⟨by rfl, ?_⟩) hHeld ?_ ?_
                      rotate_left
                      · rintro w' ⟨s0, s1, s2, s3, s4⟩
                        go_simp
                        with_reducible rfl
                      rotate_left
                      · simp only [Act.put, List.setIfInBounds_toArray, List.set_cons_zero, List.set_cons_succ, i64_w, i32_w]
                        rfl
                      refine take_ (i := 17) (N := some 20) (v := ?_) (a' := ?_) #[false, true, true, false, false, false, true, true, false, false, false, true, true, false, false, false, true, true, false, false, false, true, false, false, false, false] rfl rfl (take_ofW HT_.out HW_.out (by kernel_rfl)) (fun _ _ _ h => h) (Or.inl ⟨by rfl, ?_⟩) hHeld ?_ ?_
                      rotate_left
                      · rintro w' ⟨s0, s1, s2, s3, s4⟩
                        go_simp
                        with_reducible rfl
                      rotate_left
                      · simp only [Act.put, List.setIfInBounds_toArray, List.set_cons_zero, List.set_cons_succ, i64_w, i32_w]
                        rfl
                      refine take_ (i := 22) (N := some 25) (v := ?_) (a' := ?_) #[false, true, true, false, false, false, true, true, false, false, false, true, true, false, false, false, true, true, false, false, false, true, true, false, false, false] rfl rfl (take_ofW HT_.out HW_.out (by kernel_rfl)) (fun _ _ _ h => h) (Or.inl ⟨by rfl, ?_⟩) hHeld ?_ ?_
                      rotate_left
                      · rintro w' ⟨s0, s1, s2, s3, s4⟩
                        go_simp
                        with_reducible rfl
                      rotate_left
                      · simp only [Act.put, List.setIfInBounds_toArray, List.set_cons_zero, List.set_cons_succ, i64_w, i32_w]
                        rfl
                      refine one_ (i := 0) (N := some 3) #[true, true, true, false, false, false, true, true, false, false, false, true, true, false, false, false, true, true, false, false, false, true, true, false, false, false] rfl rfl (one_of HT_.out (by kernel_rfl)) (by decide) (fun K hK => ?_)
                      refine goes_ Tryd.func24 (by kernel_rfl) rfl #[] (by rfl) rfl rfl (by (try simp only [List.map_toArray, List.map_cons, List.map_nil]); first | done | rfl | (simp only [List.length_drop, List.length_take]; rfl)) ?_
                      with_reducible refine (spec_l21Words.calls  t116 _ A2.out).mono ?_
                      rintro e w19 ⟨v117, rfl, ho0, hb⟩
                      refine ⟨_, rfl, ?_⟩
                      have n0_ := Aside0.mk (Kd.R_lower ho0 (below_size (by repeat (first | (with_reducible first | exact HB.out | apply below_alloc | apply pw_below_drewN | apply below_drew1 | refine below_set ?_ GE115.out) | exact HB.out))))
                      have n1_ := Aside0.mk (blk_below (g := gb115) (o := .cells #[.int .i64 a0_0, .int .i64 a0_1, .int .i64 a0_2, .int .i64 a0_3, .int .i64 a0_4] 26 (0, 0)) (by (with_reducible repeat (first | refine blk_drewN ?_ _ | refine blk_drew ?_ | refine blk_alloc ?_ _)); exact BK115.out) hb)
                      have n2_ := Aside0.mk (below_step (by repeat (first | (with_reducible first | exact HB.out | apply below_alloc | apply pw_below_drewN | apply below_drew1 | refine below_set ?_ GE115.out) | exact HB.out)) hb)
                      clear BK115
                      clear HB
                      have HO118 := n0_
                      have BK115 := n1_
                      have HB := n2_
                      clear n0_ n1_ n2_
                      (try clear hb)
                      (try clear hb2)
                      (try clear hk)
                      (try clear hi)
                      (try clear ho0)
                      obtain ⟨Ao20, co20, eo20⟩ := Kd.R_slice HO118.out
                      (first | subst eo20 | (injection eo20 with f1_ f2_ f3_; have f4_ := f1_.symm; have f5_ := f3_.symm; clear f1_ f2_ f3_; subst f4_; subst f5_))
                      have p119 : 0 ≤ (a0_0 : Int) := of_decide_eq_true (by first | (with_reducible assumption) | assumption)
                      have q119 : a0_0 < (t116.length : Int) := of_decide_eq_true (by first | (with_reducible assumption) | assumption)
                      obtain ⟨ad119, e119, hx119_0⟩ := Kd.at_string (Kd.R_reads' HO118.out).2.2 a0_0 p119 q119
                      cases e119
                      replace p119 := eq_true p119
                      replace q119 := eq_true q119
                      refine hK.out _ _ ⟨(blk_cell BK115.out 0).trans rfl, (blk_cell BK115.out 1).trans rfl, (blk_cell BK115.out 2).trans rfl, (blk_cell BK115.out 3).trans rfl, (blk_cell BK115.out 4).trans rfl⟩ (fun hHeld => ?_)
                      clear hK K
                      refine more_ (S' := fun w' => w'.cell? ⟨gb115, 0, none⟩ = some (.int .i64 a0_0) ∧ w'.cell? ⟨gb115, 1, none⟩ = some (.int .i64 a0_1) ∧ w'.cell? ⟨gb115, 2, none⟩ = some (.int .i64 a0_2) ∧ w'.cell? ⟨gb115, 3, none⟩ = some (.int .i64 a0_3) ∧ w'.cell? ⟨gb115, 4, none⟩ = some (.int .i64 a0_4) ∧ w'.cell? (ad119.add (a0_0).toNat) = some (.string (rdOf ByteArray.empty t116 a0_0))) (fun w' h_ => ⟨h_.1, h_.2.1, h_.2.2.1, h_.2.2.2.1, h_.2.2.2.2.1⟩) ⟨hHeld.1, hHeld.2.1, hHeld.2.2.1, hHeld.2.2.2.1, hHeld.2.2.2.2, hx119_0⟩ (fun hHeld => ?_)
                      refine norm_ (a' := ?_) ?_ ?_
                      rotate_left
                      · show Act.put _ (some 3) _ = _
                        simp only [Act.put, List.setIfInBounds_toArray, List.set_cons_zero, List.set_cons_succ, i64_w, i32_w]
                        rfl
                      refine pure_ (i := 3) (N := some 6) (v := ?_) (a' := ?_) #[true, true, true, true, false, false, true, true, false, false, false, true, true, false, false, false, true, true, false, false, false, true, true, false, false, false] rfl rfl (any_of HT_.out (by kernel_rfl)) (fun _ _ _ h => h) (Or.inl ⟨by rfl, ?_⟩) ?_ ?_
                      rotate_left
                      · intro w'
                        go_simp
                        with_reducible rfl
                      rotate_left
                      · simp only [Act.put, List.setIfInBounds_toArray, List.set_cons_zero, List.set_cons_succ, i64_w, i32_w]
                        rfl
                      refine take_ (i := 4) (N := some 7) (v := ?_) (a' := ?_) #[true, true, true, true, true, false, true, true, false, false, false, true, true, false, false, false, true, true, false, false, false, true, true, false, false, false] rfl rfl (take_ofW HT_.out HW_.out (by kernel_rfl)) (fun _ _ _ h => h) (Or.inl ⟨by rfl, ?_⟩) hHeld ?_ ?_
                      rotate_left
                      · rintro w' ⟨s0, s1, s2, s3, s4, s5⟩
                        go_simp
                        with_reducible rfl
                      rotate_left
                      · simp only [Act.put, List.setIfInBounds_toArray, List.set_cons_zero, List.set_cons_succ, i64_w, i32_w]
                        rfl
                      refine pure_ (i := 5) (N := some 8) (v := ?_) (a' := ?_) #[true, true, true, true, true, true, true, true, false, false, false, true, true, false, false, false, true, true, false, false, false, true, true, false, false, false] rfl rfl (any_of HT_.out (by kernel_rfl)) (fun _ _ _ h => h) (Or.inl ⟨by rfl, ?_⟩) ?_ ?_
                      rotate_left
                      · intro w'
                        go_simp
                        with_reducible rfl
                      rotate_left
                      · simp only [Act.put, List.setIfInBounds_toArray, List.set_cons_zero, List.set_cons_succ, i64_w, i32_w]
                        rfl
                      refine one_ (i := 8) (N := some 11) #[true, true, true, true, true, true, true, true, true, false, false, true, true, false, false, false, true, true, false, false, false, true, true, false, false, false] rfl rfl (one_of HT_.out (by kernel_rfl)) (by decide) (fun K hK => ?_)
                      refine goes_ Tryd.func25 (by kernel_rfl) rfl #[.int .i64 a0_2] (by rfl) rfl rfl (by (try simp only [List.map_toArray, List.map_cons, List.map_nil]); first | done | rfl | (simp only [List.length_drop, List.length_take]; rfl)) ?_
                      with_reducible refine (spec_l1Num.calls k a0_2 t120 _ A6.out).mono ?_
                      rintro e w21 ⟨rfl, hb⟩
                      have HS5_ := (hb.cell (World.block_lt_of_cell? _ _ (hHeld.2.2.2.2.2))).trans (hHeld.2.2.2.2.2)
                      refine ⟨_, rfl, ?_⟩
                      have n0_ := Aside0.mk (Kd.R_below (by (with_reducible repeat (first | apply Kd.R_alloc | apply Kd.R_drewN | apply Kd.R_drew)); exact HO118.out) hb)
                      have n1_ := Aside0.mk (blk_below (g := gb115) (o := .cells #[.int .i64 a0_0, .int .i64 a0_1, .int .i64 a0_2, .int .i64 a0_3, .int .i64 a0_4] 26 (0, 0)) (by (with_reducible repeat (first | refine blk_drewN ?_ _ | refine blk_drew ?_ | refine blk_alloc ?_ _)); exact BK115.out) hb)
                      have n2_ := Aside0.mk (below_step (by repeat (first | (with_reducible first | exact HB.out | apply below_alloc | apply pw_below_drewN | apply below_drew1 | refine below_set ?_ GE115.out) | exact HB.out)) hb)
                      clear HO118
                      clear BK115
                      clear HB
                      have HO118 := n0_
                      have BK115 := n1_
                      have HB := n2_
                      clear n0_ n1_ n2_
                      (try clear hb)
                      (try clear hb2)
                      (try clear hk)
                      (try clear hi)
                      refine hK.out _ _ ⟨(blk_cell BK115.out 0).trans rfl, (blk_cell BK115.out 1).trans rfl, (blk_cell BK115.out 2).trans rfl, (blk_cell BK115.out 3).trans rfl, (blk_cell BK115.out 4).trans rfl, HS5_⟩ (fun hHeld => ?_)
                      clear hK K
                      refine norm_ (a' := ?_) ?_ ?_
                      rotate_left
                      · show Act.put _ (some 11) _ = _
                        simp only [Act.put, List.setIfInBounds_toArray, List.set_cons_zero, List.set_cons_succ, i64_w, i32_w]
                        rfl
                      refine pure_ (i := 9) (N := some 12) (v := ?_) (a' := ?_) #[true, true, true, true, true, true, true, true, true, true, false, true, true, false, false, false, true, true, false, false, false, true, true, false, false, false] rfl rfl (any_of HT_.out (by kernel_rfl)) (fun _ _ _ h => h) (Or.inl ⟨by rfl, ?_⟩) ?_ ?_
                      rotate_left
                      · intro w'
                        go_simp
                        with_reducible rfl
                      rotate_left
                      · simp only [Act.put, List.setIfInBounds_toArray, List.set_cons_zero, List.set_cons_succ, i64_w, i32_w]
                        rfl
                      refine pure_ (i := 10) (N := some 13) (v := ?_) (a' := ?_) #[true, true, true, true, true, true, true, true, true, true, true, true, true, false, false, false, true, true, false, false, false, true, true, false, false, false] rfl rfl (any_of HT_.out (by kernel_rfl)) (fun _ _ _ h => h) (Or.inl ⟨by rfl, ?_⟩) ?_ ?_
                      rotate_left
                      · intro w'
                        go_simp
                        with_reducible rfl
                      rotate_left
                      · simp only [Act.put, List.setIfInBounds_toArray, List.set_cons_zero, List.set_cons_succ, i64_w, i32_w]
                        rfl
                      refine one_ (i := 13) (N := some 16) #[true, true, true, true, true, true, true, true, true, true, true, true, true, true, false, false, true, true, false, false, false, true, true, false, false, false] rfl rfl (one_of HT_.out (by kernel_rfl)) (by decide) (fun K hK => ?_)
                      refine goes_ Tryd.func25 (by kernel_rfl) rfl #[.int .i64 a0_1] (by rfl) rfl rfl (by (try simp only [List.map_toArray, List.map_cons, List.map_nil]); first | done | rfl | (simp only [List.length_drop, List.length_take]; rfl)) ?_
                      with_reducible refine (spec_l1Num.calls k a0_1 t121 _ A9.out).mono ?_
                      rintro e w22 ⟨rfl, hb⟩
                      have HS5_ := (hb.cell (World.block_lt_of_cell? _ _ (hHeld.2.2.2.2.2))).trans (hHeld.2.2.2.2.2)
                      refine ⟨_, rfl, ?_⟩
                      have n0_ := Aside0.mk (Kd.R_below (by (with_reducible repeat (first | apply Kd.R_alloc | apply Kd.R_drewN | apply Kd.R_drew)); exact HO118.out) hb)
                      have n1_ := Aside0.mk (blk_below (g := gb115) (o := .cells #[.int .i64 a0_0, .int .i64 a0_1, .int .i64 a0_2, .int .i64 a0_3, .int .i64 a0_4] 26 (0, 0)) (by (with_reducible repeat (first | refine blk_drewN ?_ _ | refine blk_drew ?_ | refine blk_alloc ?_ _)); exact BK115.out) hb)
                      have n2_ := Aside0.mk (below_step (by repeat (first | (with_reducible first | exact HB.out | apply below_alloc | apply pw_below_drewN | apply below_drew1 | refine below_set ?_ GE115.out) | exact HB.out)) hb)
                      clear HO118
                      clear BK115
                      clear HB
                      have HO118 := n0_
                      have BK115 := n1_
                      have HB := n2_
                      clear n0_ n1_ n2_
                      (try clear hb)
                      (try clear hb2)
                      (try clear hk)
                      (try clear hi)
                      refine hK.out _ _ ⟨(blk_cell BK115.out 0).trans rfl, (blk_cell BK115.out 1).trans rfl, (blk_cell BK115.out 2).trans rfl, (blk_cell BK115.out 3).trans rfl, (blk_cell BK115.out 4).trans rfl, HS5_⟩ (fun hHeld => ?_)
                      clear hK K
                      refine norm_ (a' := ?_) ?_ ?_
                      rotate_left
                      · show Act.put _ (some 16) _ = _
                        simp only [Act.put, List.setIfInBounds_toArray, List.set_cons_zero, List.set_cons_succ, i64_w, i32_w]
                        rfl
                      refine pure_ (i := 14) (N := some 17) (v := ?_) (a' := ?_) #[true, true, true, true, true, true, true, true, true, true, true, true, true, true, true, false, true, true, false, false, false, true, true, false, false, false] rfl rfl (any_of HT_.out (by kernel_rfl)) (fun _ _ _ h => h) (Or.inl ⟨by rfl, ?_⟩) ?_ ?_
                      rotate_left
                      · intro w'
                        go_simp
                        with_reducible rfl
                      rotate_left
                      · simp only [Act.put, List.setIfInBounds_toArray, List.set_cons_zero, List.set_cons_succ, i64_w, i32_w]
                        rfl
                      refine pure_ (i := 15) (N := some 18) (v := ?_) (a' := ?_) #[true, true, true, true, true, true, true, true, true, true, true, true, true, true, true, true, true, true, false, false, false, true, true, false, false, false] rfl rfl (any_of HT_.out (by kernel_rfl)) (fun _ _ _ h => h) (Or.inl ⟨by rfl, ?_⟩) ?_ ?_
                      rotate_left
                      · intro w'
                        go_simp
                        with_reducible rfl
                      rotate_left
                      · simp only [Act.put, List.setIfInBounds_toArray, List.set_cons_zero, List.set_cons_succ, i64_w, i32_w]
                        rfl
                      refine one_ (i := 18) (N := some 21) #[true, true, true, true, true, true, true, true, true, true, true, true, true, true, true, true, true, true, true, false, false, true, true, false, false, false] rfl rfl (one_of HT_.out (by kernel_rfl)) (by decide) (fun K hK => ?_)
                      refine goes_ Tryd.func25 (by kernel_rfl) rfl #[.int .i64 a0_3] (by rfl) rfl rfl (by (try simp only [List.map_toArray, List.map_cons, List.map_nil]); first | done | rfl | (simp only [List.length_drop, List.length_take]; rfl)) ?_
                      with_reducible refine (spec_l1Num.calls k a0_3 t122 _ A12.out).mono ?_
                      rintro e w23 ⟨rfl, hb⟩
                      have HS5_ := (hb.cell (World.block_lt_of_cell? _ _ (hHeld.2.2.2.2.2))).trans (hHeld.2.2.2.2.2)
                      refine ⟨_, rfl, ?_⟩
                      have n0_ := Aside0.mk (Kd.R_below (by (with_reducible repeat (first | apply Kd.R_alloc | apply Kd.R_drewN | apply Kd.R_drew)); exact HO118.out) hb)
                      have n1_ := Aside0.mk (blk_below (g := gb115) (o := .cells #[.int .i64 a0_0, .int .i64 a0_1, .int .i64 a0_2, .int .i64 a0_3, .int .i64 a0_4] 26 (0, 0)) (by (with_reducible repeat (first | refine blk_drewN ?_ _ | refine blk_drew ?_ | refine blk_alloc ?_ _)); exact BK115.out) hb)
                      have n2_ := Aside0.mk (below_step (by repeat (first | (with_reducible first | exact HB.out | apply below_alloc | apply pw_below_drewN | apply below_drew1 | refine below_set ?_ GE115.out) | exact HB.out)) hb)
                      clear HO118
                      clear BK115
                      clear HB
                      have HO118 := n0_
                      have BK115 := n1_
                      have HB := n2_
                      clear n0_ n1_ n2_
                      (try clear hb)
                      (try clear hb2)
                      (try clear hk)
                      (try clear hi)
                      refine hK.out _ _ ⟨(blk_cell BK115.out 0).trans rfl, (blk_cell BK115.out 1).trans rfl, (blk_cell BK115.out 2).trans rfl, (blk_cell BK115.out 3).trans rfl, (blk_cell BK115.out 4).trans rfl, HS5_⟩ (fun hHeld => ?_)
                      clear hK K
                      refine norm_ (a' := ?_) ?_ ?_
                      rotate_left
                      · show Act.put _ (some 21) _ = _
                        simp only [Act.put, List.setIfInBounds_toArray, List.set_cons_zero, List.set_cons_succ, i64_w, i32_w]
                        rfl
                      refine pure_ (i := 19) (N := some 22) (v := ?_) (a' := ?_) #[true, true, true, true, true, true, true, true, true, true, true, true, true, true, true, true, true, true, true, true, false, true, true, false, false, false] rfl rfl (any_of HT_.out (by kernel_rfl)) (fun _ _ _ h => h) (Or.inl ⟨by rfl, ?_⟩) ?_ ?_
                      rotate_left
                      · intro w'
                        go_simp
                        with_reducible rfl
                      rotate_left
                      · simp only [Act.put, List.setIfInBounds_toArray, List.set_cons_zero, List.set_cons_succ, i64_w, i32_w]
                        rfl
                      refine pure_ (i := 20) (N := some 23) (v := ?_) (a' := ?_) #[true, true, true, true, true, true, true, true, true, true, true, true, true, true, true, true, true, true, true, true, true, true, true, false, false, false] rfl rfl (any_of HT_.out (by kernel_rfl)) (fun _ _ _ h => h) (Or.inl ⟨by rfl, ?_⟩) ?_ ?_
                      rotate_left
                      · intro w'
                        go_simp
                        with_reducible rfl
                      rotate_left
                      · simp only [Act.put, List.setIfInBounds_toArray, List.set_cons_zero, List.set_cons_succ, i64_w, i32_w]
                        rfl
                      refine one_ (i := 23) (N := some 26) #[true, true, true, true, true, true, true, true, true, true, true, true, true, true, true, true, true, true, true, true, true, true, true, true, false, false] rfl rfl (one_of HT_.out (by kernel_rfl)) (by decide) (fun K hK => ?_)
                      refine goes_ Tryd.func25 (by kernel_rfl) rfl #[.int .i64 a0_4] (by rfl) rfl rfl (by (try simp only [List.map_toArray, List.map_cons, List.map_nil]); first | done | rfl | (simp only [List.length_drop, List.length_take]; rfl)) ?_
                      with_reducible refine (spec_l1Num.calls k a0_4 t123 _ A15.out).mono ?_
                      rintro e w24 ⟨rfl, hb⟩
                      have HS5_ := (hb.cell (World.block_lt_of_cell? _ _ (hHeld.2.2.2.2.2))).trans (hHeld.2.2.2.2.2)
                      refine ⟨_, rfl, ?_⟩
                      have n0_ := Aside0.mk (Kd.R_below (by (with_reducible repeat (first | apply Kd.R_alloc | apply Kd.R_drewN | apply Kd.R_drew)); exact HO118.out) hb)
                      have n1_ := Aside0.mk (blk_below (g := gb115) (o := .cells #[.int .i64 a0_0, .int .i64 a0_1, .int .i64 a0_2, .int .i64 a0_3, .int .i64 a0_4] 26 (0, 0)) (by (with_reducible repeat (first | refine blk_drewN ?_ _ | refine blk_drew ?_ | refine blk_alloc ?_ _)); exact BK115.out) hb)
                      have n2_ := Aside0.mk (below_step (by repeat (first | (with_reducible first | exact HB.out | apply below_alloc | apply pw_below_drewN | apply below_drew1 | refine below_set ?_ GE115.out) | exact HB.out)) hb)
                      clear HO118
                      clear BK115
                      clear HB
                      have HO118 := n0_
                      have BK115 := n1_
                      have HB := n2_
                      clear n0_ n1_ n2_
                      (try clear hb)
                      (try clear hb2)
                      (try clear hk)
                      (try clear hi)
                      refine hK.out _ _ ⟨(blk_cell BK115.out 0).trans rfl, (blk_cell BK115.out 1).trans rfl, (blk_cell BK115.out 2).trans rfl, (blk_cell BK115.out 3).trans rfl, (blk_cell BK115.out 4).trans rfl, HS5_⟩ (fun hHeld => ?_)
                      clear hK K
                      refine norm_ (a' := ?_) ?_ ?_
                      rotate_left
                      · show Act.put _ (some 26) _ = _
                        simp only [Act.put, List.setIfInBounds_toArray, List.set_cons_zero, List.set_cons_succ, i64_w, i32_w]
                        rfl
                      refine pure_ (i := 24) (N := some 27) (v := ?_) (a' := ?_) #[true, true, true, true, true, true, true, true, true, true, true, true, true, true, true, true, true, true, true, true, true, true, true, true, true, false] rfl rfl (any_of HT_.out (by kernel_rfl)) (fun _ _ _ h => h) (Or.inl ⟨by rfl, ?_⟩) ?_ ?_
                      rotate_left
                      · intro w'
                        go_simp
                        with_reducible rfl
                      rotate_left
                      · simp only [Act.put, List.setIfInBounds_toArray, List.set_cons_zero, List.set_cons_succ, i64_w, i32_w]
                        rfl
                      refine pure_ (i := 25) (N := some 2) (v := ?_) (a' := ?_) #[true, true, true, true, true, true, true, true, true, true, true, true, true, true, true, true, true, true, true, true, true, true, true, true, true, true] rfl rfl (any_of HT_.out (by kernel_rfl)) (fun _ _ _ h => h) (Or.inl ⟨by rfl, ?_⟩) ?_ ?_
                      rotate_left
                      · intro w'
                        go_simp
                        with_reducible rfl
                      rotate_left
                      · simp only [Act.put, List.setIfInBounds_toArray, List.set_cons_zero, List.set_cons_succ, i64_w, i32_w]
                        rfl
                      refine done_ (done_of HT_.out (by kernel_rfl)) ?_
                      try go_wp2
                      go_ret
                      exact ⟨by first | rfl | (simp [errW_none, errW_some] <;> rfl) | (simp [*, errW_none, errW_some] <;> rfl), by repeat (first | (with_reducible first | exact HB.out | apply below_alloc | apply pw_below_drewN | apply below_drew1 | refine below_set ?_ GE115.out) | exact HB.out)⟩
                    · rw [if_neg c16] at H
                      exact absurd H (by simp)
                  · rw [if_neg c14] at H
                    exact absurd H (by simp)
                · rw [if_neg c13] at H
                  exact absurd H (by simp)
              · rw [if_neg c11] at H
                exact absurd H (by simp)
            · rw [if_neg c10] at H
              exact absurd H (by simp)
          · rw [if_neg c8] at H
            exact absurd H (by simp)
        · rw [if_neg c7] at H
          exact absurd H (by simp)
      · rw [if_neg c5] at H
        exact absurd H (by simp)
    · rw [if_neg c4] at H
      exact absurd H (by simp)
  · rw [if_neg c3] at H
    exact absurd H (by simp)

/-! ### spec_l1Split: function 15 -/
def spec_l1Split.l0 : Nat → ByteArray → Int → List ByteArray → Int → Int → Option (List ByteArray)
  | 0, _, _, _, _, _ => none
  | k + 1, x0, x1, x5, x6, x7 => if x7 < (x0.size : Int) then (if 0 ≤ x7 then (if (bt x0 x7) = x1 then (if 0 ≤ x6 then (if x6 ≤ x7 then (if x7 ≤ (x0.size : Int) then (if x5.length < 8796093022208 then (spec_l1Split.l0 k x0 x1 (x5 ++ [x0.extract (x6 : Int).toNat (x7 : Int).toNat]) (wrap64 (x7 + 1)) (wrap64 (x7 + 1))) else (none)) else (none)) else (none)) else (none)) else (spec_l1Split.l0 k x0 x1 x5 x6 (wrap64 (x7 + 1)))) else (none)) else (if 0 ≤ x6 then (if x6 ≤ (x0.size : Int) then (if x5.length < 8796093022208 then (some (x5 ++ [x0.extract (x6 : Int).toNat x0.size])) else (none)) else (none)) else (none))
def spec_l1Split.f (k : Nat) (a0 : ByteArray) (a1 : Int) : Option (List ByteArray) := spec_l1Split.l0 k a0 a1 (([] : List ByteArray)) 0 0
theorem spec_l1Split.mono_l : ∀ k, (∀ y0 y1 y2 y3 y4, LeO (spec_l1Split.l0 k y0 y1 y2 y3 y4) (spec_l1Split.l0 (k + 1) y0 y1 y2 y3 y4))
  | 0 => fun _ _ _ _ _ r h => by simp [spec_l1Split.l0] at h
  | k + 1 => by
    have ih0 := spec_l1Split.mono_l k
    · intro y0 y1 y2 y3 y4
      unfold spec_l1Split.l0
      repeat' first
      | (with_reducible exact ih0 _ _ _ _ _)
      | (with_reducible exact LeO.refl _)
      | (with_reducible exact LeO.none _)
      | (with_reducible refine LeO.ite ?_ ?_)
      | (with_reducible refine LeO.bind ?_ (fun _ => ?_))
      | exact ih0 _ _ _ _ _
      | exact LeO.none _
      | refine LeO.ite ?_ ?_
      | refine LeO.bind ?_ (fun _ => ?_)
theorem spec_l1Split.mono : ∀ a0 a1 k, LeO (spec_l1Split.f k a0 a1) (spec_l1Split.f (k + 1) a0 a1) := by
  intro a0 a1 k
  have ih0 := spec_l1Split.mono_l k
  unfold spec_l1Split.f
  repeat' first
      | (with_reducible exact ih0 _ _ _ _ _)
      | (with_reducible exact LeO.refl _)
      | (with_reducible exact LeO.none _)
      | (with_reducible refine LeO.ite ?_ ?_)
      | (with_reducible refine LeO.bind ?_ (fun _ => ?_))
      | exact ih0 _ _ _ _ _
      | exact LeO.none _
      | refine LeO.ite ?_ ?_
      | refine LeO.bind ?_ (fun _ => ?_)
set_option maxHeartbeats 8000000 in
set_option maxRecDepth 100000 in
theorem spec_l1Split.calls (k : Nat) (a0 : ByteArray) (a1 : Int) (r : List ByteArray) (w : World) (h : spec_l1Split.f k a0 a1 = some r) :
    Calls Tryd.prog 15 #[.string a0, .int .u8 a1] w fun e w' => ∃ v0_ : Value, e = .returned (v0_) ∧ Kd.R Kd.string 9 w' w.heap.size (fun _ => True) v0_ r ∧ Below w.heap.size w w' := by
  have HB := Aside0.mk (Below.refl w.heap.size w)
  have H : (spec_l1Split.l0 k a0 a1 (([] : List ByteArray)) 0 0) = some r := h
  clear h
  obtain ⟨y124, hy124⟩ : ∃ y_ : List ByteArray, y_ = (([] : List ByteArray)) := ⟨_, rfl⟩
  replace H : (spec_l1Split.l0 k a0 a1 y124 0 0) = some r := by first | (rw [hy124]; with_reducible exact H) | (have H2_ := (Option.bind_some _ _).symm.trans H; rw [hy124]; with_reducible exact H2_) | (have H2_ := (Option.bind_some _ _).symm.trans H; with_reducible exact H2_) | with_reducible exact H | (rw [hy124]; exact H) | exact H
  have Ny124 := Aside0.mk hy124
  clear hy124
  have H' := Aside0.mk H
  clear H
  go_enter Tryd.func15, Tryd.ntmps15
  go_wp2_with (first | ((with_reducible refine gate_dst (N := 8) rfl ?_); refine Kd.R_lit Kd.string _ 9 ?hg (N := 8) ?hd (xs := ([] : List ByteArray)) (inner := []) (ok := fun _ => True) (okp := fun _ => True) ?hr ?hp (fun _ hk => hk) trivial (Below.refl _ _) (Nat.le_refl _) (by simp) ?_; (case hd => rfl); (case hg => rfl); (case hr => first | (go_simp; done) | (go_simp; rfl)); (case hp => exact (Reps.none _ _)); intro v125 w3 ho4 hb hg_ hnew_; clear hg_ hnew_; (first | rw [← Ny124.out] at ho4 | (simp only [Int.reduceToNat] at ho4; rw [← Ny124.out] at ho4)); have n0_ := Aside0.mk (Kd.R_lower ho4 (below_size (by repeat (first | (with_reducible first | exact HB.out | apply below_alloc | apply pw_below_drewN | apply below_drew1) | exact HB.out)))); have n1_ := Aside0.mk (below_step (by repeat (first | (with_reducible first | exact HB.out | apply below_alloc | apply pw_below_drewN | apply below_drew1) | exact HB.out)) hb); clear HB; have HO126 := n0_; have HB := n1_; clear n0_ n1_; clear hb ho4))
  go_loopg [5, 6, 7] k (fun kq v5 v6 v7 w' => ∃ (x5_1 : List ByteArray) (x6_1 : Int) (x7_1 : Int), v6 = .int .i64 x6_1 ∧ v7 = .int .i64 x7_1 ∧ Aside0 (spec_l1Split.l0 kq a0 a1 x5_1 x6_1 x7_1 = some r) ∧ Aside0 (kq ≤ k) ∧ Aside0 (Kd.R Kd.string 9 w' w.heap.size (fun _ => True) v5 x5_1) ∧ Aside0 (Below w.heap.size w w'))
  case atStart => exact ⟨(y124), (0), (0), (by first | rfl | (simp; done) | (simp [*]; done)), (by first | rfl | (simp; done) | (simp [*]; done)), H', ⟨Nat.le_refl _⟩, ⟨by (with_reducible repeat (first | apply Kd.R_alloc | apply Kd.R_drewN | apply Kd.R_drew)); exact HO126.out⟩, ⟨by repeat (first | (with_reducible first | exact HB.out | apply below_alloc | apply pw_below_drewN | apply below_drew1) | exact HB.out)⟩⟩
  case round =>
    clear H'
    try clear c1
    try clear p2
    obtain ⟨x5_1, x6_1, x7_1, rfl, rfl, HA, HK1, HO_5, HB⟩ := hrel
    cases gk with
    | zero => exact absurd HA.out (by simp [spec_l1Split.l0])
    | succ k1 =>
      have H := HA.out
      clear HA
      simp only [spec_l1Split.l0] at H
      by_cases c5 : x7_1 < (a0.size : Int)
      · rw [if_pos c5] at H
        have c5b0 : decide (x7_1 < (a0.size : Int)) = true := decide_eq_true c5
        clear c5
        by_cases c6 : 0 ≤ x7_1
        · rw [if_pos c6] at H
          have c6b0 : decide (0 ≤ x7_1) = true := decide_eq_true c6
          clear c6
          by_cases c8 : (bt a0 x7_1) = a1
          · rw [if_pos c8] at H
            have c8b0 : ((bt a0 x7_1) == a1) = true := beq_iff_eq.mpr c8
            have c8b1 : ((bt a0 x7_1) != a1) = false := bne_eq_false_iff_eq.mpr c8
            clear c8
            by_cases c9 : 0 ≤ x6_1
            · rw [if_pos c9] at H
              have c9b0 := eq_true c9
              have c9b1 : decide (0 ≤ x6_1) = true := decide_eq_true c9
              clear c9
              by_cases c10 : x6_1 ≤ x7_1
              · rw [if_pos c10] at H
                have c10b0 := eq_true c10
                have c10b1 : decide (x6_1 ≤ x7_1) = true := decide_eq_true c10
                clear c10
                by_cases c11 : x7_1 ≤ (a0.size : Int)
                · rw [if_pos c11] at H
                  have c11b0 := eq_true c11
                  have c11b1 : decide (x7_1 ≤ (a0.size : Int)) = true := decide_eq_true c11
                  clear c11
                  by_cases c12 : x5_1.length < 8796093022208
                  · rw [if_pos c12] at H
                    have LMc12 := Aside0.mk c12
                    clear c12
                    obtain ⟨y127, hy127⟩ : ∃ y_ : List ByteArray, y_ = (x5_1 ++ [a0.extract (x6_1 : Int).toNat (x7_1 : Int).toNat]) := ⟨_, rfl⟩
                    replace H : (spec_l1Split.l0 k1 a0 a1 y127 (wrap64 (x7_1 + 1)) (wrap64 (x7_1 + 1))) = some r := by first | (rw [hy127]; with_reducible exact H) | (have H2_ := (Option.bind_some _ _).symm.trans H; rw [hy127]; with_reducible exact H2_) | (have H2_ := (Option.bind_some _ _).symm.trans H; with_reducible exact H2_) | with_reducible exact H | (rw [hy127]; exact H) | exact H
                    have Ny127 := Aside0.mk hy127
                    clear hy127
                    have H' := Aside0.mk H
                    clear H
                    have p7 : 0 ≤ (x7_1 : Int) := of_decide_eq_true (by first | (with_reducible assumption) | assumption)
                    have q7 : x7_1 < (a0.size : Int) := of_decide_eq_true (by first | (with_reducible assumption) | assumption)
                    have hx7 := bt_at a0 x7_1
                    replace p7 := eq_true p7
                    replace q7 := eq_true q7
                    go_wp2_with (first | ((with_reducible refine gate_builtin (b := .append) (xs := #[.tmp 20, .tmp 25]) rfl ?_); at_builtin; refine Kd.R_append Kd.string (w0 := w) w.heap.size rfl (.tmp 20) (.tmp 25) 35 9 (.string ⟨#[]⟩) 16 rfl Tryd.underlying35 info9 rfl (by decide) (by omega) u5 x5_1 (a0.extract (x6_1 : Int).toNat (x7_1 : Int).toNat) [.string (a0.extract (x6_1 : Int).toNat (x7_1 : Int).toNat)] (fun _ => True) (fun _ => False) rfl rfl ?aP (fun _ hk => hk.elim) ?aF ?aO ?aB ?aS ?aL ?_; (case aP => exact rfl); (case aB => exact (by repeat (first | (with_reducible first | exact HB.out | apply below_alloc | apply pw_below_drewN | apply below_drew1) | exact HB.out))); (case aF => exact (fun _ _ => trivial)); (case aO => exact (by (with_reducible repeat (first | apply Kd.R_alloc | apply Kd.R_drewN | apply Kd.R_drew)); exact HO_5.out)); (case aS => exact (below_size (by repeat (first | (with_reducible first | exact HB.out | apply below_alloc | apply pw_below_drewN | apply below_drew1) | exact HB.out)))); (case aL => have := LMc12.out; omega); intro v128 w13 ho hb hg hat; rw [← Ny127.out] at ho; have n0_ := Aside0.mk (hb); have n1_ := Aside0.mk (ho); clear HB; clear HO_5; have HB := n0_; have HO129 := n1_; clear n0_ n1_; clear ho hb hg hat))
                    go_roundg k1
                    case measure => have := HK1.out; omega
                    case rel => exact ⟨(y127), (wrap64 (x7_1 + 1)), (wrap64 (x7_1 + 1)), (by first | rfl | (simp; done) | (simp [*]; done)), (by first | rfl | (simp; done) | (simp [*]; done)), H', ⟨by have := HK1.out; omega⟩, ⟨by (with_reducible repeat (first | apply Kd.R_alloc | apply Kd.R_drewN | apply Kd.R_drew)); exact HO129.out⟩, ⟨by repeat (first | (with_reducible first | exact HB.out | apply below_alloc | apply pw_below_drewN | apply below_drew1) | exact HB.out)⟩⟩
                  · rw [if_neg c12] at H
                    exact absurd H (by simp)
                · rw [if_neg c11] at H
                  exact absurd H (by simp)
              · rw [if_neg c10] at H
                exact absurd H (by simp)
            · rw [if_neg c9] at H
              exact absurd H (by simp)
          · rw [if_neg c8] at H
            have c8b0 : ((bt a0 x7_1) == a1) = false := beq_eq_false_iff_ne.mpr c8
            have c8b1 : ((bt a0 x7_1) != a1) = true := bne_iff_ne.mpr c8
            have H' := Aside0.mk H
            clear H
            have p7 : 0 ≤ (x7_1 : Int) := of_decide_eq_true (by first | (with_reducible assumption) | assumption)
            have q7 : x7_1 < (a0.size : Int) := of_decide_eq_true (by first | (with_reducible assumption) | assumption)
            have hx7 := bt_at a0 x7_1
            replace p7 := eq_true p7
            replace q7 := eq_true q7
            go_wp2
            go_roundg k1
            case measure => have := HK1.out; omega
            case rel => exact ⟨(x5_1), (x6_1), (wrap64 (x7_1 + 1)), (by first | rfl | (simp; done) | (simp [*]; done)), (by first | rfl | (simp; done) | (simp [*]; done)), H', ⟨by have := HK1.out; omega⟩, ⟨by (with_reducible repeat (first | apply Kd.R_alloc | apply Kd.R_drewN | apply Kd.R_drew)); exact HO_5.out⟩, ⟨by repeat (first | (with_reducible first | exact HB.out | apply below_alloc | apply pw_below_drewN | apply below_drew1) | exact HB.out)⟩⟩
        · rw [if_neg c6] at H
          exact absurd H (by simp)
      · rw [if_neg c5] at H
        have c5b0 : decide (x7_1 < (a0.size : Int)) = false := decide_eq_false c5
        clear c5
        by_cases c14 : 0 ≤ x6_1
        · rw [if_pos c14] at H
          have c14b0 := eq_true c14
          have c14b1 : decide (0 ≤ x6_1) = true := decide_eq_true c14
          clear c14
          by_cases c15 : x6_1 ≤ (a0.size : Int)
          · rw [if_pos c15] at H
            have c15b0 := eq_true c15
            have c15b1 : decide (x6_1 ≤ (a0.size : Int)) = true := decide_eq_true c15
            clear c15
            by_cases c16 : x5_1.length < 8796093022208
            · rw [if_pos c16] at H
              have LMc16 := Aside0.mk c16
              clear c16
              obtain ⟨y130, hy130⟩ : ∃ y_ : List ByteArray, y_ = (x5_1 ++ [a0.extract (x6_1 : Int).toNat a0.size]) := ⟨_, rfl⟩
              replace H : (some y130) = some r := by first | (rw [hy130]; with_reducible exact H) | (have H2_ := (Option.bind_some _ _).symm.trans H; rw [hy130]; with_reducible exact H2_) | (have H2_ := (Option.bind_some _ _).symm.trans H; with_reducible exact H2_) | with_reducible exact H | (rw [hy130]; exact H) | exact H
              have Ny130 := Aside0.mk hy130
              clear hy130
              obtain rfl := Option.some.inj H
              go_wp2_with (first | ((with_reducible refine gate_builtin (b := .append) (xs := #[.tmp 29, .tmp 33]) rfl ?_); at_builtin; refine Kd.R_append Kd.string (w0 := w) w.heap.size rfl (.tmp 29) (.tmp 33) 35 9 (.string ⟨#[]⟩) 16 rfl Tryd.underlying35 info9 rfl (by decide) (by omega) u5 x5_1 (a0.extract (x6_1 : Int).toNat a0.size) [.string (a0.extract (x6_1 : Int).toNat a0.size)] (fun _ => True) (fun _ => False) rfl rfl ?aP (fun _ hk => hk.elim) ?aF ?aO ?aB ?aS ?aL ?_; (case aP => exact rfl); (case aB => exact (by repeat (first | (with_reducible first | exact HB.out | apply below_alloc | apply pw_below_drewN | apply below_drew1) | exact HB.out))); (case aF => exact (fun _ _ => trivial)); (case aO => exact (by (with_reducible repeat (first | apply Kd.R_alloc | apply Kd.R_drewN | apply Kd.R_drew)); exact HO_5.out)); (case aS => exact (below_size (by repeat (first | (with_reducible first | exact HB.out | apply below_alloc | apply pw_below_drewN | apply below_drew1) | exact HB.out)))); (case aL => have := LMc16.out; omega); intro v131 w17 ho hb hg hat; rw [← Ny130.out] at ho; have n0_ := Aside0.mk (hb); have n1_ := Aside0.mk (ho); clear HB; clear HO_5; have HB := n0_; have HO132 := n1_; clear n0_ n1_; clear ho hb hg hat))
              go_ret
              exact ⟨_, by first | rfl | (simp [errW_none, errW_some] <;> rfl) | (simp [*, errW_none, errW_some] <;> rfl), by (with_reducible repeat (first | apply Kd.R_alloc | apply Kd.R_drewN | apply Kd.R_drew)); exact HO132.out, by repeat (first | (with_reducible first | exact HB.out | apply below_alloc | apply pw_below_drewN | apply below_drew1) | exact HB.out)⟩
            · rw [if_neg c16] at H
              exact absurd H (by simp)
          · rw [if_neg c15] at H
            exact absurd H (by simp)
        · rw [if_neg c14] at H
          exact absurd H (by simp)

end Go.Proofs.YtmeaacbnjpgepaaDoor.QFnExactParseTrip
