/- Contracts of Go functions that FnTripLists reaches: the call computes what the plain function says. No condition. -/
import Derived.Test.YtmeaacbnjpgepaaGreatDoorQFnTripListsx0
import Derived.Test.YtmeaacbnjpgepaaGreatDoorQFnTripListsx5
import Derived.Test.YtmeaacbnjpgepaaGreatDoorQFnTripListsx6
namespace Go.Proofs.YtmeaacbnjpgepaaGreatDoor.QFnTripLists
open Go.RowKit Go.Proofs.YtmeaacbnjpgepaaGreatDoorW.PrintWords Go.Proofs.YtmeaacbnjpgepaaGreatDoorW.PrintLast Go.Proofs.YtmeaacbnjpgepaaGreatDoorW.PrintMore
attribute [local go_sem] max2_int min2_int max_two min_two max_three min_three max_four min_four   -- for this text's walks alone
set_option linter.unusedVariables false
set_option linter.unusedSimpArgs false

/-! ### impl_tripText: function 21 -/
def impl_tripText.f (a0_0 a0_1 a0_2 a0_3 a0_4 : Int) : Option (ByteArray) := if 0 ≤ a0_0 ∧ a0_0 < 6 then (if (stW a0_0).size + 1 ≤ 9223372036854775807 then ((impl_decimal.f a0_2).bind fun t254 => (if ((stW a0_0) ++ (⟨#[32]⟩ : ByteArray)).size + t254.size ≤ 9223372036854775807 then (if (((stW a0_0) ++ (⟨#[32]⟩ : ByteArray)) ++ t254).size + 1 ≤ 9223372036854775807 then ((impl_decimal.f a0_1).bind fun t255 => (if ((((stW a0_0) ++ (⟨#[32]⟩ : ByteArray)) ++ t254) ++ (⟨#[47]⟩ : ByteArray)).size + t255.size ≤ 9223372036854775807 then (if (((((stW a0_0) ++ (⟨#[32]⟩ : ByteArray)) ++ t254) ++ (⟨#[47]⟩ : ByteArray)) ++ t255).size + 5 ≤ 9223372036854775807 then ((impl_decimal.f a0_3).bind fun t256 => (if ((((((stW a0_0) ++ (⟨#[32]⟩ : ByteArray)) ++ t254) ++ (⟨#[47]⟩ : ByteArray)) ++ t255) ++ (⟨#[32, 100, 117, 101, 32]⟩ : ByteArray)).size + t256.size ≤ 9223372036854775807 then (if (((((((stW a0_0) ++ (⟨#[32]⟩ : ByteArray)) ++ t254) ++ (⟨#[47]⟩ : ByteArray)) ++ t255) ++ (⟨#[32, 100, 117, 101, 32]⟩ : ByteArray)) ++ t256).size + 4 ≤ 9223372036854775807 then ((impl_decimal.f a0_4).bind fun t257 => (if ((((((((stW a0_0) ++ (⟨#[32]⟩ : ByteArray)) ++ t254) ++ (⟨#[47]⟩ : ByteArray)) ++ t255) ++ (⟨#[32, 100, 117, 101, 32]⟩ : ByteArray)) ++ t256) ++ (⟨#[32, 97, 116, 32]⟩ : ByteArray)).size + t257.size ≤ 9223372036854775807 then (some (((((((((stW a0_0) ++ (⟨#[32]⟩ : ByteArray)) ++ t254) ++ (⟨#[47]⟩ : ByteArray)) ++ t255) ++ (⟨#[32, 100, 117, 101, 32]⟩ : ByteArray)) ++ t256) ++ (⟨#[32, 97, 116, 32]⟩ : ByteArray)) ++ t257)) else (none))) else (none)) else (none))) else (none)) else (none))) else (none)) else (none))) else (none)) else none
def impl_tripText.T1 : Bool × List (List Nat × List Nat) := (true, [([], []), ([0], [0]), ([1], [1]), ([2], [2]), ([3], [3]), ([], []), ([5], [5]), ([6], [6]), ([4, 7], [4, 7]), ([8], [8]), ([], []), ([10], [10]), ([11, 7], [11]), ([9, 12], [9, 12]), ([13], [13]), ([], []), ([15], [15]), ([16, 12], [16]), ([14, 17], [14, 17]), ([18], [18]), ([], []), ([20], [20]), ([21, 17], [21]), ([19, 22], [19, 22]), ([23, 22, 0, 1, 2, 3, 4, 5, 6, 7, 8, 9, 10, 11, 12, 13, 14, 15, 16, 17, 18, 19, 20, 21, 22, 23], [23])])
def impl_tripText.B1 : List Nat := [0, 1, 3, 7, 15, 0, 32, 96, 255, 511, 0, 1024, 3296, 8191, 16383, 0, 32768, 105696, 262143, 524287, 0, 1048576, 3382496, 8388607, 16777215]
theorem impl_tripText.tab1 : rtab .any (opsOf Tryz.f21 1) = impl_tripText.T1 := by kernel_rfl
theorem impl_tripText.bits1 : waitsOk impl_tripText.T1.2 impl_tripText.B1 = true := by kernel_rfl
set_option maxHeartbeats 8000000 in
set_option maxRecDepth 100000 in
theorem impl_tripText.calls (a0_0 a0_1 a0_2 a0_3 a0_4 : Int) (r : ByteArray) (w : World) (h : impl_tripText.f a0_0 a0_1 a0_2 a0_3 a0_4 = some r) (hTW : TabW w) :
  Calls Tryz.prog 21 #[.agg #[.int .i64 a0_0, .int .i64 a0_1, .int .i64 a0_2, .int .i64 a0_3, .int .i64 a0_4]] w fun e w' => e = .returned (.string r) ∧ Below w.heap.size w w' := by
 have hu25 := Tryz.underlying25
 have HB := Aside0.mk (Below.refl w.heap.size w)
 obtain ⟨⟨hg0_, hg1_⟩, h⟩ := guard_some h
 have pi_ : (0 ≤ a0_0) = True := eq_true hg0_
 have qi_ : (a0_0 < 6) = True := eq_true hg1_
 have H := h
 clear h
 unfold impl_tripText.f at H
 by_cases c2 : (stW a0_0).size + 1 ≤ 9223372036854775807
 ·rw [if_pos c2] at H
  have c2b0 := eq_true c2
  have c2b1 : decide ((stW a0_0).size + 1 ≤ 9223372036854775807) = true := decide_eq_true c2
  try have c2b2 : (9223372036854775807 < (stW a0_0).size + 1) = False := eq_false (Nat.not_lt.2 c2)
  replace H := bA H
  obtain ⟨t254, A3, H⟩ := H
  by_cases c4 : ((stW a0_0) ++ (⟨#[32]⟩ : ByteArray)).size + t254.size ≤ 9223372036854775807
  ·rw [if_pos c4] at H
   have c4b0 := eq_true c4
   have c4b1 : decide (((stW a0_0) ++ (⟨#[32]⟩ : ByteArray)).size + t254.size ≤ 9223372036854775807) = true := decide_eq_true c4
   try have c4b2 : (9223372036854775807 < ((stW a0_0) ++ (⟨#[32]⟩ : ByteArray)).size + t254.size) = False := eq_false (Nat.not_lt.2 c4)
   have c4b3 : (9223372036854775807 < (stW a0_0).size + 1 + t254.size) = False := by have e_ := c4; simp only [ByteArray.size_append, show (⟨#[32]⟩ : ByteArray).size = 1 from rfl] at e_; exact eq_false (by omega)
   by_cases c5 : (((stW a0_0) ++ (⟨#[32]⟩ : ByteArray)) ++ t254).size + 1 ≤ 9223372036854775807
   ·rw [if_pos c5] at H
    have c5b0 := eq_true c5
    have c5b1 : decide ((((stW a0_0) ++ (⟨#[32]⟩ : ByteArray)) ++ t254).size + 1 ≤ 9223372036854775807) = true := decide_eq_true c5
    try have c5b2 : (9223372036854775807 < (((stW a0_0) ++ (⟨#[32]⟩ : ByteArray)) ++ t254).size + 1) = False := eq_false (Nat.not_lt.2 c5)
    have c5b3 : (9223372036854775807 < (stW a0_0).size + 1 + t254.size + 1) = False := by have e_ := c5; simp only [ByteArray.size_append, show (⟨#[32]⟩ : ByteArray).size = 1 from rfl] at e_; exact eq_false (by omega)
    replace H := bA H
    obtain ⟨t255, A6, H⟩ := H
    by_cases c7 : ((((stW a0_0) ++ (⟨#[32]⟩ : ByteArray)) ++ t254) ++ (⟨#[47]⟩ : ByteArray)).size + t255.size ≤ 9223372036854775807
    ·rw [if_pos c7] at H
     have c7b0 := eq_true c7
     have c7b1 : decide (((((stW a0_0) ++ (⟨#[32]⟩ : ByteArray)) ++ t254) ++ (⟨#[47]⟩ : ByteArray)).size + t255.size ≤ 9223372036854775807) = true := decide_eq_true c7
     try have c7b2 : (9223372036854775807 < ((((stW a0_0) ++ (⟨#[32]⟩ : ByteArray)) ++ t254) ++ (⟨#[47]⟩ : ByteArray)).size + t255.size) = False := eq_false (Nat.not_lt.2 c7)
     have c7b3 : (9223372036854775807 < (stW a0_0).size + 1 + t254.size + 1 + t255.size) = False := by have e_ := c7; simp only [ByteArray.size_append, show (⟨#[32]⟩ : ByteArray).size = 1 from rfl, show (⟨#[47]⟩ : ByteArray).size = 1 from rfl] at e_; exact eq_false (by omega)
     by_cases c8 : (((((stW a0_0) ++ (⟨#[32]⟩ : ByteArray)) ++ t254) ++ (⟨#[47]⟩ : ByteArray)) ++ t255).size + 5 ≤ 9223372036854775807
     ·rw [if_pos c8] at H
      have c8b0 := eq_true c8
      have c8b1 : decide ((((((stW a0_0) ++ (⟨#[32]⟩ : ByteArray)) ++ t254) ++ (⟨#[47]⟩ : ByteArray)) ++ t255).size + 5 ≤ 9223372036854775807) = true := decide_eq_true c8
      try have c8b2 : (9223372036854775807 < (((((stW a0_0) ++ (⟨#[32]⟩ : ByteArray)) ++ t254) ++ (⟨#[47]⟩ : ByteArray)) ++ t255).size + 5) = False := eq_false (Nat.not_lt.2 c8)
      have c8b3 : (9223372036854775807 < (stW a0_0).size + 1 + t254.size + 1 + t255.size + 5) = False := by have e_ := c8; simp only [ByteArray.size_append, show (⟨#[32]⟩ : ByteArray).size = 1 from rfl, show (⟨#[47]⟩ : ByteArray).size = 1 from rfl] at e_; exact eq_false (by omega)
      replace H := bA H
      obtain ⟨t256, A9, H⟩ := H
      by_cases c10 : ((((((stW a0_0) ++ (⟨#[32]⟩ : ByteArray)) ++ t254) ++ (⟨#[47]⟩ : ByteArray)) ++ t255) ++ (⟨#[32, 100, 117, 101, 32]⟩ : ByteArray)).size + t256.size ≤ 9223372036854775807
      ·rw [if_pos c10] at H
       have c10b0 := eq_true c10
       have c10b1 : decide (((((((stW a0_0) ++ (⟨#[32]⟩ : ByteArray)) ++ t254) ++ (⟨#[47]⟩ : ByteArray)) ++ t255) ++ (⟨#[32, 100, 117, 101, 32]⟩ : ByteArray)).size + t256.size ≤ 9223372036854775807) = true := decide_eq_true c10
       try have c10b2 : (9223372036854775807 < ((((((stW a0_0) ++ (⟨#[32]⟩ : ByteArray)) ++ t254) ++ (⟨#[47]⟩ : ByteArray)) ++ t255) ++ (⟨#[32, 100, 117, 101, 32]⟩ : ByteArray)).size + t256.size) = False := eq_false (Nat.not_lt.2 c10)
       have c10b3 : (9223372036854775807 < (stW a0_0).size + 1 + t254.size + 1 + t255.size + 5 + t256.size) = False := by have e_ := c10; simp only [ByteArray.size_append, show (⟨#[32]⟩ : ByteArray).size = 1 from rfl, show (⟨#[47]⟩ : ByteArray).size = 1 from rfl, show (⟨#[32, 100, 117, 101, 32]⟩ : ByteArray).size = 5 from rfl] at e_; exact eq_false (by omega)
       by_cases c11 : (((((((stW a0_0) ++ (⟨#[32]⟩ : ByteArray)) ++ t254) ++ (⟨#[47]⟩ : ByteArray)) ++ t255) ++ (⟨#[32, 100, 117, 101, 32]⟩ : ByteArray)) ++ t256).size + 4 ≤ 9223372036854775807
       ·rw [if_pos c11] at H
        have c11b0 := eq_true c11
        have c11b1 : decide ((((((((stW a0_0) ++ (⟨#[32]⟩ : ByteArray)) ++ t254) ++ (⟨#[47]⟩ : ByteArray)) ++ t255) ++ (⟨#[32, 100, 117, 101, 32]⟩ : ByteArray)) ++ t256).size + 4 ≤ 9223372036854775807) = true := decide_eq_true c11
        try have c11b2 : (9223372036854775807 < (((((((stW a0_0) ++ (⟨#[32]⟩ : ByteArray)) ++ t254) ++ (⟨#[47]⟩ : ByteArray)) ++ t255) ++ (⟨#[32, 100, 117, 101, 32]⟩ : ByteArray)) ++ t256).size + 4) = False := eq_false (Nat.not_lt.2 c11)
        have c11b3 : (9223372036854775807 < (stW a0_0).size + 1 + t254.size + 1 + t255.size + 5 + t256.size + 4) = False := by have e_ := c11; simp only [ByteArray.size_append, show (⟨#[32]⟩ : ByteArray).size = 1 from rfl, show (⟨#[47]⟩ : ByteArray).size = 1 from rfl, show (⟨#[32, 100, 117, 101, 32]⟩ : ByteArray).size = 5 from rfl] at e_; exact eq_false (by omega)
        replace H := bA H
        obtain ⟨t257, A12, H⟩ := H
        by_cases c13 : ((((((((stW a0_0) ++ (⟨#[32]⟩ : ByteArray)) ++ t254) ++ (⟨#[47]⟩ : ByteArray)) ++ t255) ++ (⟨#[32, 100, 117, 101, 32]⟩ : ByteArray)) ++ t256) ++ (⟨#[32, 97, 116, 32]⟩ : ByteArray)).size + t257.size ≤ 9223372036854775807
        ·rw [if_pos c13] at H
         have c13b0 := eq_true c13
         have c13b1 : decide (((((((((stW a0_0) ++ (⟨#[32]⟩ : ByteArray)) ++ t254) ++ (⟨#[47]⟩ : ByteArray)) ++ t255) ++ (⟨#[32, 100, 117, 101, 32]⟩ : ByteArray)) ++ t256) ++ (⟨#[32, 97, 116, 32]⟩ : ByteArray)).size + t257.size ≤ 9223372036854775807) = true := decide_eq_true c13
         try have c13b2 : (9223372036854775807 < ((((((((stW a0_0) ++ (⟨#[32]⟩ : ByteArray)) ++ t254) ++ (⟨#[47]⟩ : ByteArray)) ++ t255) ++ (⟨#[32, 100, 117, 101, 32]⟩ : ByteArray)) ++ t256) ++ (⟨#[32, 97, 116, 32]⟩ : ByteArray)).size + t257.size) = False := eq_false (Nat.not_lt.2 c13)
         have c13b3 : (9223372036854775807 < (stW a0_0).size + 1 + t254.size + 1 + t255.size + 5 + t256.size + 4 + t257.size) = False := by have e_ := c13; simp only [ByteArray.size_append, show (⟨#[32]⟩ : ByteArray).size = 1 from rfl, show (⟨#[47]⟩ : ByteArray).size = 1 from rfl, show (⟨#[32, 100, 117, 101, 32]⟩ : ByteArray).size = 5 from rfl, show (⟨#[32, 97, 116, 32]⟩ : ByteArray).size = 4 from rfl] at e_; exact eq_false (by omega)
         obtain rfl := Option.some.inj H
         go_enter Tryz.func21, Tryz.ntmps21
         try go_wp2_with (first | ((with_reducible refine gD 1 ?_); refine bxE 1 25 #[.int .i64 a0_0, .int .i64 a0_1, .int .i64 a0_2, .int .i64 a0_3, .int .i64 a0_4] fun gb253 w14 hg hbox hb => ?_; have BK253 := Aside0.mk hbox; have GE253 := gB HB hg; replace HB := uB HB hb; clear hb hbox hg))
         replace BK253 := dK BK253
         replace HB := Aside0.mk (below_drew1 HB.out)
         refine sA (n := 25) (S := fun w' => w'.cell? ⟨gb253, 0, none⟩ = some (.int .i64 a0_0) ∧ w'.cell? ⟨gb253, 1, none⟩ = some (.int .i64 a0_1) ∧ w'.cell? ⟨gb253, 2, none⟩ = some (.int .i64 a0_2) ∧ w'.cell? ⟨gb253, 3, none⟩ = some (.int .i64 a0_3) ∧ w'.cell? ⟨gb253, 4, none⟩ = some (.int .i64 a0_4) ∧ w'.cell? ⟨0, a0_0.toNat, none⟩ = some (.string (stW a0_0))) (ds := []) impl_tripText.tab1 impl_tripText.bits1 #[false, false, false, false, false, false, false, false, false, false, false, false, false, false, false, false, false, false, false, false, false, false, false, false, false] ⟨cb BK253 0, cb BK253 1, cb BK253 2, cb BK253 3, cb BK253 4, TabW.word hTW HB.out hg0_ hg1_⟩ fun hHeld HT_ HW_ => ?_
         generalize w14.drew = w15 at BK253 HB hHeld ⊢
         refine pA 0 3 HT_ ?_
         refine pA 5 8 HT_ ?_
         refine pA 10 13 HT_ ?_
         refine pA 15 18 HT_ ?_
         refine pA 20 23 HT_ ?_
         refine tA 1 4 HT_ HW_ hHeld ?_
         refine pA 2 5 HT_ ?_
         refine tA 3 6 HT_ HW_ hHeld ?_
         refine pA 4 7 HT_ ?_
         refine tA 6 9 HT_ HW_ hHeld ?_
         refine tA 11 14 HT_ HW_ hHeld ?_
         refine tA 16 19 HT_ HW_ hHeld ?_
         refine tA 21 24 HT_ HW_ hHeld ?_
         refine oA 7 (some 10) HT_ fun K hK => ?_
         refine rA Tryz.func41 (impl_decimal.calls a0_2 t254 _ A3.out (TabW.up2 hTW HB.out)) ?_
         intro w16 hb
         replace BK253 := uK BK253 hb
         replace HB := uB HB hb
         (try clear hb)
         refine hK.out _ _ ⟨cb BK253 0, cb BK253 1, cb BK253 2, cb BK253 3, cb BK253 4, TabW.word hTW HB.out hg0_ hg1_⟩ (fun hHeld => ?_)
         clear hK K
         refine nA ?_ (some 10)
         refine pA 8 11 HT_ ?_
         refine pA 9 12 HT_ ?_
         refine oA 12 (some 15) HT_ fun K hK => ?_
         refine rA Tryz.func41 (impl_decimal.calls a0_1 t255 _ A6.out (TabW.up2 hTW HB.out)) ?_
         intro w17 hb
         replace BK253 := uK BK253 hb
         replace HB := uB HB hb
         (try clear hb)
         refine hK.out _ _ ⟨cb BK253 0, cb BK253 1, cb BK253 2, cb BK253 3, cb BK253 4, TabW.word hTW HB.out hg0_ hg1_⟩ (fun hHeld => ?_)
         clear hK K
         refine nA ?_ (some 15)
         refine pA 13 16 HT_ ?_
         refine pA 14 17 HT_ ?_
         refine oA 17 (some 20) HT_ fun K hK => ?_
         refine rA Tryz.func41 (impl_decimal.calls a0_3 t256 _ A9.out (TabW.up2 hTW HB.out)) ?_
         intro w18 hb
         replace BK253 := uK BK253 hb
         replace HB := uB HB hb
         (try clear hb)
         refine hK.out _ _ ⟨cb BK253 0, cb BK253 1, cb BK253 2, cb BK253 3, cb BK253 4, TabW.word hTW HB.out hg0_ hg1_⟩ (fun hHeld => ?_)
         clear hK K
         refine nA ?_ (some 20)
         refine pA 18 21 HT_ ?_
         refine pA 19 22 HT_ ?_
         refine oA 22 (some 25) HT_ fun K hK => ?_
         refine rA Tryz.func41 (impl_decimal.calls a0_4 t257 _ A12.out (TabW.up2 hTW HB.out)) ?_
         intro w19 hb
         replace BK253 := uK BK253 hb
         replace HB := uB HB hb
         (try clear hb)
         refine hK.out _ _ ⟨cb BK253 0, cb BK253 1, cb BK253 2, cb BK253 3, cb BK253 4, TabW.word hTW HB.out hg0_ hg1_⟩ (fun hHeld => ?_)
         clear hK K
         refine nA ?_ (some 25)
         refine pA 23 26 HT_ ?_
         refine pA 24 2 HT_ ?_
         refine done_ (done_of HT_.out (by kernel_rfl)) ?_
         try go_wp2
         go_ret
         exact ⟨eB, (bW HB)⟩
        ·rw [if_neg c13] at H
         exact absurd H (by simp)
       ·rw [if_neg c11] at H
        exact absurd H (by simp)
      ·rw [if_neg c10] at H
       exact absurd H (by simp)
     ·rw [if_neg c8] at H
      exact absurd H (by simp)
    ·rw [if_neg c7] at H
     exact absurd H (by simp)
   ·rw [if_neg c5] at H
    exact absurd H (by simp)
  ·rw [if_neg c4] at H
   exact absurd H (by simp)
 ·rw [if_neg c2] at H
  exact absurd H (by simp)

/-! ### impl_TripText: function 6 -/
def impl_TripText.f (k : Nat) (a0_0 a0_1 a0_2 a0_3 a0_4 : Int) : Option (ByteArray × Bool) := (impl_IsTrip.f k a0_0 a0_1 a0_2 a0_3 a0_4).bind fun t259 => (if t259 = true then ((impl_tripText.f a0_0 a0_1 a0_2 a0_3 a0_4).bind fun t260 => (some (t260, true))) else (some ((⟨#[]⟩ : ByteArray), false)))
theorem impl_TripText.mono : ∀ a0 a1 a2 a3 a4 k, LeO (impl_TripText.f k a0 a1 a2 a3 a4) (impl_TripText.f (k + 1) a0 a1 a2 a3 a4) := by
 intro a0 a1 a2 a3 a4 k
 unfold impl_TripText.f
 repeat' with_reducible first | apply impl_IsTrip.mono | exact LeO.refl _ | exact LeO.none _ | refine LeO.ite ?_ ?_ | refine LeO.bind ?_ (fun _ => ?_)
set_option maxHeartbeats 8000000 in
set_option maxRecDepth 100000 in
theorem impl_TripText.calls (k : Nat) (a0_0 a0_1 a0_2 a0_3 a0_4 : Int) (r1 : ByteArray) (r2 : Bool) (w : World) (h : impl_TripText.f k a0_0 a0_1 a0_2 a0_3 a0_4 = some (r1, r2)) (hTW : TabW w) :
  Calls Tryz.prog 6 #[.agg #[.int .i64 a0_0, .int .i64 a0_1, .int .i64 a0_2, .int .i64 a0_3, .int .i64 a0_4]] w fun e w' => e = .returned (.tuple #[.string r1, .bool r2]) ∧ Below w.heap.size w w' := by
 have hu25 := Tryz.underlying25
 have HB := Aside0.mk (Below.refl w.heap.size w)
 have H := h
 clear h
 unfold impl_TripText.f at H
 replace H := bA H
 obtain ⟨t259, A2, H⟩ := H
 rcases Bool.eq_false_or_eq_true t259 with rfl | rfl
 ·replace H := iT rfl H
  replace H := bA H
  obtain ⟨t260, A4, H⟩ := H
  simp only [Option.some.injEq, Prod.mk.injEq] at H
  obtain ⟨rfl, rfl⟩ := H
  go_enter Tryz.func6, Tryz.ntmps6
  go_wp2_with (first | ((with_reducible refine gD 1 ?_); refine bxE 1 25 #[.int .i64 a0_0, .int .i64 a0_1, .int .i64 a0_2, .int .i64 a0_3, .int .i64 a0_4] fun gb258 w5 hg hbox hb => ?_; have BK258 := Aside0.mk hbox; have GE258 := gB HB hg; replace HB := uB HB hb; clear hb hbox hg; have ⟨hcz6_0, hcz6_1, hcz6_2, hcz6_3, hcz6_4, hfz6_0⟩ := cz5 BK258) | ((with_reducible refine gC 20 ?_); refine lA (some 5) Tryz.func20 (impl_IsTrip.calls k a0_0 a0_1 a0_2 a0_3 a0_4 true _ A2.out) ?_; intro w7 hb; replace BK258 := uK BK258 hb; replace HB := uB HB hb; (try clear hb); have ⟨hcz8_0, hcz8_1, hcz8_2, hcz8_3, hcz8_4, hfz8_0⟩ := cz5 BK258) | ((with_reducible refine gC 21 ?_); refine lA (some 8) Tryz.func21 (impl_tripText.calls a0_0 a0_1 a0_2 a0_3 a0_4 t260 _ A4.out (TabW.up2 hTW HB.out)) ?_; intro w9 hb; replace BK258 := uK BK258 hb; replace HB := uB HB hb; (try clear hb)))
  go_ret2
  exact ⟨eB, (bW HB)⟩
 ·replace H := iF (by decide) H
  simp only [Option.some.injEq, Prod.mk.injEq] at H
  obtain ⟨rfl, rfl⟩ := H
  go_enter Tryz.func6, Tryz.ntmps6
  go_wp2_with (first | ((with_reducible refine gD 1 ?_); refine bxE 1 25 #[.int .i64 a0_0, .int .i64 a0_1, .int .i64 a0_2, .int .i64 a0_3, .int .i64 a0_4] fun gb258 w10 hg hbox hb => ?_; have BK258 := Aside0.mk hbox; have GE258 := gB HB hg; replace HB := uB HB hb; clear hb hbox hg; have ⟨hcz11_0, hcz11_1, hcz11_2, hcz11_3, hcz11_4, hfz11_0⟩ := cz5 BK258) | ((with_reducible refine gC 20 ?_); refine lA (some 5) Tryz.func20 (impl_IsTrip.calls k a0_0 a0_1 a0_2 a0_3 a0_4 false _ A2.out) ?_; intro w12 hb; replace BK258 := uK BK258 hb; replace HB := uB HB hb; (try clear hb)))
  go_ret2
  exact ⟨eB, (bW HB)⟩

/-! ### strings_Split: function 22 -/
-- calls: none

def strings_Split.f (s sep : ByteArray) : Option (List ByteArray) := if s.size < 4294967281 ∧ 1 ≤ sep.size then some (Lib.splitB sep 0 (Lib.countB s sep) s) else none
theorem reps_strings_ (w : World) (base : Nat) (ok : Nat → Prop) : ∀ l : List ByteArray, Reps (Kd.string.M w base ok) 1 l (l.map Value.string) := by
 intro l
 refine ⟨by simp, fun j p hj => ?_⟩
 show ((l.map Value.string).drop (j * 1)).take 1 = [Value.string p]
 obtain ⟨hlt, rfl⟩ := List.getElem?_eq_some_iff.1 hj
 rw [Nat.mul_one, List.drop_eq_getElem_cons (by simpa using hlt)]
 simp
theorem strings_Split.calls (a0 a1 : ByteArray) (r : List ByteArray) (w : World) (h : strings_Split.f a0 a1 = some r) (hT : TabW w) :
  Calls Tryz.prog 22 #[.string a0, .string a1] w fun e w' => ∃ v0_ : Value, e = .returned (v0_) ∧ Kd.R Kd.string 9 w' w.heap.size (fun _ => True) v0_ r ∧ Below w.heap.size w w' := by
 obtain ⟨⟨h0, h1⟩, h⟩ := guard_some h
 obtain rfl := Option.some.inj h
 obtain ⟨m, hm⟩ := hT.2.2.1
 have hle := Lib.countB_le a1 h1 a0.size a0 (Nat.le_refl _)
 have hlen := Lib.splitB_all a1 h1 0 _ a0 rfl
 refine (Any.strings_Split Tryz.lays146 (by kernel_rfl) a0 a1 m w h0 hm h1).mono ?_
 rintro e w' ⟨rfl, hw⟩
 generalize hL : Lib.splitB a1 0 (Lib.countB a0 a1) a0 = L at hw hlen
 have hw' : w' = w.alloc (.cells (L.map Value.string).toArray 9) := hw
 subst hw'
 refine ⟨_, rfl, ?_, below_alloc (Below.refl _ _) _⟩
 refine ⟨fun _ _ => trivial, L.map Value.string, ⟨by rw [List.length_map]; exact (Nat.mul_one _).symm, .inr ⟨w.heap.size, Lib.countB a0 a1 + 1, (L.map Value.string).toArray, by rw [hlen], Nat.le_refl _, by simpa using heap_alloc_new w _, by rw [hlen]; exact Nat.le_refl _, by unfold maxLen; omega, by rw [List.size_toArray, List.length_map, hlen]; exact (Nat.mul_one _).symm, by rw [List.toList_toArray]; exact List.take_of_length_le (by rw [List.length_map]; exact Nat.le_of_eq (Nat.mul_one _).symm)⟩⟩, reps_strings_ _ _ _ _⟩

/-! ### slices_Index_string_string: function 23 -/
def slices_Index_string_string.l0 : Nat → List ByteArray → ByteArray → Int → Int → Option (Int)
 | 0, _, _, _, _ => none
 | k + 1, x0, x1, x7, x8 => if x8 < x7 then (if 0 ≤ x8 then (if x8 < (x0.length : Int) then (if x1.toList = (rdOf ByteArray.empty x0 x8).toList then (some x8) else (slices_Index_string_string.l0 k x0 x1 x7 (wrap64 (x8 + 1)))) else (none)) else (none)) else (some (-1))
def slices_Index_string_string.f (k : Nat) (l0 : List ByteArray) (a1 : ByteArray) : Option (Int) := slices_Index_string_string.l0 k l0 a1 (l0.length : Int) 0
theorem slices_Index_string_string.mono_l : ∀ k, (∀ y0 y1 y2 y3, LeO (slices_Index_string_string.l0 k y0 y1 y2 y3) (slices_Index_string_string.l0 (k + 1) y0 y1 y2 y3))
 | 0 => fun _ _ _ _ r h => by simp [slices_Index_string_string.l0] at h
 | k + 1 => by
  have ih0 := slices_Index_string_string.mono_l k
  ·intro y0 y1 y2 y3
   unfold slices_Index_string_string.l0
   repeat' with_reducible first | apply ih0 | exact LeO.refl _ | exact LeO.none _ | refine LeO.ite ?_ ?_ | refine LeO.bind ?_ (fun _ => ?_)
theorem slices_Index_string_string.mono : ∀ a0 a1 k, LeO (slices_Index_string_string.f k a0 a1) (slices_Index_string_string.f (k + 1) a0 a1) := by
 intro a0 a1 k
 have ih0 := slices_Index_string_string.mono_l k
 unfold slices_Index_string_string.f
 repeat' with_reducible first | apply ih0 | exact LeO.refl _ | exact LeO.none _ | refine LeO.ite ?_ ?_ | refine LeO.bind ?_ (fun _ => ?_)
set_option maxHeartbeats 8000000 in
set_option maxRecDepth 100000 in
theorem slices_Index_string_string.calls (k : Nat) (A0 : Option Addr) (c0 : Nat) (l0 : List ByteArray) (a1 : ByteArray) (r : Int) (w : World) (hr0 : Kd.C Kd.string w A0 l0.length l0) (hc0 : l0.length ≤ c0) (h : slices_Index_string_string.f k l0 a1 = some r) :
  Calls Tryz.prog 23 #[.slice A0 l0.length c0, .string a1] w fun e w' => e = .returned (.int .i64 r) ∧ Drawn0 w w' := by
 have HR0 := Aside0.mk hr0
 have HC0 := Aside0.mk hc0
 clear hr0 hc0
 have H := h
 clear h
 unfold slices_Index_string_string.f at H
 have H' := Aside0.mk H
 clear H
 go_enter Tryz.func23, Tryz.ntmps23
 go_wp2
 go_loopg [8] k (fun kq v8 w' => ∃ (x8_1 : Int), v8 = .int .i64 x8_1 ∧ Aside0 (slices_Index_string_string.l0 kq l0 a1 (l0.length : Int) x8_1 = some r) ∧ Aside0 (kq ≤ k) ∧ Drawn0 w w')
 case atStart => exact ⟨(0), rB, H', ⟨Nat.le_refl _⟩, by repeat (first | exact Drawn0.refl _ | apply Drawn0.step)⟩
 case round =>
  clear H'
  obtain ⟨x8_1, rfl, HA, HK1, ⟨m1, rfl⟩⟩ := hrel
  cases gk with
  | zero => exact absurd HA.out (by simp [slices_Index_string_string.l0])
  | succ k1 =>
   have H := HA.out
   clear HA
   simp only [slices_Index_string_string.l0] at H
   replace H := ifD H
   rcases H with ⟨H, -, c3b0⟩ | ⟨H, -, c3b0⟩
   ·by_cases c4 : 0 ≤ x8_1
    ·rw [if_pos c4] at H
     have c4b0 : decide (0 ≤ x8_1) = true := decide_eq_true c4
     clear c4
     by_cases c5 : x8_1 < (l0.length : Int)
     ·rw [if_pos c5] at H
      have c5b0 : decide (x8_1 < (l0.length : Int)) = true := decide_eq_true c5
      clear c5
      replace H := ifI H
      rcases H with ⟨H, -, c6b0, c6b1⟩ | ⟨H, c6, c6b0, c6b1⟩
      ·obtain rfl := Option.some.inj H
       have p261 : 0 ≤ (x8_1 : Int) := of_decide_eq_true asmB
       have q261 : x8_1 < (l0.length : Int) := of_decide_eq_true asmB
       obtain ⟨ad261, e261, hx261_0⟩ := Kd.at_string HR0.out x8_1 p261 q261
       cases e261
       replace p261 := eq_true p261
       replace q261 := eq_true q261
       go_wp2
       go_ret
       exact ⟨rB, by repeat (first | exact Drawn0.refl _ | apply Drawn0.step)⟩
      ·have H' := Aside0.mk H
       clear H
       have p261 : 0 ≤ (x8_1 : Int) := of_decide_eq_true asmB
       have q261 : x8_1 < (l0.length : Int) := of_decide_eq_true asmB
       obtain ⟨ad261, e261, hx261_0⟩ := Kd.at_string HR0.out x8_1 p261 q261
       cases e261
       replace p261 := eq_true p261
       replace q261 := eq_true q261
       go_wp2
       go_roundg k1
       case measure => have := HK1.out; omega
       case rel => exact ⟨(wrap64 (x8_1 + 1)), rB, H', ⟨by have := HK1.out; omega⟩, by repeat (first | exact Drawn0.refl _ | apply Drawn0.step)⟩
     ·rw [if_neg c5] at H
      exact absurd H (by simp)
    ·rw [if_neg c4] at H
     exact absurd H (by simp)
   ·obtain rfl := Option.some.inj H
    go_wp2
    go_ret
    exact ⟨rB, by repeat (first | exact Drawn0.refl _ | apply Drawn0.step)⟩

/-! ### strings_Cut: function 24 -/
-- calls: none

def strings_Cut.f (s sep : ByteArray) : Option (ByteArray × ByteArray × Bool) := if s.size < 4294967281 then some ((⟨(Lib.cut s.data.toList sep.data.toList).1.toArray⟩ : ByteArray), (⟨(Lib.cut s.data.toList sep.data.toList).2.1.toArray⟩ : ByteArray), (Lib.cut s.data.toList sep.data.toList).2.2) else none
theorem strings_Cut.calls (a0 a1 r1 r2 : ByteArray) (r3 : Bool) (w : World) (h : strings_Cut.f a0 a1 = some (r1, r2, r3)) (hT : TabW w) :
  Calls Tryz.prog 24 #[.string a0, .string a1] w fun e w' => e = .returned (.tuple #[.string r1, .string r2, .bool r3]) ∧ Below w.heap.size w w' := by
 obtain ⟨h0, h1⟩ := guard_some h
 clear h
 obtain ⟨e1, h2⟩ := Prod.mk.inj (Option.some.inj h1)
 obtain ⟨e2, e3⟩ := Prod.mk.inj h2
 subst e1 e2 e3
 obtain ⟨m, hm⟩ := hT.2.2.1
 refine (Any.strings_Cut Tryz.lays145 a0 a1 m w h0 hm).mono ?_
 rintro e w' ⟨rfl, n, rfl⟩
 exact ⟨rfl, pw_below_drewN (Below.refl _ _) n⟩

/-! ### impl_ParseInt: function 44 -/
-- calls: none
-- reaches: impl.decimal
-- reaches: impl.within
def parI (s : ByteArray) : Int × Bool := match Lib.atoiAll s.data.toList with
 | .ok v => if (⟨(Lib.itoa v).toArray⟩ : ByteArray).toList = s.toList then (if -999999 ≤ v ∧ v ≤ 999999 then (v, true) else (0, false)) else (0, false)
 | _ => (0, false)
def impl_ParseInt.f (a0 : ByteArray) : Option (Int × Bool) := if a0.size ≤ 281474976710656 then some (parI a0) else none
set_option maxHeartbeats 4000000 in
set_option maxRecDepth 100000 in
theorem impl_ParseInt.calls (a0 : ByteArray) (r1 : Int) (r2 : Bool) (w : World) (h : impl_ParseInt.f a0 = some (r1, r2)) (hTW : TabW w) :
  Calls Tryz.prog 44 #[.string a0] w fun e w' => e = .returned (.tuple #[.int .i64 r1, .bool r2]) ∧ Below w.heap.size w w' := by
 obtain ⟨hs, h⟩ := guard_some h
 have HR := Option.some.inj h
 clear h
 unfold parI at HR
 have bad : (∃ (x : Int) (t : TypeId) (p : Value), Calls Tryz.prog 60 #[.string a0] w fun e w' => (∃ q, e = .returned (.tuple #[.int .i64 x, .iface t (.pointer q)])) ∧ Below w.heap.size w w') → (r1, r2) = ((0 : Int), false) → Calls Tryz.prog 44 #[.string a0] w fun e w' => e = .returned (.tuple #[.int .i64 r1, .bool r2]) ∧ Below w.heap.size w w' := by
  rintro ⟨x, t, p, hcon⟩ hr
  obtain ⟨rfl, rfl⟩ := Prod.mk.inj hr
  clear hTW hs HR hr
  go_enter Tryz.func44, Tryz.ntmps44
  go_wp2_with (go_at_call 60; refine hcon.mono ?_; rintro e w1 ⟨⟨q, rfl⟩, hb⟩; have HB := Aside0.mk hb; clear hb)
  go_ret2
  exact ⟨rfl, HB.out⟩
 rcases hA : Lib.atoiAll a0.data.toList with v | _ | _
 rotate_left
 ·skip
  rw [hA] at HR
  obtain ⟨ev, hv, hev⟩ := hTW.2.2.2.1
  refine bad ⟨0, Tryz.lays172_ren.t 168, .nilIface, (Any.strconv_Atoi_syntax Tryz.lays172 a0 (by omega) hA ev w hv hev).mono ?_⟩ HR.symm
  rintro e w' ⟨N, rfl, _, _, hb⟩
  exact ⟨⟨_, rfl⟩, hb⟩
 ·skip
  rw [hA] at HR
  obtain ⟨ev, hv, hev⟩ := hTW.2.2.2.2
  refine bad ⟨Lib.atoiSat a0.data.toList, Tryz.lays172_ren.t 168, .nilIface, (Any.strconv_Atoi_range Tryz.lays172 a0 (by omega) hA ev w hv hev).mono ?_⟩ HR.symm
  rintro e w' ⟨N, rfl, _, _, hb⟩
  exact ⟨⟨_, rfl⟩, hb⟩
 ·skip
  rw [hA] at HR
  dsimp only at HR
  obtain ⟨b0, b1⟩ := Lib.atoiAll_bounds hA
  have hcon : Calls Tryz.prog 60 #[.string a0] w fun e w' => e = .returned (.tuple #[.int .i64 v, .nilIface]) ∧ Below w.heap.size w w' := by
   refine (Any.strconv_Atoi_ok Tryz.lays172 a0 (by omega) v hA w).mono ?_
   rintro e w' ⟨rfl, hw⟩
   refine ⟨rfl, ?_⟩
   rcases hw with rfl | ⟨t, rfl⟩
   ·exact Below.refl _ _
   ·exact Lib.bytesWorld_below _ _ _
  have hdec : impl_decimal.f v = some (⟨(Lib.itoa v).toArray⟩ : ByteArray) := by
   unfold impl_decimal.f
   rw [if_pos ⟨b0, b1⟩]
  have A1 := Aside0.mk hcon
  have A2 := Aside0.mk hdec
  clear hcon hdec hA bad hs
  generalize (⟨(Lib.itoa v).toArray⟩ : ByteArray) = t at A2 HR
  have hin : impl_within.f v (-999999) 999999 = some (decide (-999999 ≤ v ∧ v ≤ 999999)) := by
   unfold impl_within.f
   by_cases h : v ≥ -999999 <;> simp [h] <;> omega
  have A3 := Aside0.mk hin
  clear hin
  by_cases c1 : t.toList = a0.toList
  ·rw [if_pos c1] at HR
   have c1b0 : (t.toList == a0.toList) = true := beq_iff_eq.mpr c1
   have c1b1 : (t.toList != a0.toList) = false := bne_eq_false_iff_eq.mpr c1
   clear c1
   by_cases c2 : -999999 ≤ v ∧ v ≤ 999999
   ·rw [if_pos c2] at HR
    obtain ⟨rfl, rfl⟩ := Prod.mk.inj HR
    rw [decide_eq_true c2] at A3
    clear HR c2 b0 b1
    go_enter Tryz.func44, Tryz.ntmps44
    go_wp2_with (first | (go_at_call 60; refine A1.out.mono ?_; rintro e w1 ⟨rfl, hb⟩; have HB := Aside0.mk hb; clear hb) | (go_at_call 41; refine (impl_decimal.calls _ _ _ A2.out (TabW.up HB hTW)).mono ?_; rintro e w2 ⟨rfl, hb⟩; have HB2 := Aside0.mk (below_step HB.out hb); clear hb HB; have HB := HB2; clear HB2) | (go_at_call 40; refine (impl_within.calls _ _ _ _ _ A3.out).mono ?_; rintro e w3 ⟨rfl, hd⟩; have hb := hd.below; clear hd; have HB2 := Aside0.mk (below_step HB.out hb); clear hb HB; have HB := HB2; clear HB2))
    go_ret2
    exact ⟨rfl, HB.out⟩
   ·rw [if_neg c2] at HR
    obtain ⟨rfl, rfl⟩ := Prod.mk.inj HR
    rw [decide_eq_false c2] at A3
    clear HR c2 b0 b1
    go_enter Tryz.func44, Tryz.ntmps44
    go_wp2_with (first | (go_at_call 60; refine A1.out.mono ?_; rintro e w1 ⟨rfl, hb⟩; have HB := Aside0.mk hb; clear hb) | (go_at_call 41; refine (impl_decimal.calls _ _ _ A2.out (TabW.up HB hTW)).mono ?_; rintro e w2 ⟨rfl, hb⟩; have HB2 := Aside0.mk (below_step HB.out hb); clear hb HB; have HB := HB2; clear HB2) | (go_at_call 40; refine (impl_within.calls _ _ _ _ _ A3.out).mono ?_; rintro e w3 ⟨rfl, hd⟩; have hb := hd.below; clear hd; have HB2 := Aside0.mk (below_step HB.out hb); clear hb HB; have HB := HB2; clear HB2))
    go_ret2
    exact ⟨rfl, HB.out⟩
  ·rw [if_neg c1] at HR
   obtain ⟨rfl, rfl⟩ := Prod.mk.inj HR
   have c1b0 : (t.toList == a0.toList) = false := beq_eq_false_iff_ne.mpr c1
   have c1b1 : (t.toList != a0.toList) = true := bne_iff_ne.mpr c1
   clear HR c1 b0 b1
   go_enter Tryz.func44, Tryz.ntmps44
   go_wp2_with (first | (go_at_call 60; refine A1.out.mono ?_; rintro e w1 ⟨rfl, hb⟩; have HB := Aside0.mk hb; clear hb) | (go_at_call 41; refine (impl_decimal.calls _ _ _ A2.out (TabW.up HB hTW)).mono ?_; rintro e w2 ⟨rfl, hb⟩; have HB2 := Aside0.mk (below_step HB.out hb); clear hb HB; have HB := HB2; clear HB2))
   go_ret2
   exact ⟨rfl, HB.out⟩

/-! ### impl_parseInts: function 25 -/
def impl_parseInts.l0 : Nat → List Int → List ByteArray → Int → Int → Option (List Int × Bool)
 | 0, _, _, _, _ => none
 | k + 1, x4, x9, x10, x11 => if x11 < x10 then (if 0 ≤ x11 then (if x11 < (x9.length : Int) then ((impl_ParseInt.f (rdOf ByteArray.empty x9 x11)).bind fun bt263 => (if bt263.2 = true then (if x4.length < 17592186044416 then (impl_parseInts.l0 k (x4 ++ [bt263.1]) x9 x10 (wrap64 (x11 + 1))) else (none)) else (some (([] : List Int), false)))) else (none)) else (none)) else (some (x4, true))
def impl_parseInts.f (k : Nat) (l0 : List ByteArray) : Option (List Int × Bool) := impl_parseInts.l0 k ([] : List Int) l0 (l0.length : Int) 0
theorem impl_parseInts.mono_l : ∀ k, (∀ y0 y1 y2 y3, LeO (impl_parseInts.l0 k y0 y1 y2 y3) (impl_parseInts.l0 (k + 1) y0 y1 y2 y3))
 | 0 => fun _ _ _ _ r h => by simp [impl_parseInts.l0] at h
 | k + 1 => by
  have ih0 := impl_parseInts.mono_l k
  ·intro y0 y1 y2 y3
   unfold impl_parseInts.l0
   repeat' with_reducible first | apply ih0 | exact LeO.refl _ | exact LeO.none _ | refine LeO.ite ?_ ?_ | refine LeO.bind ?_ (fun _ => ?_)
theorem impl_parseInts.mono : ∀ a0 k, LeO (impl_parseInts.f k a0) (impl_parseInts.f (k + 1) a0) := by
 intro a0 k
 have ih0 := impl_parseInts.mono_l k
 unfold impl_parseInts.f
 repeat' with_reducible first | apply ih0 | exact LeO.refl _ | exact LeO.none _ | refine LeO.ite ?_ ?_ | refine LeO.bind ?_ (fun _ => ?_)
set_option maxHeartbeats 8000000 in
set_option maxRecDepth 100000 in
theorem impl_parseInts.calls (k : Nat) (A0 : Option Addr) (c0 : Nat) (l0 : List ByteArray) (r1 : List Int) (r2 : Bool) (w : World) (hr0 : Kd.C Kd.string w A0 l0.length l0) (hc0 : l0.length ≤ c0) (h : impl_parseInts.f k l0 = some (r1, r2)) (hTW : TabW w) :
  Calls Tryz.prog 25 #[.slice A0 l0.length c0] w fun e w' => ∃ v0_ : Value, e = .returned (.tuple #[v0_, .bool r2]) ∧ Kd.R (Kd.int .i64) 3 w' w.heap.size (fun _ => True) v0_ r1 ∧ Below w.heap.size w w' := by
 have HR0 := Aside0.mk hr0
 have HC0 := Aside0.mk hc0
 clear hr0 hc0
 have HB := Aside0.mk (Below.refl w.heap.size w)
 have H := h
 clear h
 unfold impl_parseInts.f at H
 have H' := Aside0.mk H
 clear H
 go_enter Tryz.func25, Tryz.ntmps25
 go_wp2
 go_loopg [4, 11] k (fun kq v4 v11 w' => ∃ (x4_1 : List Int) (x11_1 : Int), v11 = .int .i64 x11_1 ∧ Aside0 (impl_parseInts.l0 kq x4_1 l0 (l0.length : Int) x11_1 = some (r1, r2)) ∧ Aside0 (kq ≤ k) ∧ Aside0 (Kd.R (Kd.int .i64) 3 w' w.heap.size (fun _ => True) v4 x4_1) ∧ Aside0 (Below w.heap.size w w'))
 case atStart => exact ⟨(([] : List Int)), (0), rB, H', ⟨Nat.le_refl _⟩, ⟨by first | exact Kd.R_nil _ _ _ _ _ | exact Kd.N_nil _ _ _ _ _ | exact Kd.V_nil _ _ _ _ _ | exact Kd.Q_nil _ _ _ _ _ | exact Kd.S_nil _ _ _ _ _⟩, (aB HB)⟩
 case round =>
  clear H'
  obtain ⟨x4_1, x11_1, rfl, HA, HK1, HO_4, HB⟩ := hrel
  cases gk with
  | zero => exact absurd HA.out (by simp [impl_parseInts.l0])
  | succ k1 =>
   have H := HA.out
   clear HA
   simp only [impl_parseInts.l0] at H
   replace H := ifD H
   rcases H with ⟨H, -, c2b0⟩ | ⟨H, -, c2b0⟩
   ·by_cases c3 : 0 ≤ x11_1
    ·rw [if_pos c3] at H
     have c3b0 : decide (0 ≤ x11_1) = true := decide_eq_true c3
     clear c3
     by_cases c4 : x11_1 < (l0.length : Int)
     ·rw [if_pos c4] at H
      have c4b0 : decide (x11_1 < (l0.length : Int)) = true := decide_eq_true c4
      clear c4
      replace H := Option.bind_eq_some_iff.mp H
      obtain ⟨⟨t263, t264⟩, A50, H⟩ := H
      replace H : (if t264 = true then (if x4_1.length < 17592186044416 then (impl_parseInts.l0 k1 (x4_1 ++ [t263]) l0 (l0.length : Int) (wrap64 (x11_1 + 1))) else (none)) else (some (([] : List Int), false))) = some (r1, r2) := H
      have A5 := Aside0.mk A50
      clear A50
      rcases Bool.eq_false_or_eq_true t264 with rfl | rfl
      ·replace H := iT rfl H
       by_cases c7 : x4_1.length < 17592186044416
       ·rw [if_pos c7] at H
        have LMc7 := Aside0.mk c7
        clear c7
        obtain ⟨y265, hy265⟩ : ∃ y_ : List Int, y_ = (x4_1 ++ [t263]) := ⟨_, rfl⟩
        replace H : (impl_parseInts.l0 k1 y265 l0 (l0.length : Int) (wrap64 (x11_1 + 1))) = some (r1, r2) := by first | (rw [hy265]; with_reducible exact H) | (have H2_ := (Option.bind_some _ _).symm.trans H; rw [hy265]; with_reducible exact H2_) | (have H2_ := (Option.bind_some _ _).symm.trans H; with_reducible exact H2_) | with_reducible exact H | (rw [hy265]; exact H) | exact H
        have Ny265 := Aside0.mk hy265
        clear hy265
        have H' := Aside0.mk H
        clear H
        have p262 : 0 ≤ (x11_1 : Int) := of_decide_eq_true asmB
        have q262 : x11_1 < (l0.length : Int) := of_decide_eq_true asmB
        obtain ⟨ad262, e262, hx262_0⟩ := Kd.at_string HR0.out x11_1 p262 q262
        cases e262
        replace hx262_0 := bx HB.out hx262_0
        replace p262 := eq_true p262
        replace q262 := eq_true q262
        go_wp2_with (first | ((with_reducible refine gC 44 ?_); refine lA (some 17) Tryz.func44 (impl_ParseInt.calls (rdOf ByteArray.empty l0 x11_1) t263 true _ A5.out (TabW.up2 hTW HB.out)) ?_; intro w8 hb; replace HO_4 := uR HO_4 hb; replace HB := uB HB hb; (try clear hb); (try clear hk)) | ((with_reducible refine gate_builtin (b := .append) (xs := #[.tmp 22, .tmp 24]) rfl ?_); at_builtin; refine Kd.R_append (Kd.int .i64) (w0 := w) w.heap.size rfl (.tmp 22) (.tmp 24) 35 3 (.int .i64 0) 8 rfl Tryz.underlying35 info3 rfl (by decide) (by omega) u4 x4_1 t263 [.int .i64 t263] (fun _ => True) (fun _ => False) rfl rfl ?aP (fun _ hk => hk.elim) ?aF ?aO ?aB ?aS ?aL ?_; (case aP => exact rfl); (case aB => exact (bW HB)); (case aF => exact (fun _ _ => trivial)); (case aO => exact (upR HO_4.out)); (case aS => exact (below_size (bW HB))); (case aL => have := LMc7.out; omega); intro v266 w9 ho hb hg hat; rw [← Ny265.out] at ho; have HO267 := Aside0.mk (ho); replace HB := Aside0.mk (hb); clear HO_4; clear ho hb hg hat))
        go_roundg k1
        case measure => have := HK1.out; omega
        case rel => exact ⟨(y265), (wrap64 (x11_1 + 1)), rB, H', ⟨by have := HK1.out; omega⟩, ⟨upR HO267.out⟩, (aB HB)⟩
       ·rw [if_neg c7] at H
        exact absurd H (by simp)
      ·replace H := iF (by decide) H
       simp only [Option.some.injEq, Prod.mk.injEq] at H
       obtain ⟨rfl, rfl⟩ := H
       have p262 : 0 ≤ (x11_1 : Int) := of_decide_eq_true asmB
       have q262 : x11_1 < (l0.length : Int) := of_decide_eq_true asmB
       obtain ⟨ad262, e262, hx262_0⟩ := Kd.at_string HR0.out x11_1 p262 q262
       cases e262
       replace hx262_0 := bx HB.out hx262_0
       replace p262 := eq_true p262
       replace q262 := eq_true q262
       go_wp2_with (first | ((with_reducible refine gC 44 ?_); refine lA (some 17) Tryz.func44 (impl_ParseInt.calls (rdOf ByteArray.empty l0 x11_1) t263 false _ A5.out (TabW.up2 hTW HB.out)) ?_; intro w10 hb; replace HO_4 := uR HO_4 hb; replace HB := uB HB hb; (try clear hb); (try clear hk)))
       go_ret2
       exact ⟨_, eB, by first | exact Kd.R_nil _ _ _ _ _ | exact Kd.N_nil _ _ _ _ _ | exact Kd.V_nil _ _ _ _ _ | exact Kd.Q_nil _ _ _ _ _ | exact Kd.S_nil _ _ _ _ _, (bW HB)⟩
     ·rw [if_neg c4] at H
      exact absurd H (by simp)
    ·rw [if_neg c3] at H
     exact absurd H (by simp)
   ·simp only [Option.some.injEq, Prod.mk.injEq] at H
    obtain ⟨rfl, rfl⟩ := H
    go_wp2
    go_ret2
    exact ⟨_, eB, upR HO_4.out, (bW HB)⟩

/-! ### impl_xState: function 132 -/
-- reaches: slices.Index[[]string,string]
def impl_xState.f (a0 : ByteArray) : Option Int := slices_Index_string_string.f 20 stWords a0
theorem impl_xState.calls (a0 : ByteArray) (r : Int) (w : World) (h : impl_xState.f a0 = some r) (hTW : TabW w) :
  Calls Tryz.prog 23 #[.slice (some ⟨0, 0, none⟩) 6 6, .string a0] w fun e w' => e = .returned (.int .i64 r) ∧ Below w.heap.size w w' := by
 have hc : Kd.C Kd.string w (some ⟨0, 0, none⟩) stWords.length stWords := Kd.C_of_reads (d := ByteArray.empty) ⟨rfl, by decide, fun _ => ⟨_, rfl, fun j hj => by rw [Addr.add_lit, Nat.zero_add]; exact hTW.2.1 j hj⟩⟩
 refine (slices_Index_string_string.calls 20 (some ⟨0, 0, none⟩) 6 stWords a0 r w hc (by decide) h).mono ?_
 rintro e w' ⟨rfl, hd⟩
 exact ⟨rfl, hd.below⟩

end Go.Proofs.YtmeaacbnjpgepaaGreatDoor.QFnTripLists
