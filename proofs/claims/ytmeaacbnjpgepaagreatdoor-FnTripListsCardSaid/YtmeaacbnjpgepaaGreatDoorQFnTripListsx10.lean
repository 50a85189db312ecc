/- Contracts of Go functions that FnTripLists reaches: the call computes what the plain function says. No condition. -/
import Derived.Test.YtmeaacbnjpgepaaGreatDoorQFnTripListsx0
import Derived.Test.YtmeaacbnjpgepaaGreatDoorQFnTripListsx2
import Derived.Test.YtmeaacbnjpgepaaGreatDoorQFnTripListsx5
import Derived.Test.YtmeaacbnjpgepaaGreatDoorQFnTripListsx9
namespace Go.Proofs.YtmeaacbnjpgepaaGreatDoor.QFnTripLists
open Go.RowKit Go.Proofs.YtmeaacbnjpgepaaGreatDoorW.PrintWords Go.Proofs.YtmeaacbnjpgepaaGreatDoorW.PrintLast Go.Proofs.YtmeaacbnjpgepaaGreatDoorW.PrintMore
attribute [local go_sem] max2_int min2_int max_two min_two max_three min_three max_four min_four   -- for this text's walks alone
set_option linter.unusedVariables false
set_option linter.unusedSimpArgs false

/-! ### spec_l1Cur_spoilt: function 30 -/
def spec_l1Cur_spoilt.f (s0_0 : List Int) (s0_1 s0_2 : Int) (a1 a2 : ByteArray) : Option (ByteArray × Int × Int) := if a1.toList = ([] : List UInt8) then (if 1 ≤ (a2.size : Int) then (some (a2.extract 0 1, s0_1, s0_2)) else (none)) else ((spec_l1Cur_pick.f s0_0 s0_1 s0_2 (a1.size : Int)).bind fun bt311 => ((spec_l1Cur_pick.f s0_0 bt311.2.1 bt311.2.2 (a2.size : Int)).bind fun bt314 => (if 0 ≤ bt314.1 then (if bt314.1 ≤ (a2.size : Int) then (if 1 ≤ ((a2.extract (bt314.1 : Int).toNat a2.size).size : Int) then ((spec_l1Cur_pick.f s0_0 bt314.2.1 bt314.2.2 3).bind fun bt317 => (if bt317.1 = 0 then (if 0 ≤ bt311.1 then (if bt311.1 ≤ (a1.size : Int) then (if (a1.extract 0 (bt311.1 : Int).toNat).size + ((a2.extract (bt314.1 : Int).toNat a2.size).extract 0 1).size ≤ 9223372036854775807 then (if ((a1.extract 0 (bt311.1 : Int).toNat) ++ ((a2.extract (bt314.1 : Int).toNat a2.size).extract 0 1)).size + (a1.extract (bt311.1 : Int).toNat a1.size).size ≤ 9223372036854775807 then (some (((a1.extract 0 (bt311.1 : Int).toNat) ++ ((a2.extract (bt314.1 : Int).toNat a2.size).extract 0 1)) ++ (a1.extract (bt311.1 : Int).toNat a1.size), bt317.2.1, bt317.2.2)) else (none)) else (none)) else (none)) else (none)) else (if bt317.1 = 1 then (if 0 ≤ bt311.1 then (if bt311.1 ≤ (a1.size : Int) then (if (a1.extract 0 (bt311.1 : Int).toNat).size + ((a2.extract (bt314.1 : Int).toNat a2.size).extract 0 1).size ≤ 9223372036854775807 then (if 0 ≤ (wrap64 (bt311.1 + 1)) then (if (wrap64 (bt311.1 + 1)) ≤ (a1.size : Int) then (if ((a1.extract 0 (bt311.1 : Int).toNat) ++ ((a2.extract (bt314.1 : Int).toNat a2.size).extract 0 1)).size + (a1.extract ((wrap64 (bt311.1 + 1)) : Int).toNat a1.size).size ≤ 9223372036854775807 then (some (((a1.extract 0 (bt311.1 : Int).toNat) ++ ((a2.extract (bt314.1 : Int).toNat a2.size).extract 0 1)) ++ (a1.extract ((wrap64 (bt311.1 + 1)) : Int).toNat a1.size), bt317.2.1, bt317.2.2)) else (none)) else (none)) else (none)) else (none)) else (none)) else (none)) else (if 0 ≤ bt311.1 then (if bt311.1 ≤ (a1.size : Int) then (if 0 ≤ (wrap64 (bt311.1 + 1)) then (if (wrap64 (bt311.1 + 1)) ≤ (a1.size : Int) then (if (a1.extract 0 (bt311.1 : Int).toNat).size + (a1.extract ((wrap64 (bt311.1 + 1)) : Int).toNat a1.size).size ≤ 9223372036854775807 then (some ((a1.extract 0 (bt311.1 : Int).toNat) ++ (a1.extract ((wrap64 (bt311.1 + 1)) : Int).toNat a1.size), bt317.2.1, bt317.2.2)) else (none)) else (none)) else (none)) else (none)) else (none))))) else (none)) else (none)) else (none))))
set_option maxHeartbeats 8000000 in
set_option maxRecDepth 100000 in
theorem spec_l1Cur_spoilt.calls (g : Nat) (s0_0 : List Int) (s0_1 s0_2 : Int) (a1 a2 r1 : ByteArray) (r2 r3 : Int) (w0 w : World) (hI : IsS54 w0 w g s0_0 s0_1 s0_2) (hB : Below w0.heap.size w0 w) (h : spec_l1Cur_spoilt.f s0_0 s0_1 s0_2 a1 a2 = some (r1, r2, r3)) :
  Calls Tryz.prog 30 #[.pointer (some ⟨g, 0, none⟩), .string a1, .string a2] w fun e w' => e = .returned (.string r1) ∧ IsS54 w0 w' g s0_0 r2 r3 ∧ Below w0.heap.size w0 w' ∧ KeepBut w w' g none := by
 have HI0 := Aside0.mk hI
 have HK := Aside0.mk (KeepBut.refl w g none)
 have HL := Aside0.mk hB.size
 clear hI
 have HW0 := Aside0.mk hB.size
 have HB := Aside0.mk hB
 clear hB
 have H := h
 clear h
 unfold spec_l1Cur_spoilt.f at H
 replace H := ifI H
 rcases H with ⟨H, -, c4b0, c4b1⟩ | ⟨H, c4, c4b0, c4b1⟩
 ·by_cases c5 : 1 ≤ (a2.size : Int)
  ·rw [if_pos c5] at H
   have c5b0 := eq_true c5
   have c5b1 : decide (1 ≤ (a2.size : Int)) = true := decide_eq_true c5
   clear c5
   simp only [Option.some.injEq, Prod.mk.injEq] at H
   obtain ⟨rfl, rfl, rfl⟩ := H
   go_enter Tryz.func30, Tryz.ntmps30
   go_wp2
   repeat (go_quiet (fail); try go_wp2)
   go_ret
   exact ⟨eB, by repeat (first | (with_reducible first | exact HI0.out | apply IsS54.alloc | apply IsS54.drewN | apply IsS54.drew | apply IsS54.set_1 | apply IsS54.set_2) | exact HI0.out), by repeat (first | (with_reducible first | exact HB.out | apply below_alloc | apply pw_below_drewN | apply below_drew1 | refine below_set ?_ (IsS54.ge HI0.out)) | exact HB.out), by repeat (first | (with_reducible first | exact HK.out | apply KeepBut.set_ | apply keep_drewN | apply keep_drew | apply keep_alloc) | exact HK.out)⟩
  ·rw [if_neg c5] at H
   exact absurd H (by simp)
 ·replace H := Option.bind_eq_some_iff.mp H
  obtain ⟨⟨t311, t312, t313⟩, A60, H⟩ := H
  replace H : ((spec_l1Cur_pick.f s0_0 t312 t313 (a2.size : Int)).bind fun bt314 => (if 0 ≤ bt314.1 then (if bt314.1 ≤ (a2.size : Int) then (if 1 ≤ ((a2.extract (bt314.1 : Int).toNat a2.size).size : Int) then ((spec_l1Cur_pick.f s0_0 bt314.2.1 bt314.2.2 3).bind fun bt317 => (if bt317.1 = 0 then (if 0 ≤ t311 then (if t311 ≤ (a1.size : Int) then (if (a1.extract 0 (t311 : Int).toNat).size + ((a2.extract (bt314.1 : Int).toNat a2.size).extract 0 1).size ≤ 9223372036854775807 then (if ((a1.extract 0 (t311 : Int).toNat) ++ ((a2.extract (bt314.1 : Int).toNat a2.size).extract 0 1)).size + (a1.extract (t311 : Int).toNat a1.size).size ≤ 9223372036854775807 then (some (((a1.extract 0 (t311 : Int).toNat) ++ ((a2.extract (bt314.1 : Int).toNat a2.size).extract 0 1)) ++ (a1.extract (t311 : Int).toNat a1.size), bt317.2.1, bt317.2.2)) else (none)) else (none)) else (none)) else (none)) else (if bt317.1 = 1 then (if 0 ≤ t311 then (if t311 ≤ (a1.size : Int) then (if (a1.extract 0 (t311 : Int).toNat).size + ((a2.extract (bt314.1 : Int).toNat a2.size).extract 0 1).size ≤ 9223372036854775807 then (if 0 ≤ (wrap64 (t311 + 1)) then (if (wrap64 (t311 + 1)) ≤ (a1.size : Int) then (if ((a1.extract 0 (t311 : Int).toNat) ++ ((a2.extract (bt314.1 : Int).toNat a2.size).extract 0 1)).size + (a1.extract ((wrap64 (t311 + 1)) : Int).toNat a1.size).size ≤ 9223372036854775807 then (some (((a1.extract 0 (t311 : Int).toNat) ++ ((a2.extract (bt314.1 : Int).toNat a2.size).extract 0 1)) ++ (a1.extract ((wrap64 (t311 + 1)) : Int).toNat a1.size), bt317.2.1, bt317.2.2)) else (none)) else (none)) else (none)) else (none)) else (none)) else (none)) else (if 0 ≤ t311 then (if t311 ≤ (a1.size : Int) then (if 0 ≤ (wrap64 (t311 + 1)) then (if (wrap64 (t311 + 1)) ≤ (a1.size : Int) then (if (a1.extract 0 (t311 : Int).toNat).size + (a1.extract ((wrap64 (t311 + 1)) : Int).toNat a1.size).size ≤ 9223372036854775807 then (some ((a1.extract 0 (t311 : Int).toNat) ++ (a1.extract ((wrap64 (t311 + 1)) : Int).toNat a1.size), bt317.2.1, bt317.2.2)) else (none)) else (none)) else (none)) else (none)) else (none))))) else (none)) else (none)) else (none))) = some (r1, r2, r3) := H
  have A6 := Aside0.mk A60
  clear A60
  replace H := Option.bind_eq_some_iff.mp H
  obtain ⟨⟨t314, t315, t316⟩, A70, H⟩ := H
  replace H : (if 0 ≤ t314 then (if t314 ≤ (a2.size : Int) then (if 1 ≤ ((a2.extract (t314 : Int).toNat a2.size).size : Int) then ((spec_l1Cur_pick.f s0_0 t315 t316 3).bind fun bt317 => (if bt317.1 = 0 then (if 0 ≤ t311 then (if t311 ≤ (a1.size : Int) then (if (a1.extract 0 (t311 : Int).toNat).size + ((a2.extract (t314 : Int).toNat a2.size).extract 0 1).size ≤ 9223372036854775807 then (if ((a1.extract 0 (t311 : Int).toNat) ++ ((a2.extract (t314 : Int).toNat a2.size).extract 0 1)).size + (a1.extract (t311 : Int).toNat a1.size).size ≤ 9223372036854775807 then (some (((a1.extract 0 (t311 : Int).toNat) ++ ((a2.extract (t314 : Int).toNat a2.size).extract 0 1)) ++ (a1.extract (t311 : Int).toNat a1.size), bt317.2.1, bt317.2.2)) else (none)) else (none)) else (none)) else (none)) else (if bt317.1 = 1 then (if 0 ≤ t311 then (if t311 ≤ (a1.size : Int) then (if (a1.extract 0 (t311 : Int).toNat).size + ((a2.extract (t314 : Int).toNat a2.size).extract 0 1).size ≤ 9223372036854775807 then (if 0 ≤ (wrap64 (t311 + 1)) then (if (wrap64 (t311 + 1)) ≤ (a1.size : Int) then (if ((a1.extract 0 (t311 : Int).toNat) ++ ((a2.extract (t314 : Int).toNat a2.size).extract 0 1)).size + (a1.extract ((wrap64 (t311 + 1)) : Int).toNat a1.size).size ≤ 9223372036854775807 then (some (((a1.extract 0 (t311 : Int).toNat) ++ ((a2.extract (t314 : Int).toNat a2.size).extract 0 1)) ++ (a1.extract ((wrap64 (t311 + 1)) : Int).toNat a1.size), bt317.2.1, bt317.2.2)) else (none)) else (none)) else (none)) else (none)) else (none)) else (none)) else (if 0 ≤ t311 then (if t311 ≤ (a1.size : Int) then (if 0 ≤ (wrap64 (t311 + 1)) then (if (wrap64 (t311 + 1)) ≤ (a1.size : Int) then (if (a1.extract 0 (t311 : Int).toNat).size + (a1.extract ((wrap64 (t311 + 1)) : Int).toNat a1.size).size ≤ 9223372036854775807 then (some ((a1.extract 0 (t311 : Int).toNat) ++ (a1.extract ((wrap64 (t311 + 1)) : Int).toNat a1.size), bt317.2.1, bt317.2.2)) else (none)) else (none)) else (none)) else (none)) else (none))))) else (none)) else (none)) else (none)) = some (r1, r2, r3) := H
  have A7 := Aside0.mk A70
  clear A70
  by_cases c8 : 0 ≤ t314
  ·rw [if_pos c8] at H
   have c8b0 := eq_true c8
   have c8b1 : decide (0 ≤ t314) = true := decide_eq_true c8
   clear c8
   by_cases c9 : t314 ≤ (a2.size : Int)
   ·rw [if_pos c9] at H
    have c9b0 := eq_true c9
    have c9b1 : decide (t314 ≤ (a2.size : Int)) = true := decide_eq_true c9
    clear c9
    by_cases c10 : 1 ≤ ((a2.extract (t314 : Int).toNat a2.size).size : Int)
    ·rw [if_pos c10] at H
     have c10b0 := eq_true c10
     have c10b1 : decide (1 ≤ ((a2.extract (t314 : Int).toNat a2.size).size : Int)) = true := decide_eq_true c10
     (try (have c10b5 := c10b0; simp only [ByteArray.size_append', ByteArray.size_extract, Nat.sub_zero, Nat.min_self] at c10b5))
     clear c10
     replace H := Option.bind_eq_some_iff.mp H
     obtain ⟨⟨t317, t318, t319⟩, A110, H⟩ := H
     replace H : (if t317 = 0 then (if 0 ≤ t311 then (if t311 ≤ (a1.size : Int) then (if (a1.extract 0 (t311 : Int).toNat).size + ((a2.extract (t314 : Int).toNat a2.size).extract 0 1).size ≤ 9223372036854775807 then (if ((a1.extract 0 (t311 : Int).toNat) ++ ((a2.extract (t314 : Int).toNat a2.size).extract 0 1)).size + (a1.extract (t311 : Int).toNat a1.size).size ≤ 9223372036854775807 then (some (((a1.extract 0 (t311 : Int).toNat) ++ ((a2.extract (t314 : Int).toNat a2.size).extract 0 1)) ++ (a1.extract (t311 : Int).toNat a1.size), t318, t319)) else (none)) else (none)) else (none)) else (none)) else (if t317 = 1 then (if 0 ≤ t311 then (if t311 ≤ (a1.size : Int) then (if (a1.extract 0 (t311 : Int).toNat).size + ((a2.extract (t314 : Int).toNat a2.size).extract 0 1).size ≤ 9223372036854775807 then (if 0 ≤ (wrap64 (t311 + 1)) then (if (wrap64 (t311 + 1)) ≤ (a1.size : Int) then (if ((a1.extract 0 (t311 : Int).toNat) ++ ((a2.extract (t314 : Int).toNat a2.size).extract 0 1)).size + (a1.extract ((wrap64 (t311 + 1)) : Int).toNat a1.size).size ≤ 9223372036854775807 then (some (((a1.extract 0 (t311 : Int).toNat) ++ ((a2.extract (t314 : Int).toNat a2.size).extract 0 1)) ++ (a1.extract ((wrap64 (t311 + 1)) : Int).toNat a1.size), t318, t319)) else (none)) else (none)) else (none)) else (none)) else (none)) else (none)) else (if 0 ≤ t311 then (if t311 ≤ (a1.size : Int) then (if 0 ≤ (wrap64 (t311 + 1)) then (if (wrap64 (t311 + 1)) ≤ (a1.size : Int) then (if (a1.extract 0 (t311 : Int).toNat).size + (a1.extract ((wrap64 (t311 + 1)) : Int).toNat a1.size).size ≤ 9223372036854775807 then (some ((a1.extract 0 (t311 : Int).toNat) ++ (a1.extract ((wrap64 (t311 + 1)) : Int).toNat a1.size), t318, t319)) else (none)) else (none)) else (none)) else (none)) else (none)))) = some (r1, r2, r3) := H
     have A11 := Aside0.mk A110
     clear A110
     replace H := ifI H
     rcases H with ⟨H, -, c12b0, c12b1⟩ | ⟨H, c12, c12b0, c12b1⟩
     ·by_cases c13 : 0 ≤ t311
      ·rw [if_pos c13] at H
       have c13b0 := eq_true c13
       have c13b1 : decide (0 ≤ t311) = true := decide_eq_true c13
       clear c13
       by_cases c14 : t311 ≤ (a1.size : Int)
       ·rw [if_pos c14] at H
        have c14b0 := eq_true c14
        have c14b1 : decide (t311 ≤ (a1.size : Int)) = true := decide_eq_true c14
        clear c14
        by_cases c15 : (a1.extract 0 (t311 : Int).toNat).size + ((a2.extract (t314 : Int).toNat a2.size).extract 0 1).size ≤ 9223372036854775807
        ·rw [if_pos c15] at H
         have c15b0 := eq_true c15
         have c15b1 : decide ((a1.extract 0 (t311 : Int).toNat).size + ((a2.extract (t314 : Int).toNat a2.size).extract 0 1).size ≤ 9223372036854775807) = true := decide_eq_true c15
         (try (have c15b5 := c15b0; simp only [ByteArray.size_append', ByteArray.size_extract, Nat.sub_zero, Nat.min_self] at c15b5))
         try have c15b2 : (9223372036854775807 < (a1.extract 0 (t311 : Int).toNat).size + ((a2.extract (t314 : Int).toNat a2.size).extract 0 1).size) = False := eq_false (Nat.not_lt.2 c15)
         (try (have c15b4 := c15b2; simp only [ByteArray.size_append', ByteArray.size_extract, Nat.sub_zero, Nat.min_self] at c15b4))
         have c16b0 := eq_true (of_decide_eq_true asmB : 0 ≤ t311)
         have c17b0 := eq_true (of_decide_eq_true asmB : t311 ≤ (a1.size : Int))
         by_cases c18 : ((a1.extract 0 (t311 : Int).toNat) ++ ((a2.extract (t314 : Int).toNat a2.size).extract 0 1)).size + (a1.extract (t311 : Int).toNat a1.size).size ≤ 9223372036854775807
         ·rw [if_pos c18] at H
          have c18b0 := eq_true c18
          have c18b1 : decide (((a1.extract 0 (t311 : Int).toNat) ++ ((a2.extract (t314 : Int).toNat a2.size).extract 0 1)).size + (a1.extract (t311 : Int).toNat a1.size).size ≤ 9223372036854775807) = true := decide_eq_true c18
          (try (have c18b5 := c18b0; simp only [ByteArray.size_append', ByteArray.size_extract, Nat.sub_zero, Nat.min_self] at c18b5))
          try have c18b2 : (9223372036854775807 < ((a1.extract 0 (t311 : Int).toNat) ++ ((a2.extract (t314 : Int).toNat a2.size).extract 0 1)).size + (a1.extract (t311 : Int).toNat a1.size).size) = False := eq_false (Nat.not_lt.2 c18)
          (try (have c18b4 := c18b2; simp only [ByteArray.size_append', ByteArray.size_extract, Nat.sub_zero, Nat.min_self] at c18b4))
          simp only [Option.some.injEq, Prod.mk.injEq] at H
          obtain ⟨rfl, rfl, rfl⟩ := H
          go_enter Tryz.func30, Tryz.ntmps30
          go_wp2_with (first | (go_at_call 49; (with_reducible refine (spec_l1Cur_pick.calls g s0_0 s0_1 s0_2 (a1.size : Int) t311 t312 t313 w0 _ ?side1 ?side2 A6.out).mono ?_); (case side1 => repeat (first | (with_reducible first | exact HI0.out | apply IsS54.alloc | apply IsS54.drewN | apply IsS54.drew | apply IsS54.set_1 | apply IsS54.set_2) | exact HI0.out)); (case side2 => repeat (first | (with_reducible first | exact HB.out | apply below_alloc | apply pw_below_drewN | apply below_drew1 | refine below_set ?_ (IsS54.ge HI0.out)) | exact HB.out)); rintro e w19 ⟨rfl, hi, hb, hk⟩; replace HK := Aside0.mk (KeepBut.trans (by repeat (first | (with_reducible first | exact HK.out | apply KeepBut.set_ | apply keep_drewN | apply keep_drew | apply keep_alloc) | exact HK.out)) hk (.inl rfl)); replace HB := Aside0.mk (hb); replace HI0 := Aside0.mk (hi); (try clear hb); (try clear hk); (try clear hi)) | (go_at_call 49; (with_reducible refine (spec_l1Cur_pick.calls g s0_0 t312 t313 (a2.size : Int) t314 t315 t316 w0 _ ?side1 ?side2 A7.out).mono ?_); (case side1 => repeat (first | (with_reducible first | exact HI0.out | apply IsS54.alloc | apply IsS54.drewN | apply IsS54.drew | apply IsS54.set_1 | apply IsS54.set_2) | exact HI0.out)); (case side2 => repeat (first | (with_reducible first | exact HB.out | apply below_alloc | apply pw_below_drewN | apply below_drew1 | refine below_set ?_ (IsS54.ge HI0.out)) | exact HB.out)); rintro e w20 ⟨rfl, hi, hb, hk⟩; replace HK := Aside0.mk (KeepBut.trans (by repeat (first | (with_reducible first | exact HK.out | apply KeepBut.set_ | apply keep_drewN | apply keep_drew | apply keep_alloc) | exact HK.out)) hk (.inl rfl)); replace HB := Aside0.mk (hb); replace HI0 := Aside0.mk (hi); (try clear hb); (try clear hk); (try clear hi)) | (go_at_call 49; (with_reducible refine (spec_l1Cur_pick.calls g s0_0 t315 t316 3 t317 t318 t319 w0 _ ?side1 ?side2 A11.out).mono ?_); (case side1 => repeat (first | (with_reducible first | exact HI0.out | apply IsS54.alloc | apply IsS54.drewN | apply IsS54.drew | apply IsS54.set_1 | apply IsS54.set_2) | exact HI0.out)); (case side2 => repeat (first | (with_reducible first | exact HB.out | apply below_alloc | apply pw_below_drewN | apply below_drew1 | refine below_set ?_ (IsS54.ge HI0.out)) | exact HB.out)); rintro e w21 ⟨rfl, hi, hb, hk⟩; replace HK := Aside0.mk (KeepBut.trans (by repeat (first | (with_reducible first | exact HK.out | apply KeepBut.set_ | apply keep_drewN | apply keep_drew | apply keep_alloc) | exact HK.out)) hk (.inl rfl)); replace HB := Aside0.mk (hb); replace HI0 := Aside0.mk (hi); (try clear hb); (try clear hk); (try clear hi)))
          repeat (go_quiet (first | (go_at_call 49; (with_reducible refine (spec_l1Cur_pick.calls g s0_0 s0_1 s0_2 (a1.size : Int) t311 t312 t313 w0 _ ?side1 ?side2 A6.out).mono ?_); (case side1 => repeat (first | (with_reducible first | exact HI0.out | apply IsS54.alloc | apply IsS54.drewN | apply IsS54.drew | apply IsS54.set_1 | apply IsS54.set_2) | exact HI0.out)); (case side2 => repeat (first | (with_reducible first | exact HB.out | apply below_alloc | apply pw_below_drewN | apply below_drew1 | refine below_set ?_ (IsS54.ge HI0.out)) | exact HB.out)); rintro e w19 ⟨rfl, hi, hb, hk⟩; replace HK := Aside0.mk (KeepBut.trans (by repeat (first | (with_reducible first | exact HK.out | apply KeepBut.set_ | apply keep_drewN | apply keep_drew | apply keep_alloc) | exact HK.out)) hk (.inl rfl)); replace HB := Aside0.mk (hb); replace HI0 := Aside0.mk (hi); (try clear hb); (try clear hk); (try clear hi)) | (go_at_call 49; (with_reducible refine (spec_l1Cur_pick.calls g s0_0 t312 t313 (a2.size : Int) t314 t315 t316 w0 _ ?side1 ?side2 A7.out).mono ?_); (case side1 => repeat (first | (with_reducible first | exact HI0.out | apply IsS54.alloc | apply IsS54.drewN | apply IsS54.drew | apply IsS54.set_1 | apply IsS54.set_2) | exact HI0.out)); (case side2 => repeat (first | (with_reducible first | exact HB.out | apply below_alloc | apply pw_below_drewN | apply below_drew1 | refine below_set ?_ (IsS54.ge HI0.out)) | exact HB.out)); rintro e w20 ⟨rfl, hi, hb, hk⟩; replace HK := Aside0.mk (KeepBut.trans (by repeat (first | (with_reducible first | exact HK.out | apply KeepBut.set_ | apply keep_drewN | apply keep_drew | apply keep_alloc) | exact HK.out)) hk (.inl rfl)); replace HB := Aside0.mk (hb); replace HI0 := Aside0.mk (hi); (try clear hb); (try clear hk); (try clear hi)) | (go_at_call 49; (with_reducible refine (spec_l1Cur_pick.calls g s0_0 t315 t316 3 t317 t318 t319 w0 _ ?side1 ?side2 A11.out).mono ?_); (case side1 => repeat (first | (with_reducible first | exact HI0.out | apply IsS54.alloc | apply IsS54.drewN | apply IsS54.drew | apply IsS54.set_1 | apply IsS54.set_2) | exact HI0.out)); (case side2 => repeat (first | (with_reducible first | exact HB.out | apply below_alloc | apply pw_below_drewN | apply below_drew1 | refine below_set ?_ (IsS54.ge HI0.out)) | exact HB.out)); rintro e w21 ⟨rfl, hi, hb, hk⟩; replace HK := Aside0.mk (KeepBut.trans (by repeat (first | (with_reducible first | exact HK.out | apply KeepBut.set_ | apply keep_drewN | apply keep_drew | apply keep_alloc) | exact HK.out)) hk (.inl rfl)); replace HB := Aside0.mk (hb); replace HI0 := Aside0.mk (hi); (try clear hb); (try clear hk); (try clear hi))); try go_wp2_with (first | (go_at_call 49; (with_reducible refine (spec_l1Cur_pick.calls g s0_0 s0_1 s0_2 (a1.size : Int) t311 t312 t313 w0 _ ?side1 ?side2 A6.out).mono ?_); (case side1 => repeat (first | (with_reducible first | exact HI0.out | apply IsS54.alloc | apply IsS54.drewN | apply IsS54.drew | apply IsS54.set_1 | apply IsS54.set_2) | exact HI0.out)); (case side2 => repeat (first | (with_reducible first | exact HB.out | apply below_alloc | apply pw_below_drewN | apply below_drew1 | refine below_set ?_ (IsS54.ge HI0.out)) | exact HB.out)); rintro e w19 ⟨rfl, hi, hb, hk⟩; replace HK := Aside0.mk (KeepBut.trans (by repeat (first | (with_reducible first | exact HK.out | apply KeepBut.set_ | apply keep_drewN | apply keep_drew | apply keep_alloc) | exact HK.out)) hk (.inl rfl)); replace HB := Aside0.mk (hb); replace HI0 := Aside0.mk (hi); (try clear hb); (try clear hk); (try clear hi)) | (go_at_call 49; (with_reducible refine (spec_l1Cur_pick.calls g s0_0 t312 t313 (a2.size : Int) t314 t315 t316 w0 _ ?side1 ?side2 A7.out).mono ?_); (case side1 => repeat (first | (with_reducible first | exact HI0.out | apply IsS54.alloc | apply IsS54.drewN | apply IsS54.drew | apply IsS54.set_1 | apply IsS54.set_2) | exact HI0.out)); (case side2 => repeat (first | (with_reducible first | exact HB.out | apply below_alloc | apply pw_below_drewN | apply below_drew1 | refine below_set ?_ (IsS54.ge HI0.out)) | exact HB.out)); rintro e w20 ⟨rfl, hi, hb, hk⟩; replace HK := Aside0.mk (KeepBut.trans (by repeat (first | (with_reducible first | exact HK.out | apply KeepBut.set_ | apply keep_drewN | apply keep_drew | apply keep_alloc) | exact HK.out)) hk (.inl rfl)); replace HB := Aside0.mk (hb); replace HI0 := Aside0.mk (hi); (try clear hb); (try clear hk); (try clear hi)) | (go_at_call 49; (with_reducible refine (spec_l1Cur_pick.calls g s0_0 t315 t316 3 t317 t318 t319 w0 _ ?side1 ?side2 A11.out).mono ?_); (case side1 => repeat (first | (with_reducible first | exact HI0.out | apply IsS54.alloc | apply IsS54.drewN | apply IsS54.drew | apply IsS54.set_1 | apply IsS54.set_2) | exact HI0.out)); (case side2 => repeat (first | (with_reducible first | exact HB.out | apply below_alloc | apply pw_below_drewN | apply below_drew1 | refine below_set ?_ (IsS54.ge HI0.out)) | exact HB.out)); rintro e w21 ⟨rfl, hi, hb, hk⟩; replace HK := Aside0.mk (KeepBut.trans (by repeat (first | (with_reducible first | exact HK.out | apply KeepBut.set_ | apply keep_drewN | apply keep_drew | apply keep_alloc) | exact HK.out)) hk (.inl rfl)); replace HB := Aside0.mk (hb); replace HI0 := Aside0.mk (hi); (try clear hb); (try clear hk); (try clear hi))))
          go_ret
          exact ⟨eB, by repeat (first | (with_reducible first | exact HI0.out | apply IsS54.alloc | apply IsS54.drewN | apply IsS54.drew | apply IsS54.set_1 | apply IsS54.set_2) | exact HI0.out), by repeat (first | (with_reducible first | exact HB.out | apply below_alloc | apply pw_below_drewN | apply below_drew1 | refine below_set ?_ (IsS54.ge HI0.out)) | exact HB.out), by repeat (first | (with_reducible first | exact HK.out | apply KeepBut.set_ | apply keep_drewN | apply keep_drew | apply keep_alloc) | exact HK.out)⟩
         ·rw [if_neg c18] at H
          exact absurd H (by simp)
        ·rw [if_neg c15] at H
         exact absurd H (by simp)
       ·rw [if_neg c14] at H
        exact absurd H (by simp)
      ·rw [if_neg c13] at H
       exact absurd H (by simp)
     ·replace H := ifI H
      rcases H with ⟨H, -, c22b0, c22b1⟩ | ⟨H, c22, c22b0, c22b1⟩
      ·by_cases c23 : 0 ≤ t311
       ·rw [if_pos c23] at H
        have c23b0 := eq_true c23
        have c23b1 : decide (0 ≤ t311) = true := decide_eq_true c23
        clear c23
        by_cases c24 : t311 ≤ (a1.size : Int)
        ·rw [if_pos c24] at H
         have c24b0 := eq_true c24
         have c24b1 : decide (t311 ≤ (a1.size : Int)) = true := decide_eq_true c24
         clear c24
         by_cases c25 : (a1.extract 0 (t311 : Int).toNat).size + ((a2.extract (t314 : Int).toNat a2.size).extract 0 1).size ≤ 9223372036854775807
         ·rw [if_pos c25] at H
          have c25b0 := eq_true c25
          have c25b1 : decide ((a1.extract 0 (t311 : Int).toNat).size + ((a2.extract (t314 : Int).toNat a2.size).extract 0 1).size ≤ 9223372036854775807) = true := decide_eq_true c25
          (try (have c25b5 := c25b0; simp only [ByteArray.size_append', ByteArray.size_extract, Nat.sub_zero, Nat.min_self] at c25b5))
          try have c25b2 : (9223372036854775807 < (a1.extract 0 (t311 : Int).toNat).size + ((a2.extract (t314 : Int).toNat a2.size).extract 0 1).size) = False := eq_false (Nat.not_lt.2 c25)
          (try (have c25b4 := c25b2; simp only [ByteArray.size_append', ByteArray.size_extract, Nat.sub_zero, Nat.min_self] at c25b4))
          obtain ⟨ji26, hji26⟩ : ∃ j_ : Int, (wrap64 (t311 + 1)) = j_ := ⟨_, rfl⟩
          replace H : (if 0 ≤ (ji26) then (if (ji26) ≤ (a1.size : Int) then (if ((a1.extract 0 (t311 : Int).toNat) ++ ((a2.extract (t314 : Int).toNat a2.size).extract 0 1)).size + (a1.extract ((ji26) : Int).toNat a1.size).size ≤ 9223372036854775807 then (some (((a1.extract 0 (t311 : Int).toNat) ++ ((a2.extract (t314 : Int).toNat a2.size).extract 0 1)) ++ (a1.extract ((ji26) : Int).toNat a1.size), t318, t319)) else (none)) else (none)) else (none)) = some (r1, r2, r3) := by first | (rw [hji26] at H; exact H) | (simp only [hji26] at H ⊢; exact H)
          (try rw [hji26] at A6)
          (try rw [hji26] at A7)
          (try rw [hji26] at A11)
          have hji26w : (IntKind.i64.wrap (t311 + 1)) = ji26 := (i64_w _).trans hji26
          by_cases c27 : 0 ≤ (ji26)
          ·rw [if_pos c27] at H
           have c27b0 := eq_true c27
           have c27b1 : decide (0 ≤ (ji26)) = true := decide_eq_true c27
           clear c27
           by_cases c28 : (ji26) ≤ (a1.size : Int)
           ·rw [if_pos c28] at H
            have c28b0 := eq_true c28
            have c28b1 : decide ((ji26) ≤ (a1.size : Int)) = true := decide_eq_true c28
            clear c28
            by_cases c29 : ((a1.extract 0 (t311 : Int).toNat) ++ ((a2.extract (t314 : Int).toNat a2.size).extract 0 1)).size + (a1.extract ((ji26) : Int).toNat a1.size).size ≤ 9223372036854775807
            ·rw [if_pos c29] at H
             have c29b0 := eq_true c29
             have c29b1 : decide (((a1.extract 0 (t311 : Int).toNat) ++ ((a2.extract (t314 : Int).toNat a2.size).extract 0 1)).size + (a1.extract ((ji26) : Int).toNat a1.size).size ≤ 9223372036854775807) = true := decide_eq_true c29
             (try (have c29b5 := c29b0; simp only [ByteArray.size_append', ByteArray.size_extract, Nat.sub_zero, Nat.min_self] at c29b5))
             try have c29b2 : (9223372036854775807 < ((a1.extract 0 (t311 : Int).toNat) ++ ((a2.extract (t314 : Int).toNat a2.size).extract 0 1)).size + (a1.extract ((ji26) : Int).toNat a1.size).size) = False := eq_false (Nat.not_lt.2 c29)
             (try (have c29b4 := c29b2; simp only [ByteArray.size_append', ByteArray.size_extract, Nat.sub_zero, Nat.min_self] at c29b4))
             simp only [Option.some.injEq, Prod.mk.injEq] at H
             obtain ⟨rfl, rfl, rfl⟩ := H
             go_enter Tryz.func30, Tryz.ntmps30
             go_wp2_with (first | (go_at_call 49; (with_reducible refine (spec_l1Cur_pick.calls g s0_0 s0_1 s0_2 (a1.size : Int) t311 t312 t313 w0 _ ?side1 ?side2 A6.out).mono ?_); (case side1 => repeat (first | (with_reducible first | exact HI0.out | apply IsS54.alloc | apply IsS54.drewN | apply IsS54.drew | apply IsS54.set_1 | apply IsS54.set_2) | exact HI0.out)); (case side2 => repeat (first | (with_reducible first | exact HB.out | apply below_alloc | apply pw_below_drewN | apply below_drew1 | refine below_set ?_ (IsS54.ge HI0.out)) | exact HB.out)); rintro e w30 ⟨rfl, hi, hb, hk⟩; replace HK := Aside0.mk (KeepBut.trans (by repeat (first | (with_reducible first | exact HK.out | apply KeepBut.set_ | apply keep_drewN | apply keep_drew | apply keep_alloc) | exact HK.out)) hk (.inl rfl)); replace HB := Aside0.mk (hb); replace HI0 := Aside0.mk (hi); (try clear hb); (try clear hk); (try clear hi)) | (go_at_call 49; (with_reducible refine (spec_l1Cur_pick.calls g s0_0 t312 t313 (a2.size : Int) t314 t315 t316 w0 _ ?side1 ?side2 A7.out).mono ?_); (case side1 => repeat (first | (with_reducible first | exact HI0.out | apply IsS54.alloc | apply IsS54.drewN | apply IsS54.drew | apply IsS54.set_1 | apply IsS54.set_2) | exact HI0.out)); (case side2 => repeat (first | (with_reducible first | exact HB.out | apply below_alloc | apply pw_below_drewN | apply below_drew1 | refine below_set ?_ (IsS54.ge HI0.out)) | exact HB.out)); rintro e w31 ⟨rfl, hi, hb, hk⟩; replace HK := Aside0.mk (KeepBut.trans (by repeat (first | (with_reducible first | exact HK.out | apply KeepBut.set_ | apply keep_drewN | apply keep_drew | apply keep_alloc) | exact HK.out)) hk (.inl rfl)); replace HB := Aside0.mk (hb); replace HI0 := Aside0.mk (hi); (try clear hb); (try clear hk); (try clear hi)) | (go_at_call 49; (with_reducible refine (spec_l1Cur_pick.calls g s0_0 t315 t316 3 t317 t318 t319 w0 _ ?side1 ?side2 A11.out).mono ?_); (case side1 => repeat (first | (with_reducible first | exact HI0.out | apply IsS54.alloc | apply IsS54.drewN | apply IsS54.drew | apply IsS54.set_1 | apply IsS54.set_2) | exact HI0.out)); (case side2 => repeat (first | (with_reducible first | exact HB.out | apply below_alloc | apply pw_below_drewN | apply below_drew1 | refine below_set ?_ (IsS54.ge HI0.out)) | exact HB.out)); rintro e w32 ⟨rfl, hi, hb, hk⟩; replace HK := Aside0.mk (KeepBut.trans (by repeat (first | (with_reducible first | exact HK.out | apply KeepBut.set_ | apply keep_drewN | apply keep_drew | apply keep_alloc) | exact HK.out)) hk (.inl rfl)); replace HB := Aside0.mk (hb); replace HI0 := Aside0.mk (hi); (try clear hb); (try clear hk); (try clear hi)))
             repeat (go_quiet (first | (go_at_call 49; (with_reducible refine (spec_l1Cur_pick.calls g s0_0 s0_1 s0_2 (a1.size : Int) t311 t312 t313 w0 _ ?side1 ?side2 A6.out).mono ?_); (case side1 => repeat (first | (with_reducible first | exact HI0.out | apply IsS54.alloc | apply IsS54.drewN | apply IsS54.drew | apply IsS54.set_1 | apply IsS54.set_2) | exact HI0.out)); (case side2 => repeat (first | (with_reducible first | exact HB.out | apply below_alloc | apply pw_below_drewN | apply below_drew1 | refine below_set ?_ (IsS54.ge HI0.out)) | exact HB.out)); rintro e w30 ⟨rfl, hi, hb, hk⟩; replace HK := Aside0.mk (KeepBut.trans (by repeat (first | (with_reducible first | exact HK.out | apply KeepBut.set_ | apply keep_drewN | apply keep_drew | apply keep_alloc) | exact HK.out)) hk (.inl rfl)); replace HB := Aside0.mk (hb); replace HI0 := Aside0.mk (hi); (try clear hb); (try clear hk); (try clear hi)) | (go_at_call 49; (with_reducible refine (spec_l1Cur_pick.calls g s0_0 t312 t313 (a2.size : Int) t314 t315 t316 w0 _ ?side1 ?side2 A7.out).mono ?_); (case side1 => repeat (first | (with_reducible first | exact HI0.out | apply IsS54.alloc | apply IsS54.drewN | apply IsS54.drew | apply IsS54.set_1 | apply IsS54.set_2) | exact HI0.out)); (case side2 => repeat (first | (with_reducible first | exact HB.out | apply below_alloc | apply pw_below_drewN | apply below_drew1 | refine below_set ?_ (IsS54.ge HI0.out)) | exact HB.out)); rintro e w31 ⟨rfl, hi, hb, hk⟩; replace HK := Aside0.mk (KeepBut.trans (by repeat (first | (with_reducible first | exact HK.out | apply KeepBut.set_ | apply keep_drewN | apply keep_drew | apply keep_alloc) | exact HK.out)) hk (.inl rfl)); replace HB := Aside0.mk (hb); replace HI0 := Aside0.mk (hi); (try clear hb); (try clear hk); (try clear hi)) | (go_at_call 49; (with_reducible refine (spec_l1Cur_pick.calls g s0_0 t315 t316 3 t317 t318 t319 w0 _ ?side1 ?side2 A11.out).mono ?_); (case side1 => repeat (first | (with_reducible first | exact HI0.out | apply IsS54.alloc | apply IsS54.drewN | apply IsS54.drew | apply IsS54.set_1 | apply IsS54.set_2) | exact HI0.out)); (case side2 => repeat (first | (with_reducible first | exact HB.out | apply below_alloc | apply pw_below_drewN | apply below_drew1 | refine below_set ?_ (IsS54.ge HI0.out)) | exact HB.out)); rintro e w32 ⟨rfl, hi, hb, hk⟩; replace HK := Aside0.mk (KeepBut.trans (by repeat (first | (with_reducible first | exact HK.out | apply KeepBut.set_ | apply keep_drewN | apply keep_drew | apply keep_alloc) | exact HK.out)) hk (.inl rfl)); replace HB := Aside0.mk (hb); replace HI0 := Aside0.mk (hi); (try clear hb); (try clear hk); (try clear hi))); try go_wp2_with (first | (go_at_call 49; (with_reducible refine (spec_l1Cur_pick.calls g s0_0 s0_1 s0_2 (a1.size : Int) t311 t312 t313 w0 _ ?side1 ?side2 A6.out).mono ?_); (case side1 => repeat (first | (with_reducible first | exact HI0.out | apply IsS54.alloc | apply IsS54.drewN | apply IsS54.drew | apply IsS54.set_1 | apply IsS54.set_2) | exact HI0.out)); (case side2 => repeat (first | (with_reducible first | exact HB.out | apply below_alloc | apply pw_below_drewN | apply below_drew1 | refine below_set ?_ (IsS54.ge HI0.out)) | exact HB.out)); rintro e w30 ⟨rfl, hi, hb, hk⟩; replace HK := Aside0.mk (KeepBut.trans (by repeat (first | (with_reducible first | exact HK.out | apply KeepBut.set_ | apply keep_drewN | apply keep_drew | apply keep_alloc) | exact HK.out)) hk (.inl rfl)); replace HB := Aside0.mk (hb); replace HI0 := Aside0.mk (hi); (try clear hb); (try clear hk); (try clear hi)) | (go_at_call 49; (with_reducible refine (spec_l1Cur_pick.calls g s0_0 t312 t313 (a2.size : Int) t314 t315 t316 w0 _ ?side1 ?side2 A7.out).mono ?_); (case side1 => repeat (first | (with_reducible first | exact HI0.out | apply IsS54.alloc | apply IsS54.drewN | apply IsS54.drew | apply IsS54.set_1 | apply IsS54.set_2) | exact HI0.out)); (case side2 => repeat (first | (with_reducible first | exact HB.out | apply below_alloc | apply pw_below_drewN | apply below_drew1 | refine below_set ?_ (IsS54.ge HI0.out)) | exact HB.out)); rintro e w31 ⟨rfl, hi, hb, hk⟩; replace HK := Aside0.mk (KeepBut.trans (by repeat (first | (with_reducible first | exact HK.out | apply KeepBut.set_ | apply keep_drewN | apply keep_drew | apply keep_alloc) | exact HK.out)) hk (.inl rfl)); replace HB := Aside0.mk (hb); replace HI0 := Aside0.mk (hi); (try clear hb); (try clear hk); (try clear hi)) | (go_at_call 49; (with_reducible refine (spec_l1Cur_pick.calls g s0_0 t315 t316 3 t317 t318 t319 w0 _ ?side1 ?side2 A11.out).mono ?_); (case side1 => repeat (first | (with_reducible first | exact HI0.out | apply IsS54.alloc | apply IsS54.drewN | apply IsS54.drew | apply IsS54.set_1 | apply IsS54.set_2) | exact HI0.out)); (case side2 => repeat (first | (with_reducible first | exact HB.out | apply below_alloc | apply pw_below_drewN | apply below_drew1 | refine below_set ?_ (IsS54.ge HI0.out)) | exact HB.out)); rintro e w32 ⟨rfl, hi, hb, hk⟩; replace HK := Aside0.mk (KeepBut.trans (by repeat (first | (with_reducible first | exact HK.out | apply KeepBut.set_ | apply keep_drewN | apply keep_drew | apply keep_alloc) | exact HK.out)) hk (.inl rfl)); replace HB := Aside0.mk (hb); replace HI0 := Aside0.mk (hi); (try clear hb); (try clear hk); (try clear hi))))
             go_ret
             exact ⟨by first | rfl | (simp [errW_none, errW_some] <;> rfl) | (simp only [← hji26]; first | rfl | (simp [errW_none, errW_some] <;> rfl)) | (simp [*, errW_none, errW_some] <;> rfl), by repeat (first | (with_reducible first | exact HI0.out | apply IsS54.alloc | apply IsS54.drewN | apply IsS54.drew | apply IsS54.set_1 | apply IsS54.set_2) | exact HI0.out), by repeat (first | (with_reducible first | exact HB.out | apply below_alloc | apply pw_below_drewN | apply below_drew1 | refine below_set ?_ (IsS54.ge HI0.out)) | exact HB.out), by repeat (first | (with_reducible first | exact HK.out | apply KeepBut.set_ | apply keep_drewN | apply keep_drew | apply keep_alloc) | exact HK.out)⟩
            ·rw [if_neg c29] at H
             exact absurd H (by simp)
           ·rw [if_neg c28] at H
            exact absurd H (by simp)
          ·rw [if_neg c27] at H
           exact absurd H (by simp)
         ·rw [if_neg c25] at H
          exact absurd H (by simp)
        ·rw [if_neg c24] at H
         exact absurd H (by simp)
       ·rw [if_neg c23] at H
        exact absurd H (by simp)
      ·by_cases c33 : 0 ≤ t311
       ·rw [if_pos c33] at H
        have c33b0 := eq_true c33
        have c33b1 : decide (0 ≤ t311) = true := decide_eq_true c33
        clear c33
        by_cases c34 : t311 ≤ (a1.size : Int)
        ·rw [if_pos c34] at H
         have c34b0 := eq_true c34
         have c34b1 : decide (t311 ≤ (a1.size : Int)) = true := decide_eq_true c34
         clear c34
         obtain ⟨ji35, hji35⟩ : ∃ j_ : Int, (wrap64 (t311 + 1)) = j_ := ⟨_, rfl⟩
         replace H : (if 0 ≤ (ji35) then (if (ji35) ≤ (a1.size : Int) then (if (a1.extract 0 (t311 : Int).toNat).size + (a1.extract ((ji35) : Int).toNat a1.size).size ≤ 9223372036854775807 then (some ((a1.extract 0 (t311 : Int).toNat) ++ (a1.extract ((ji35) : Int).toNat a1.size), t318, t319)) else (none)) else (none)) else (none)) = some (r1, r2, r3) := by first | (rw [hji35] at H; exact H) | (simp only [hji35] at H ⊢; exact H)
         (try rw [hji35] at A6)
         (try rw [hji35] at A7)
         (try rw [hji35] at A11)
         have hji35w : (IntKind.i64.wrap (t311 + 1)) = ji35 := (i64_w _).trans hji35
         by_cases c36 : 0 ≤ (ji35)
         ·rw [if_pos c36] at H
          have c36b0 := eq_true c36
          have c36b1 : decide (0 ≤ (ji35)) = true := decide_eq_true c36
          clear c36
          by_cases c37 : (ji35) ≤ (a1.size : Int)
          ·rw [if_pos c37] at H
           have c37b0 := eq_true c37
           have c37b1 : decide ((ji35) ≤ (a1.size : Int)) = true := decide_eq_true c37
           clear c37
           by_cases c38 : (a1.extract 0 (t311 : Int).toNat).size + (a1.extract ((ji35) : Int).toNat a1.size).size ≤ 9223372036854775807
           ·rw [if_pos c38] at H
            have c38b0 := eq_true c38
            have c38b1 : decide ((a1.extract 0 (t311 : Int).toNat).size + (a1.extract ((ji35) : Int).toNat a1.size).size ≤ 9223372036854775807) = true := decide_eq_true c38
            (try (have c38b5 := c38b0; simp only [ByteArray.size_append', ByteArray.size_extract, Nat.sub_zero, Nat.min_self] at c38b5))
            try have c38b2 : (9223372036854775807 < (a1.extract 0 (t311 : Int).toNat).size + (a1.extract ((ji35) : Int).toNat a1.size).size) = False := eq_false (Nat.not_lt.2 c38)
            (try (have c38b4 := c38b2; simp only [ByteArray.size_append', ByteArray.size_extract, Nat.sub_zero, Nat.min_self] at c38b4))
            simp only [Option.some.injEq, Prod.mk.injEq] at H
            obtain ⟨rfl, rfl, rfl⟩ := H
            go_enter Tryz.func30, Tryz.ntmps30
            go_wp2_with (first | (go_at_call 49; (with_reducible refine (spec_l1Cur_pick.calls g s0_0 s0_1 s0_2 (a1.size : Int) t311 t312 t313 w0 _ ?side1 ?side2 A6.out).mono ?_); (case side1 => repeat (first | (with_reducible first | exact HI0.out | apply IsS54.alloc | apply IsS54.drewN | apply IsS54.drew | apply IsS54.set_1 | apply IsS54.set_2) | exact HI0.out)); (case side2 => repeat (first | (with_reducible first | exact HB.out | apply below_alloc | apply pw_below_drewN | apply below_drew1 | refine below_set ?_ (IsS54.ge HI0.out)) | exact HB.out)); rintro e w39 ⟨rfl, hi, hb, hk⟩; replace HK := Aside0.mk (KeepBut.trans (by repeat (first | (with_reducible first | exact HK.out | apply KeepBut.set_ | apply keep_drewN | apply keep_drew | apply keep_alloc) | exact HK.out)) hk (.inl rfl)); replace HB := Aside0.mk (hb); replace HI0 := Aside0.mk (hi); (try clear hb); (try clear hk); (try clear hi)) | (go_at_call 49; (with_reducible refine (spec_l1Cur_pick.calls g s0_0 t312 t313 (a2.size : Int) t314 t315 t316 w0 _ ?side1 ?side2 A7.out).mono ?_); (case side1 => repeat (first | (with_reducible first | exact HI0.out | apply IsS54.alloc | apply IsS54.drewN | apply IsS54.drew | apply IsS54.set_1 | apply IsS54.set_2) | exact HI0.out)); (case side2 => repeat (first | (with_reducible first | exact HB.out | apply below_alloc | apply pw_below_drewN | apply below_drew1 | refine below_set ?_ (IsS54.ge HI0.out)) | exact HB.out)); rintro e w40 ⟨rfl, hi, hb, hk⟩; replace HK := Aside0.mk (KeepBut.trans (by repeat (first | (with_reducible first | exact HK.out | apply KeepBut.set_ | apply keep_drewN | apply keep_drew | apply keep_alloc) | exact HK.out)) hk (.inl rfl)); replace HB := Aside0.mk (hb); replace HI0 := Aside0.mk (hi); (try clear hb); (try clear hk); (try clear hi)) | (go_at_call 49; (with_reducible refine (spec_l1Cur_pick.calls g s0_0 t315 t316 3 t317 t318 t319 w0 _ ?side1 ?side2 A11.out).mono ?_); (case side1 => repeat (first | (with_reducible first | exact HI0.out | apply IsS54.alloc | apply IsS54.drewN | apply IsS54.drew | apply IsS54.set_1 | apply IsS54.set_2) | exact HI0.out)); (case side2 => repeat (first | (with_reducible first | exact HB.out | apply below_alloc | apply pw_below_drewN | apply below_drew1 | refine below_set ?_ (IsS54.ge HI0.out)) | exact HB.out)); rintro e w41 ⟨rfl, hi, hb, hk⟩; replace HK := Aside0.mk (KeepBut.trans (by repeat (first | (with_reducible first | exact HK.out | apply KeepBut.set_ | apply keep_drewN | apply keep_drew | apply keep_alloc) | exact HK.out)) hk (.inl rfl)); replace HB := Aside0.mk (hb); replace HI0 := Aside0.mk (hi); (try clear hb); (try clear hk); (try clear hi)))
            repeat (go_quiet (first | (go_at_call 49; (with_reducible refine (spec_l1Cur_pick.calls g s0_0 s0_1 s0_2 (a1.size : Int) t311 t312 t313 w0 _ ?side1 ?side2 A6.out).mono ?_); (case side1 => repeat (first | (with_reducible first | exact HI0.out | apply IsS54.alloc | apply IsS54.drewN | apply IsS54.drew | apply IsS54.set_1 | apply IsS54.set_2) | exact HI0.out)); (case side2 => repeat (first | (with_reducible first | exact HB.out | apply below_alloc | apply pw_below_drewN | apply below_drew1 | refine below_set ?_ (IsS54.ge HI0.out)) | exact HB.out)); rintro e w39 ⟨rfl, hi, hb, hk⟩; replace HK := Aside0.mk (KeepBut.trans (by repeat (first | (with_reducible first | exact HK.out | apply KeepBut.set_ | apply keep_drewN | apply keep_drew | apply keep_alloc) | exact HK.out)) hk (.inl rfl)); replace HB := Aside0.mk (hb); replace HI0 := Aside0.mk (hi); (try clear hb); (try clear hk); (try clear hi)) | (go_at_call 49; (with_reducible refine (spec_l1Cur_pick.calls g s0_0 t312 t313 (a2.size : Int) t314 t315 t316 w0 _ ?side1 ?side2 A7.out).mono ?_); (case side1 => repeat (first | (with_reducible first | exact HI0.out | apply IsS54.alloc | apply IsS54.drewN | apply IsS54.drew | apply IsS54.set_1 | apply IsS54.set_2) | exact HI0.out)); (case side2 => repeat (first | (with_reducible first | exact HB.out | apply below_alloc | apply pw_below_drewN | apply below_drew1 | refine below_set ?_ (IsS54.ge HI0.out)) | exact HB.out)); rintro e w40 ⟨rfl, hi, hb, hk⟩; replace HK := Aside0.mk (KeepBut.trans (by repeat (first | (with_reducible first | exact HK.out | apply KeepBut.set_ | apply keep_drewN | apply keep_drew | apply keep_alloc) | exact HK.out)) hk (.inl rfl)); replace HB := Aside0.mk (hb); replace HI0 := Aside0.mk (hi); (try clear hb); (try clear hk); (try clear hi)) | (go_at_call 49; (with_reducible refine (spec_l1Cur_pick.calls g s0_0 t315 t316 3 t317 t318 t319 w0 _ ?side1 ?side2 A11.out).mono ?_); (case side1 => repeat (first | (with_reducible first | exact HI0.out | apply IsS54.alloc | apply IsS54.drewN | apply IsS54.drew | apply IsS54.set_1 | apply IsS54.set_2) | exact HI0.out)); (case side2 => repeat (first | (with_reducible first | exact HB.out | apply below_alloc | apply pw_below_drewN | apply below_drew1 | refine below_set ?_ (IsS54.ge HI0.out)) | exact HB.out)); rintro e w41 ⟨rfl, hi, hb, hk⟩; replace HK := Aside0.mk (KeepBut.trans (by repeat (first | (with_reducible first | exact HK.out | apply KeepBut.set_ | apply keep_drewN | apply keep_drew | apply keep_alloc) | exact HK.out)) hk (.inl rfl)); replace HB := Aside0.mk (hb); replace HI0 := Aside0.mk (hi); (try clear hb); (try clear hk); (try clear hi))); try go_wp2_with (first | (go_at_call 49; (with_reducible refine (spec_l1Cur_pick.calls g s0_0 s0_1 s0_2 (a1.size : Int) t311 t312 t313 w0 _ ?side1 ?side2 A6.out).mono ?_); (case side1 => repeat (first | (with_reducible first | exact HI0.out | apply IsS54.alloc | apply IsS54.drewN | apply IsS54.drew | apply IsS54.set_1 | apply IsS54.set_2) | exact HI0.out)); (case side2 => repeat (first | (with_reducible first | exact HB.out | apply below_alloc | apply pw_below_drewN | apply below_drew1 | refine below_set ?_ (IsS54.ge HI0.out)) | exact HB.out)); rintro e w39 ⟨rfl, hi, hb, hk⟩; replace HK := Aside0.mk (KeepBut.trans (by repeat (first | (with_reducible first | exact HK.out | apply KeepBut.set_ | apply keep_drewN | apply keep_drew | apply keep_alloc) | exact HK.out)) hk (.inl rfl)); replace HB := Aside0.mk (hb); replace HI0 := Aside0.mk (hi); (try clear hb); (try clear hk); (try clear hi)) | (go_at_call 49; (with_reducible refine (spec_l1Cur_pick.calls g s0_0 t312 t313 (a2.size : Int) t314 t315 t316 w0 _ ?side1 ?side2 A7.out).mono ?_); (case side1 => repeat (first | (with_reducible first | exact HI0.out | apply IsS54.alloc | apply IsS54.drewN | apply IsS54.drew | apply IsS54.set_1 | apply IsS54.set_2) | exact HI0.out)); (case side2 => repeat (first | (with_reducible first | exact HB.out | apply below_alloc | apply pw_below_drewN | apply below_drew1 | refine below_set ?_ (IsS54.ge HI0.out)) | exact HB.out)); rintro e w40 ⟨rfl, hi, hb, hk⟩; replace HK := Aside0.mk (KeepBut.trans (by repeat (first | (with_reducible first | exact HK.out | apply KeepBut.set_ | apply keep_drewN | apply keep_drew | apply keep_alloc) | exact HK.out)) hk (.inl rfl)); replace HB := Aside0.mk (hb); replace HI0 := Aside0.mk (hi); (try clear hb); (try clear hk); (try clear hi)) | (go_at_call 49; (with_reducible refine (spec_l1Cur_pick.calls g s0_0 t315 t316 3 t317 t318 t319 w0 _ ?side1 ?side2 A11.out).mono ?_); (case side1 => repeat (first | (with_reducible first | exact HI0.out | apply IsS54.alloc | apply IsS54.drewN | apply IsS54.drew | apply IsS54.set_1 | apply IsS54.set_2) | exact HI0.out)); (case side2 => repeat (first | (with_reducible first | exact HB.out | apply below_alloc | apply pw_below_drewN | apply below_drew1 | refine below_set ?_ (IsS54.ge HI0.out)) | exact HB.out)); rintro e w41 ⟨rfl, hi, hb, hk⟩; replace HK := Aside0.mk (KeepBut.trans (by repeat (first | (with_reducible first | exact HK.out | apply KeepBut.set_ | apply keep_drewN | apply keep_drew | apply keep_alloc) | exact HK.out)) hk (.inl rfl)); replace HB := Aside0.mk (hb); replace HI0 := Aside0.mk (hi); (try clear hb); (try clear hk); (try clear hi))))
            go_ret
            exact ⟨by first | rfl | (simp [errW_none, errW_some] <;> rfl) | (simp only [← hji35]; first | rfl | (simp [errW_none, errW_some] <;> rfl)) | (simp [*, errW_none, errW_some] <;> rfl), by repeat (first | (with_reducible first | exact HI0.out | apply IsS54.alloc | apply IsS54.drewN | apply IsS54.drew | apply IsS54.set_1 | apply IsS54.set_2) | exact HI0.out), by repeat (first | (with_reducible first | exact HB.out | apply below_alloc | apply pw_below_drewN | apply below_drew1 | refine below_set ?_ (IsS54.ge HI0.out)) | exact HB.out), by repeat (first | (with_reducible first | exact HK.out | apply KeepBut.set_ | apply keep_drewN | apply keep_drew | apply keep_alloc) | exact HK.out)⟩
           ·rw [if_neg c38] at H
            exact absurd H (by simp)
          ·rw [if_neg c37] at H
           exact absurd H (by simp)
         ·rw [if_neg c36] at H
          exact absurd H (by simp)
        ·rw [if_neg c34] at H
         exact absurd H (by simp)
       ·rw [if_neg c33] at H
        exact absurd H (by simp)
    ·rw [if_neg c10] at H
     exact absurd H (by simp)
   ·rw [if_neg c9] at H
    exact absurd H (by simp)
  ·rw [if_neg c8] at H
   exact absurd H (by simp)

/-! ### spec_DrawParseTrip: function 9 -/
def spec_DrawParseTrip.j0 : Nat → ByteArray → List Int → Int → Int → Option (ByteArray)
 | 0, _, _, _, _ => none
 | k + 1, x4, x321000, x321001, x321002 => (spec_l1Cur_one.f x321000 x321001 x321002 4).bind fun bt330 => (if bt330.1 = true then ((spec_l1Cur_spoilt.f x321000 bt330.2.1 bt330.2.2 x4 (⟨#[49, 32, 47, 48]⟩ : ByteArray)).bind fun bt333 => (some bt333.1)) else (some x4))
def spec_DrawParseTrip.f (k : Nat) (l0 : List Int) : Option (ByteArray) := (spec_l1Cur_trip.f k l0 0 0).bind fun bt321 => ((spec_TripText.f k bt321.1 bt321.2.1 bt321.2.2.1 bt321.2.2.2.1 bt321.2.2.2.2.1).bind fun bt328 => (if bt328.2 = true then (spec_DrawParseTrip.j0 k bt328.1 l0 bt321.2.2.2.2.2.1 bt321.2.2.2.2.2.2) else (spec_DrawParseTrip.j0 k (⟨#[105, 110, 115, 105, 100, 101, 32, 50, 47, 52, 32, 100, 117, 101, 32, 53, 48, 32, 97, 116, 32, 49, 48]⟩ : ByteArray) l0 bt321.2.2.2.2.2.1 bt321.2.2.2.2.2.2)))
theorem spec_DrawParseTrip.mono_l : ∀ k, (∀ y0 y1 y2 y3, LeO (spec_DrawParseTrip.j0 k y0 y1 y2 y3) (spec_DrawParseTrip.j0 (k + 1) y0 y1 y2 y3))
 | 0 => fun _ _ _ _ r h => by simp [spec_DrawParseTrip.j0] at h
 | k + 1 => by
  have ih0 := spec_DrawParseTrip.mono_l k
  ·intro y0 y1 y2 y3
   unfold spec_DrawParseTrip.j0
   repeat' with_reducible first | apply ih0 | apply spec_TripText.mono | apply spec_l1Cur_trip.mono | exact LeO.refl _ | exact LeO.none _ | refine LeO.ite ?_ ?_ | refine LeO.bind ?_ (fun _ => ?_)
theorem spec_DrawParseTrip.mono : ∀ a0 k, LeO (spec_DrawParseTrip.f k a0) (spec_DrawParseTrip.f (k + 1) a0) := by
 intro a0 k
 have ih0 := spec_DrawParseTrip.mono_l k
 unfold spec_DrawParseTrip.f
 repeat' with_reducible first | apply ih0 | apply spec_TripText.mono | apply spec_l1Cur_trip.mono | exact LeO.refl _ | exact LeO.none _ | refine LeO.ite ?_ ?_ | refine LeO.bind ?_ (fun _ => ?_)
set_option maxHeartbeats 8000000 in
set_option maxRecDepth 100000 in
theorem spec_DrawParseTrip.calls (k : Nat) (A0 : Option Addr) (c0 : Nat) (l0 : List Int) (r : ByteArray) (w : World) (hr0 : Kd.C (Kd.int .u8) w A0 l0.length l0) (hc0 : l0.length ≤ c0) (h : spec_DrawParseTrip.f k l0 = some r) :
  Calls Tryz.prog 9 #[.slice A0 l0.length c0] w fun e w' => e = .returned (.string r) ∧ Below w.heap.size w w' := by
 have hu54 := Tryz.underlying54
 have HR0 := Aside0.mk hr0
 have HC0 := Aside0.mk hc0
 clear hr0 hc0
 have HB := Aside0.mk (Below.refl w.heap.size w)
 have H := h
 clear h
 unfold spec_DrawParseTrip.f at H
 replace H := Option.bind_eq_some_iff.mp H
 obtain ⟨⟨t321, t322, t323, t324, t325, t326, t327⟩, A20, H⟩ := H
 replace H : ((spec_TripText.f k t321 t322 t323 t324 t325).bind fun bt328 => (if bt328.2 = true then (spec_DrawParseTrip.j0 k bt328.1 l0 t326 t327) else (spec_DrawParseTrip.j0 k (⟨#[105, 110, 115, 105, 100, 101, 32, 50, 47, 52, 32, 100, 117, 101, 32, 53, 48, 32, 97, 116, 32, 49, 48]⟩ : ByteArray) l0 t326 t327))) = some r := H
 have A2 := Aside0.mk A20
 clear A20
 replace H := Option.bind_eq_some_iff.mp H
 obtain ⟨⟨t328, t329⟩, A30, H⟩ := H
 replace H : (if t329 = true then (spec_DrawParseTrip.j0 k t328 l0 t326 t327) else (spec_DrawParseTrip.j0 k (⟨#[105, 110, 115, 105, 100, 101, 32, 50, 47, 52, 32, 100, 117, 101, 32, 53, 48, 32, 97, 116, 32, 49, 48]⟩ : ByteArray) l0 t326 t327)) = some r := H
 have A3 := Aside0.mk A30
 clear A30
 have HC4 := Aside0.mk H
 clear H
 go_enter Tryz.func9, Tryz.ntmps9
 go_upto_if 16 with (first | ((with_reducible refine gD 8 ?_); refine bxE 8 54 #[.slice A0 l0.length c0, .int .i64 0, .int .u64 0] fun gb320 w5 hg hbox hb => ?_; have GE320 := gB HB hg; have HI320 := Aside0.mk ((⟨_, _, hbox, (by rw [hg]; exact (below_size (bW HB)) : w.heap.size ≤ gb320), HR0.out⟩ : IsS54 w w5 gb320 l0 0 0)); replace HB := uB HB hb; clear hb hbox hg) | ((with_reducible refine gate_callee (f := 28) rfl ?_); refine goesL_ (some 11) rfl rfl Tryz.func28 (by kernel_rfl) rfl #[.pointer (some ⟨gb320, 0, none⟩)] rfl argsB ?_; (with_reducible refine (spec_l1Cur_trip.calls k gb320 l0 0 0 t321 t322 t323 t324 t325 t326 t327 w _ ?side1 ?side2 A2.out).mono ?_); (case side1 => repeat (first | (with_reducible first | exact HI320.out | apply IsS54.alloc | apply IsS54.drewN | apply IsS54.drew | apply IsS54.set_1 | apply IsS54.set_2) | exact HI320.out)); (case side2 => repeat (first | (with_reducible first | exact HB.out | apply below_alloc | apply pw_below_drewN | apply below_drew1 | refine below_set ?_ (IsS54.ge HI320.out)) | exact HB.out)); rintro e w6 ⟨rfl, hi, hb, hk⟩; refine ⟨_, rfl, ?_⟩; replace HB := Aside0.mk (hb); replace HI320 := Aside0.mk (hi); (try clear hb); (try clear hk); (try clear hi)) | ((with_reducible refine gC 8 ?_); refine lA (some 12) Tryz.func8 (spec_TripText.calls k t321 t322 t323 t324 t325 t328 t329 _ A3.out) ?_; intro w7 hb; replace HB := Aside0.mk (below_step (by repeat (first | (with_reducible first | exact HB.out | apply below_alloc | apply pw_below_drewN | apply below_drew1 | refine below_set ?_ (IsS54.ge HI320.out)) | exact HB.out)) hb); replace HI320 := Aside0.mk (IsS54.below (by repeat (first | (with_reducible first | exact HI320.out | apply IsS54.alloc | apply IsS54.drewN | apply IsS54.drew | apply IsS54.set_1 | apply IsS54.set_2) | exact HI320.out)) hb); (try clear hb); (try clear hk); (try clear hi)))
 (try simp only [Act.put, List.setIfInBounds_toArray, List.set_cons_zero, List.set_cons_succ])
 go_cut [4] (fun v4 wc => ∃ (kq : Nat) (x4_3 : ByteArray), v4 = .string x4_3 ∧ Aside0 (spec_DrawParseTrip.j0 kq x4_3 l0 t326 t327 = some r) ∧ Aside0 (kq ≤ k) ∧ Aside0 (IsS54 w wc gb320 l0 t326 t327) ∧ Aside0 (Below w.heap.size w wc))
 case first =>
  have H := HC4.out
  clear HC4
  rcases Bool.eq_false_or_eq_true t329 with rfl | rfl
  ·replace H := iT rfl H
   have H' := Aside0.mk H
   clear H
   go_wp2
   go_meet
   case rel => exact ⟨_, (t328), rB, H', leB, ⟨by repeat (first | (with_reducible first | exact HI320.out | apply IsS54.alloc | apply IsS54.drewN | apply IsS54.drew | apply IsS54.set_1 | apply IsS54.set_2) | exact HI320.out)⟩, ⟨by repeat (first | (with_reducible first | exact HB.out | apply below_alloc | apply pw_below_drewN | apply below_drew1 | refine below_set ?_ (IsS54.ge HI320.out)) | exact HB.out)⟩⟩
  ·replace H := iF (by decide) H
   have H' := Aside0.mk H
   clear H
   go_wp2
   go_meet
   case rel => exact ⟨_, ((⟨#[105, 110, 115, 105, 100, 101, 32, 50, 47, 52, 32, 100, 117, 101, 32, 53, 48, 32, 97, 116, 32, 49, 48]⟩ : ByteArray)), rB, H', leB, ⟨by repeat (first | (with_reducible first | exact HI320.out | apply IsS54.alloc | apply IsS54.drewN | apply IsS54.drew | apply IsS54.set_1 | apply IsS54.set_2) | exact HI320.out)⟩, ⟨by repeat (first | (with_reducible first | exact HB.out | apply below_alloc | apply pw_below_drewN | apply below_drew1 | refine below_set ?_ (IsS54.ge HI320.out)) | exact HB.out)⟩⟩
 case rest =>
  clear HC4
  obtain ⟨kq, x4_3, rfl, HA, HJ3, HI320, HB⟩ := hcut
  cases kq with
  | zero => exact absurd HA.out (by simp [spec_DrawParseTrip.j0])
  | succ kj3 =>
   have H := HA.out
   clear HA
   simp only [spec_DrawParseTrip.j0] at H
   replace H := Option.bind_eq_some_iff.mp H
   obtain ⟨⟨t330, t331, t332⟩, A90, H⟩ := H
   replace H : (if t330 = true then ((spec_l1Cur_spoilt.f l0 t331 t332 x4_3 (⟨#[49, 32, 47, 48]⟩ : ByteArray)).bind fun bt333 => (some bt333.1)) else (some x4_3)) = some r := H
   have A9 := Aside0.mk A90
   clear A90
   rcases Bool.eq_false_or_eq_true t330 with rfl | rfl
   ·replace H := iT rfl H
    replace H := Option.bind_eq_some_iff.mp H
    obtain ⟨⟨t333, t334, t335⟩, A110, H⟩ := H
    replace H : (some t333) = some r := H
    have A11 := Aside0.mk A110
    clear A110
    obtain rfl := Option.some.inj H
    go_wp2_with (first | ((with_reducible refine gate_callee (f := 29) rfl ?_); refine goesL_ (some 18) rfl rfl Tryz.func29 (by kernel_rfl) rfl #[.pointer (some ⟨gb320, 0, none⟩), .int .i64 4] rfl argsB ?_; (with_reducible refine (spec_l1Cur_one.calls gb320 l0 t326 t327 4 true t331 t332 w _ ?side1 ?side2 A9.out).mono ?_); (case side1 => repeat (first | (with_reducible first | exact HI320.out | apply IsS54.alloc | apply IsS54.drewN | apply IsS54.drew | apply IsS54.set_1 | apply IsS54.set_2) | exact HI320.out)); (case side2 => repeat (first | (with_reducible first | exact HB.out | apply below_alloc | apply pw_below_drewN | apply below_drew1 | refine below_set ?_ (IsS54.ge HI320.out)) | exact HB.out)); rintro e w12 ⟨rfl, hi, hb, hk⟩; refine ⟨_, rfl, ?_⟩; replace HB := Aside0.mk (hb); replace HI320 := Aside0.mk (hi); (try clear hb); (try clear hk); (try clear hi)) | ((with_reducible refine gate_callee (f := 30) rfl ?_); refine goesL_ (some 21) rfl rfl Tryz.func30 (by kernel_rfl) rfl #[.pointer (some ⟨gb320, 0, none⟩), .string x4_3, .string (⟨#[49, 32, 47, 48]⟩ : ByteArray)] rfl argsB ?_; (with_reducible refine (spec_l1Cur_spoilt.calls gb320 l0 t331 t332 x4_3 (⟨#[49, 32, 47, 48]⟩ : ByteArray) t333 t334 t335 w _ ?side1 ?side2 A11.out).mono ?_); (case side1 => repeat (first | (with_reducible first | exact HI320.out | apply IsS54.alloc | apply IsS54.drewN | apply IsS54.drew | apply IsS54.set_1 | apply IsS54.set_2) | exact HI320.out)); (case side2 => repeat (first | (with_reducible first | exact HB.out | apply below_alloc | apply pw_below_drewN | apply below_drew1 | refine below_set ?_ (IsS54.ge HI320.out)) | exact HB.out)); rintro e w13 ⟨rfl, hi, hb, hk⟩; refine ⟨_, rfl, ?_⟩; replace HB := Aside0.mk (hb); replace HI320 := Aside0.mk (hi); (try clear hb); (try clear hk); (try clear hi)))
    go_ret
    exact ⟨eB, by repeat (first | (with_reducible first | exact HB.out | apply below_alloc | apply pw_below_drewN | apply below_drew1 | refine below_set ?_ (IsS54.ge HI320.out)) | exact HB.out)⟩
   ·replace H := iF (by decide) H
    obtain rfl := Option.some.inj H
    go_wp2_with (first | ((with_reducible refine gate_callee (f := 29) rfl ?_); refine goesL_ (some 18) rfl rfl Tryz.func29 (by kernel_rfl) rfl #[.pointer (some ⟨gb320, 0, none⟩), .int .i64 4] rfl argsB ?_; (with_reducible refine (spec_l1Cur_one.calls gb320 l0 t326 t327 4 false t331 t332 w _ ?side1 ?side2 A9.out).mono ?_); (case side1 => repeat (first | (with_reducible first | exact HI320.out | apply IsS54.alloc | apply IsS54.drewN | apply IsS54.drew | apply IsS54.set_1 | apply IsS54.set_2) | exact HI320.out)); (case side2 => repeat (first | (with_reducible first | exact HB.out | apply below_alloc | apply pw_below_drewN | apply below_drew1 | refine below_set ?_ (IsS54.ge HI320.out)) | exact HB.out)); rintro e w14 ⟨rfl, hi, hb, hk⟩; refine ⟨_, rfl, ?_⟩; replace HB := Aside0.mk (hb); replace HI320 := Aside0.mk (hi); (try clear hb); (try clear hk); (try clear hi)))
    go_ret
    exact ⟨eB, by repeat (first | (with_reducible first | exact HB.out | apply below_alloc | apply pw_below_drewN | apply below_drew1 | refine below_set ?_ (IsS54.ge HI320.out)) | exact HB.out)⟩

/-! ### spec_l1Split: function 31 -/
def spec_l1Split.l0 : Nat → ByteArray → Int → List ByteArray → Int → Int → Option (List ByteArray)
 | 0, _, _, _, _, _ => none
 | k + 1, x0, x1, x5, x6, x7 => if x7 < (x0.size : Int) then (if 0 ≤ x7 then (if (bt x0 x7) = x1 then (if 0 ≤ x6 then (if x6 ≤ x7 then (if x7 ≤ (x0.size : Int) then (if x5.length < 8796093022208 then (spec_l1Split.l0 k x0 x1 (x5 ++ [x0.extract (x6 : Int).toNat (x7 : Int).toNat]) (wrap64 (x7 + 1)) (wrap64 (x7 + 1))) else (none)) else (none)) else (none)) else (none)) else (spec_l1Split.l0 k x0 x1 x5 x6 (wrap64 (x7 + 1)))) else (none)) else (if 0 ≤ x6 then (if x6 ≤ (x0.size : Int) then (if x5.length < 8796093022208 then (some (x5 ++ [x0.extract (x6 : Int).toNat x0.size])) else (none)) else (none)) else (none))
def spec_l1Split.f (k : Nat) (a0 : ByteArray) (a1 : Int) : Option (List ByteArray) := spec_l1Split.l0 k a0 a1 (([] : List ByteArray)) 0 0
theorem spec_l1Split.mono_l : ∀ k, (∀ y0 y1 y2 y3 y4, LeO (spec_l1Split.l0 k y0 y1 y2 y3 y4) (spec_l1Split.l0 (k + 1) y0 y1 y2 y3 y4))
 | 0 => fun _ _ _ _ _ r h => by simp [spec_l1Split.l0] at h
 | k + 1 => by
  have ih0 := spec_l1Split.mono_l k
  ·intro y0 y1 y2 y3 y4
   unfold spec_l1Split.l0
   repeat' with_reducible first | apply ih0 | exact LeO.refl _ | exact LeO.none _ | refine LeO.ite ?_ ?_ | refine LeO.bind ?_ (fun _ => ?_)
theorem spec_l1Split.mono : ∀ a0 a1 k, LeO (spec_l1Split.f k a0 a1) (spec_l1Split.f (k + 1) a0 a1) := by
 intro a0 a1 k
 have ih0 := spec_l1Split.mono_l k
 unfold spec_l1Split.f
 repeat' with_reducible first | apply ih0 | exact LeO.refl _ | exact LeO.none _ | refine LeO.ite ?_ ?_ | refine LeO.bind ?_ (fun _ => ?_)
set_option maxHeartbeats 8000000 in
set_option maxRecDepth 100000 in
theorem spec_l1Split.calls (k : Nat) (a0 : ByteArray) (a1 : Int) (r : List ByteArray) (w : World) (h : spec_l1Split.f k a0 a1 = some r) :
  Calls Tryz.prog 31 #[.string a0, .int .u8 a1] w fun e w' => ∃ v0_ : Value, e = .returned (v0_) ∧ Kd.R Kd.string 9 w' w.heap.size (fun _ => True) v0_ r ∧ Below w.heap.size w w' := by
 have HB := Aside0.mk (Below.refl w.heap.size w)
 have H := h
 clear h
 unfold spec_l1Split.f at H
 obtain ⟨y336, hy336⟩ : ∃ y_ : List ByteArray, y_ = (([] : List ByteArray)) := ⟨_, rfl⟩
 replace H : (spec_l1Split.l0 k a0 a1 y336 0 0) = some r := by first | (rw [hy336]; with_reducible exact H) | (have H2_ := (Option.bind_some _ _).symm.trans H; rw [hy336]; with_reducible exact H2_) | (have H2_ := (Option.bind_some _ _).symm.trans H; with_reducible exact H2_) | with_reducible exact H | (rw [hy336]; exact H) | exact H
 have Ny336 := Aside0.mk hy336
 clear hy336
 have H' := Aside0.mk H
 clear H
 go_enter Tryz.func31, Tryz.ntmps31
 go_wp2_with (first | ((with_reducible refine gate_dst (N := 8) rfl ?_); refine Kd.R_lit Kd.string _ 9 ?hg (N := 8) ?hd (xs := ([] : List ByteArray)) (inner := []) (ok := fun _ => True) (okp := fun _ => True) ?hr ?hp (fun _ hk => hk) trivial (Below.refl _ _) (Nat.le_refl _) (by simp) ?_; (case hd => rfl); (case hg => rfl); (case hr => first | (go_simp; done) | (go_simp; rfl)); (case hp => exact (Reps.none _ _)); intro v337 w3 ho4 hb hg_ hnew_; clear hg_ hnew_; (first | rw [← Ny336.out] at ho4 | (simp only [Int.reduceToNat] at ho4; rw [← Ny336.out] at ho4)); have HO338 := Aside0.mk (Kd.R_lower ho4 (below_size (bW HB))); replace HB := uB HB hb; clear hb ho4))
 (try simp only [Act.put, List.setIfInBounds_toArray, List.set_cons_zero, List.set_cons_succ])
 go_loopg [5, 6, 7] k (fun kq v5 v6 v7 w' => ∃ (x5_1 : List ByteArray) (x6_1 x7_1 : Int), v6 = .int .i64 x6_1 ∧ v7 = .int .i64 x7_1 ∧ Aside0 (spec_l1Split.l0 kq a0 a1 x5_1 x6_1 x7_1 = some r) ∧ Aside0 (kq ≤ k) ∧ Aside0 (Kd.R Kd.string 9 w' w.heap.size (fun _ => True) v5 x5_1) ∧ Aside0 (Below w.heap.size w w'))
 case atStart => exact ⟨(y336), (0), (0), rB, rB, H', ⟨Nat.le_refl _⟩, ⟨upR HO338.out⟩, (aB HB)⟩
 case round =>
  clear H'
  obtain ⟨x5_1, x6_1, x7_1, rfl, rfl, HA, HK1, HO_5, HB⟩ := hrel
  cases gk with
  | zero => exact absurd HA.out (by simp [spec_l1Split.l0])
  | succ k1 =>
   have H := HA.out
   clear HA
   simp only [spec_l1Split.l0] at H
   replace H := ifD H
   rcases H with ⟨H, -, c5b0⟩ | ⟨H, -, c5b0⟩
   ·by_cases c6 : 0 ≤ x7_1
    ·rw [if_pos c6] at H
     have c6b0 : decide (0 ≤ x7_1) = true := decide_eq_true c6
     clear c6
     replace H := ifI H
     rcases H with ⟨H, -, c8b0, c8b1⟩ | ⟨H, c8, c8b0, c8b1⟩
     ·by_cases c9 : 0 ≤ x6_1
      ·rw [if_pos c9] at H
       have c9b0 := eq_true c9
       have c9b1 : decide (0 ≤ x6_1) = true := decide_eq_true c9
       clear c9
       by_cases c10 : x6_1 ≤ x7_1
       ·rw [if_pos c10] at H
        have c10b0 := eq_true c10
        have c10b1 : decide (x6_1 ≤ x7_1) = true := decide_eq_true c10
        clear c10
        by_cases c11 : x7_1 ≤ (a0.size : Int)
        ·rw [if_pos c11] at H
         have c11b0 := eq_true c11
         have c11b1 : decide (x7_1 ≤ (a0.size : Int)) = true := decide_eq_true c11
         clear c11
         by_cases c12 : x5_1.length < 8796093022208
         ·rw [if_pos c12] at H
          have LMc12 := Aside0.mk c12
          clear c12
          obtain ⟨y339, hy339⟩ : ∃ y_ : List ByteArray, y_ = (x5_1 ++ [a0.extract (x6_1 : Int).toNat (x7_1 : Int).toNat]) := ⟨_, rfl⟩
          replace H : (spec_l1Split.l0 k1 a0 a1 y339 (wrap64 (x7_1 + 1)) (wrap64 (x7_1 + 1))) = some r := by first | (rw [hy339]; with_reducible exact H) | (have H2_ := (Option.bind_some _ _).symm.trans H; rw [hy339]; with_reducible exact H2_) | (have H2_ := (Option.bind_some _ _).symm.trans H; with_reducible exact H2_) | with_reducible exact H | (rw [hy339]; exact H) | exact H
          have Ny339 := Aside0.mk hy339
          clear hy339
          have H' := Aside0.mk H
          clear H
          have p7 : 0 ≤ (x7_1 : Int) := of_decide_eq_true asmB
          have q7 : x7_1 < (a0.size : Int) := of_decide_eq_true asmB
          have hx7 := bt_at a0 x7_1
          replace p7 := eq_true p7
          replace q7 := eq_true q7
          go_wp2_with (first | ((with_reducible refine gate_builtin (b := .append) (xs := #[.tmp 20, .tmp 25]) rfl ?_); at_builtin; refine Kd.R_append Kd.string (w0 := w) w.heap.size rfl (.tmp 20) (.tmp 25) 44 9 (.string ⟨#[]⟩) 16 rfl Tryz.underlying44 info9 rfl (by decide) (by omega) u5 x5_1 (a0.extract (x6_1 : Int).toNat (x7_1 : Int).toNat) [.string (a0.extract (x6_1 : Int).toNat (x7_1 : Int).toNat)] (fun _ => True) (fun _ => False) rfl rfl ?aP (fun _ hk => hk.elim) ?aF ?aO ?aB ?aS ?aL ?_; (case aP => exact rfl); (case aB => exact (bW HB)); (case aF => exact (fun _ _ => trivial)); (case aO => exact (upR HO_5.out)); (case aS => exact (below_size (bW HB))); (case aL => have := LMc12.out; omega); intro v340 w13 ho hb hg hat; rw [← Ny339.out] at ho; have HO341 := Aside0.mk (ho); replace HB := Aside0.mk (hb); clear HO_5; clear ho hb hg hat))
          go_roundg k1
          case measure => have := HK1.out; omega
          case rel => exact ⟨(y339), (wrap64 (x7_1 + 1)), (wrap64 (x7_1 + 1)), rB, rB, H', ⟨by have := HK1.out; omega⟩, ⟨upR HO341.out⟩, (aB HB)⟩
         ·rw [if_neg c12] at H
          exact absurd H (by simp)
        ·rw [if_neg c11] at H
         exact absurd H (by simp)
       ·rw [if_neg c10] at H
        exact absurd H (by simp)
      ·rw [if_neg c9] at H
       exact absurd H (by simp)
     ·have H' := Aside0.mk H
      clear H
      have p7 : 0 ≤ (x7_1 : Int) := of_decide_eq_true asmB
      have q7 : x7_1 < (a0.size : Int) := of_decide_eq_true asmB
      have hx7 := bt_at a0 x7_1
      replace p7 := eq_true p7
      replace q7 := eq_true q7
      go_wp2
      go_roundg k1
      case measure => have := HK1.out; omega
      case rel => exact ⟨(x5_1), (x6_1), (wrap64 (x7_1 + 1)), rB, rB, H', ⟨by have := HK1.out; omega⟩, ⟨upR HO_5.out⟩, (aB HB)⟩
    ·rw [if_neg c6] at H
     exact absurd H (by simp)
   ·by_cases c14 : 0 ≤ x6_1
    ·rw [if_pos c14] at H
     have c14b0 := eq_true c14
     have c14b1 : decide (0 ≤ x6_1) = true := decide_eq_true c14
     clear c14
     by_cases c15 : x6_1 ≤ (a0.size : Int)
     ·rw [if_pos c15] at H
      have c15b0 := eq_true c15
      have c15b1 : decide (x6_1 ≤ (a0.size : Int)) = true := decide_eq_true c15
      clear c15
      by_cases c16 : x5_1.length < 8796093022208
      ·rw [if_pos c16] at H
       have LMc16 := Aside0.mk c16
       clear c16
       obtain ⟨y342, hy342⟩ : ∃ y_ : List ByteArray, y_ = (x5_1 ++ [a0.extract (x6_1 : Int).toNat a0.size]) := ⟨_, rfl⟩
       replace H : (some y342) = some r := by first | (rw [hy342]; with_reducible exact H) | (have H2_ := (Option.bind_some _ _).symm.trans H; rw [hy342]; with_reducible exact H2_) | (have H2_ := (Option.bind_some _ _).symm.trans H; with_reducible exact H2_) | with_reducible exact H | (rw [hy342]; exact H) | exact H
       have Ny342 := Aside0.mk hy342
       clear hy342
       obtain rfl := Option.some.inj H
       go_wp2_with (first | ((with_reducible refine gate_builtin (b := .append) (xs := #[.tmp 29, .tmp 33]) rfl ?_); at_builtin; refine Kd.R_append Kd.string (w0 := w) w.heap.size rfl (.tmp 29) (.tmp 33) 44 9 (.string ⟨#[]⟩) 16 rfl Tryz.underlying44 info9 rfl (by decide) (by omega) u5 x5_1 (a0.extract (x6_1 : Int).toNat a0.size) [.string (a0.extract (x6_1 : Int).toNat a0.size)] (fun _ => True) (fun _ => False) rfl rfl ?aP (fun _ hk => hk.elim) ?aF ?aO ?aB ?aS ?aL ?_; (case aP => exact rfl); (case aB => exact (bW HB)); (case aF => exact (fun _ _ => trivial)); (case aO => exact (upR HO_5.out)); (case aS => exact (below_size (bW HB))); (case aL => have := LMc16.out; omega); intro v343 w17 ho hb hg hat; rw [← Ny342.out] at ho; have HO344 := Aside0.mk (ho); replace HB := Aside0.mk (hb); clear HO_5; clear ho hb hg hat))
       go_ret
       exact ⟨_, eB, upR HO344.out, (bW HB)⟩
      ·rw [if_neg c16] at H
       exact absurd H (by simp)
     ·rw [if_neg c15] at H
      exact absurd H (by simp)
    ·rw [if_neg c14] at H
     exact absurd H (by simp)

end Go.Proofs.YtmeaacbnjpgepaaGreatDoor.QFnTripLists
