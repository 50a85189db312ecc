/- Contracts of Go functions that FnDiffs reaches: the call computes what the plain function says. No condition. -/
import Derived.Test.YtinelmmnajelaaaQFnDiffsx0
import Derived.Test.YtinelmmnajelaaaQFnDiffsx1
import Derived.Test.YtinelmmnajelaaaQFnDiffsx6
namespace Go.Proofs.Ytinelmmnajelaaa.QFnDiffs
open Go.RowKit Go.Proofs.YtinelmmnajelaaaW.PrintWords Go.Proofs.YtinelmmnajelaaaW.PrintLast Go.Proofs.YtinelmmnajelaaaW.PrintMore
attribute [local go_sem] max2_int min2_int max_two min_two max_three min_three max_four min_four   -- for this text's walks alone
set_option linter.unusedVariables false
set_option linter.unusedSimpArgs false

attribute [local go_sem high] eqA26
/-! ### impl_isEdit: function 61 -/
def impl_isEdit.f (a0_0 a0_1 a0_2 a0_3 a0_4 a0_5 a0_6 a0_7 a0_8 a0_9 a0_10 a0_11 : Int) : Option (Bool) := (impl_within.f a0_1 0 11).bind fun t163 => (if t163 = true then (if a0_0 = 1 then (if (a0_2 == 0 && (a0_3 == 0 && (a0_4 == 0 && (a0_5 == 0 && (a0_6 == 0))))) = true then ((impl_IsLeg.f a0_7 a0_8 a0_9 a0_10 a0_11).bind fun t164 => (some t164)) else (some false)) else (if a0_0 = 2 then ((impl_IsLeg.f a0_2 a0_3 a0_4 a0_5 a0_6).bind fun t165 => (if t165 = true then (some (a0_7 == 0 && (a0_8 == 0 && (a0_9 == 0 && (a0_10 == 0 && (a0_11 == 0)))))) else (some false))) else (if a0_0 = 3 then ((impl_IsLeg.f a0_2 a0_3 a0_4 a0_5 a0_6).bind fun t166 => (if t166 = true then ((impl_IsLeg.f a0_7 a0_8 a0_9 a0_10 a0_11).bind fun t167 => (if t167 = true then (some (!(a0_2 == a0_7) || (!(a0_3 == a0_8) || (!(a0_4 == a0_9) || (!(a0_5 == a0_10) || (!(a0_6 == a0_11))))))) else (some false))) else (some false))) else (some false)))) else (some false))
set_option maxHeartbeats 8000000 in
set_option maxRecDepth 100000 in
theorem impl_isEdit.calls (a0_0 a0_1 a0_2 a0_3 a0_4 a0_5 a0_6 a0_7 a0_8 a0_9 a0_10 a0_11 : Int) (r : Bool) (w : World) (h : impl_isEdit.f a0_0 a0_1 a0_2 a0_3 a0_4 a0_5 a0_6 a0_7 a0_8 a0_9 a0_10 a0_11 = some r) :
  Calls Try.prog 61 #[.agg #[.int .i64 a0_0, .int .i64 a0_1, .int .i64 a0_2, .int .i64 a0_3, .int .i64 a0_4, .int .i64 a0_5, .int .i64 a0_6, .int .i64 a0_7, .int .i64 a0_8, .int .i64 a0_9, .int .i64 a0_10, .int .i64 a0_11]] w fun e w' => e = .returned (.bool r) ∧ Below w.heap.size w w' := by
 have hu28 := Try.underlying28
 have hu26 := Try.underlying26
 have HB := Aside0.mk (Below.refl w.heap.size w)
 have H := h
 clear h
 unfold impl_isEdit.f at H
 replace H := bA H
 obtain ⟨t163, A2, H⟩ := H
 rcases Bool.eq_false_or_eq_true t163 with rfl | rfl
 ·replace H := iT rfl H
  replace H := ifI H
  rcases H with ⟨H, -, c4b0, c4b1⟩ | ⟨H, c4, c4b0, c4b1⟩
  ·by_cases c5 : (a0_2 == 0 && (a0_3 == 0 && (a0_4 == 0 && (a0_5 == 0 && (a0_6 == 0))))) = true
   ·rw [if_pos c5] at H
    have c5b0 : (a0_2 == 0 && (a0_3 == 0 && (a0_4 == 0 && (a0_5 == 0 && (a0_6 == 0))))) = true := c5
    (try (have c5b1 : decide (a0_2 = 0 && (a0_3 == 0 && (a0_4 == 0 && (a0_5 == 0 && (a0_6 == 0))))) = true := by simpa using c5))
    (try (have c5b2 : (a0_2 == 0 && (a0_3 == 0 && (a0_4 == 0 && (a0_5 == 0 && (a0_6 == 0))))) = true := by simpa using c5))
    clear c5
    replace H := bA H
    obtain ⟨t164, A6, H⟩ := H
    obtain rfl := Option.some.inj H
    go_enter Try.func61, Try.ntmps61
    go_wp2_with (first | ((with_reducible refine gD 1 ?_); refine bxE 1 28 #[.int .i64 a0_0, .int .i64 a0_1, .int .i64 a0_2, .int .i64 a0_3, .int .i64 a0_4, .int .i64 a0_5, .int .i64 a0_6, .int .i64 a0_7, .int .i64 a0_8, .int .i64 a0_9, .int .i64 a0_10, .int .i64 a0_11] fun gb162 w7 hg hbox hb => ?_; have BK162 := Aside0.mk hbox; have GE162 := gB HB hg; replace HB := uB HB hb; clear hb hbox hg; have ⟨hcz8_0, hcz8_1, hcz8_2, hcz8_3, hcz8_4, hcz8_5, hcz8_6, hcz8_7, hcz8_8, hcz8_9, hcz8_10, hcz8_11, hfz8_0⟩ := cz12 BK162) | ((with_reducible refine gC 72 ?_); refine lA (some 5) Try.func72 (impl_within.calls a0_1 0 11 true _ A2.out) ?_; rintro _ ⟨nd, rfl⟩) | (go_at_call 89; (with_reducible refine (impl_IsLeg.calls a0_7 a0_8 a0_9 a0_10 a0_11 t164 _ A6.out).mono ?_); rintro e w9 ⟨rfl, hb⟩; replace BK162 := uK BK162 hb; replace HB := uB HB hb; (try clear hb)))
    go_ret
    exact ⟨eB, (bW HB)⟩
   ·rw [if_neg c5] at H
    have c5b0 : (a0_2 == 0 && (a0_3 == 0 && (a0_4 == 0 && (a0_5 == 0 && (a0_6 == 0))))) = false := by simpa using c5
    (try (have c5b1 : decide (a0_2 = 0 && (a0_3 == 0 && (a0_4 == 0 && (a0_5 == 0 && (a0_6 == 0))))) = false := by simpa using c5))
    (try (have c5b2 : (a0_2 == 0 && (a0_3 == 0 && (a0_4 == 0 && (a0_5 == 0 && (a0_6 == 0))))) = false := by simpa using c5))
    (try (have c5b3 : ¬ (a0_2 = 0 && (a0_3 == 0 && (a0_4 == 0 && (a0_5 == 0 && (a0_6 == 0))))) := by simpa using c5))
    clear c5
    obtain rfl := Option.some.inj H
    go_enter Try.func61, Try.ntmps61
    go_wp2_with (first | ((with_reducible refine gD 1 ?_); refine bxE 1 28 #[.int .i64 a0_0, .int .i64 a0_1, .int .i64 a0_2, .int .i64 a0_3, .int .i64 a0_4, .int .i64 a0_5, .int .i64 a0_6, .int .i64 a0_7, .int .i64 a0_8, .int .i64 a0_9, .int .i64 a0_10, .int .i64 a0_11] fun gb162 w10 hg hbox hb => ?_; have BK162 := Aside0.mk hbox; have GE162 := gB HB hg; replace HB := uB HB hb; clear hb hbox hg; have ⟨hcz11_0, hcz11_1, hcz11_2, hcz11_3, hcz11_4, hcz11_5, hcz11_6, hcz11_7, hcz11_8, hcz11_9, hcz11_10, hcz11_11, hfz11_0⟩ := cz12 BK162) | ((with_reducible refine gC 72 ?_); refine lA (some 5) Try.func72 (impl_within.calls a0_1 0 11 true _ A2.out) ?_; rintro _ ⟨nd, rfl⟩))
    go_ret
    exact ⟨eB, (bW HB)⟩
  ·replace H := ifI H
   rcases H with ⟨H, -, c12b0, c12b1⟩ | ⟨H, c12, c12b0, c12b1⟩
   ·replace H := bA H
    obtain ⟨t165, A13, H⟩ := H
    rcases Bool.eq_false_or_eq_true t165 with rfl | rfl
    ·replace H := iT rfl H
     obtain rfl := Option.some.inj H
     go_enter Try.func61, Try.ntmps61
     go_wp2_with (first | ((with_reducible refine gD 1 ?_); refine bxE 1 28 #[.int .i64 a0_0, .int .i64 a0_1, .int .i64 a0_2, .int .i64 a0_3, .int .i64 a0_4, .int .i64 a0_5, .int .i64 a0_6, .int .i64 a0_7, .int .i64 a0_8, .int .i64 a0_9, .int .i64 a0_10, .int .i64 a0_11] fun gb162 w15 hg hbox hb => ?_; have BK162 := Aside0.mk hbox; have GE162 := gB HB hg; replace HB := uB HB hb; clear hb hbox hg; have ⟨hcz16_0, hcz16_1, hcz16_2, hcz16_3, hcz16_4, hcz16_5, hcz16_6, hcz16_7, hcz16_8, hcz16_9, hcz16_10, hcz16_11, hfz16_0⟩ := cz12 BK162) | ((with_reducible refine gC 72 ?_); refine lA (some 5) Try.func72 (impl_within.calls a0_1 0 11 true _ A2.out) ?_; rintro _ ⟨nd, rfl⟩) | ((with_reducible refine gC 89 ?_); refine lA (some 24) Try.func89 (impl_IsLeg.calls a0_2 a0_3 a0_4 a0_5 a0_6 true _ A13.out) ?_; intro w17 hb; replace BK162 := uK BK162 hb; replace HB := uB HB hb; (try clear hb); have ⟨hcz18_0, hcz18_1, hcz18_2, hcz18_3, hcz18_4, hcz18_5, hcz18_6, hcz18_7, hcz18_8, hcz18_9, hcz18_10, hcz18_11, hfz18_0⟩ := cz12 BK162))
     go_ret
     exact ⟨eB, (bW HB)⟩
    ·replace H := iF (by decide) H
     obtain rfl := Option.some.inj H
     go_enter Try.func61, Try.ntmps61
     go_wp2_with (first | ((with_reducible refine gD 1 ?_); refine bxE 1 28 #[.int .i64 a0_0, .int .i64 a0_1, .int .i64 a0_2, .int .i64 a0_3, .int .i64 a0_4, .int .i64 a0_5, .int .i64 a0_6, .int .i64 a0_7, .int .i64 a0_8, .int .i64 a0_9, .int .i64 a0_10, .int .i64 a0_11] fun gb162 w19 hg hbox hb => ?_; have BK162 := Aside0.mk hbox; have GE162 := gB HB hg; replace HB := uB HB hb; clear hb hbox hg; have ⟨hcz20_0, hcz20_1, hcz20_2, hcz20_3, hcz20_4, hcz20_5, hcz20_6, hcz20_7, hcz20_8, hcz20_9, hcz20_10, hcz20_11, hfz20_0⟩ := cz12 BK162) | ((with_reducible refine gC 72 ?_); refine lA (some 5) Try.func72 (impl_within.calls a0_1 0 11 true _ A2.out) ?_; rintro _ ⟨nd, rfl⟩) | ((with_reducible refine gC 89 ?_); refine lA (some 24) Try.func89 (impl_IsLeg.calls a0_2 a0_3 a0_4 a0_5 a0_6 false _ A13.out) ?_; intro w21 hb; replace BK162 := uK BK162 hb; replace HB := uB HB hb; (try clear hb)))
     go_ret
     exact ⟨eB, (bW HB)⟩
   ·replace H := ifI H
    rcases H with ⟨H, -, c22b0, c22b1⟩ | ⟨H, c22, c22b0, c22b1⟩
    ·replace H := bA H
     obtain ⟨t166, A23, H⟩ := H
     rcases Bool.eq_false_or_eq_true t166 with rfl | rfl
     ·replace H := iT rfl H
      replace H := bA H
      obtain ⟨t167, A25, H⟩ := H
      rcases Bool.eq_false_or_eq_true t167 with rfl | rfl
      ·replace H := iT rfl H
       obtain rfl := Option.some.inj H
       go_enter Try.func61, Try.ntmps61
       go_wp2_with (first | ((with_reducible refine gD 1 ?_); refine bxE 1 28 #[.int .i64 a0_0, .int .i64 a0_1, .int .i64 a0_2, .int .i64 a0_3, .int .i64 a0_4, .int .i64 a0_5, .int .i64 a0_6, .int .i64 a0_7, .int .i64 a0_8, .int .i64 a0_9, .int .i64 a0_10, .int .i64 a0_11] fun gb162 w27 hg hbox hb => ?_; have BK162 := Aside0.mk hbox; have GE162 := gB HB hg; replace HB := uB HB hb; clear hb hbox hg; have ⟨hcz28_0, hcz28_1, hcz28_2, hcz28_3, hcz28_4, hcz28_5, hcz28_6, hcz28_7, hcz28_8, hcz28_9, hcz28_10, hcz28_11, hfz28_0⟩ := cz12 BK162) | ((with_reducible refine gC 72 ?_); refine lA (some 5) Try.func72 (impl_within.calls a0_1 0 11 true _ A2.out) ?_; rintro _ ⟨nd, rfl⟩) | (go_at_call 89; (with_reducible refine (impl_IsLeg.calls a0_2 a0_3 a0_4 a0_5 a0_6 true _ A23.out).mono ?_); rintro e w29 ⟨rfl, hb⟩; replace BK162 := uK BK162 hb; replace HB := uB HB hb; (try clear hb); have ⟨hcz30_0, hcz30_1, hcz30_2, hcz30_3, hcz30_4, hcz30_5, hcz30_6, hcz30_7, hcz30_8, hcz30_9, hcz30_10, hcz30_11, hfz30_0⟩ := cz12 BK162) | (go_at_call 89; (with_reducible refine (impl_IsLeg.calls a0_7 a0_8 a0_9 a0_10 a0_11 true _ A25.out).mono ?_); rintro e w31 ⟨rfl, hb⟩; replace BK162 := uK BK162 hb; replace HB := uB HB hb; (try clear hb); have ⟨hcz32_0, hcz32_1, hcz32_2, hcz32_3, hcz32_4, hcz32_5, hcz32_6, hcz32_7, hcz32_8, hcz32_9, hcz32_10, hcz32_11, hfz32_0⟩ := cz12 BK162))
       go_ret
       exact ⟨eB, (bW HB)⟩
      ·replace H := iF (by decide) H
       obtain rfl := Option.some.inj H
       go_enter Try.func61, Try.ntmps61
       go_wp2_with (first | ((with_reducible refine gD 1 ?_); refine bxE 1 28 #[.int .i64 a0_0, .int .i64 a0_1, .int .i64 a0_2, .int .i64 a0_3, .int .i64 a0_4, .int .i64 a0_5, .int .i64 a0_6, .int .i64 a0_7, .int .i64 a0_8, .int .i64 a0_9, .int .i64 a0_10, .int .i64 a0_11] fun gb162 w33 hg hbox hb => ?_; have BK162 := Aside0.mk hbox; have GE162 := gB HB hg; replace HB := uB HB hb; clear hb hbox hg; have ⟨hcz34_0, hcz34_1, hcz34_2, hcz34_3, hcz34_4, hcz34_5, hcz34_6, hcz34_7, hcz34_8, hcz34_9, hcz34_10, hcz34_11, hfz34_0⟩ := cz12 BK162) | ((with_reducible refine gC 72 ?_); refine lA (some 5) Try.func72 (impl_within.calls a0_1 0 11 true _ A2.out) ?_; rintro _ ⟨nd, rfl⟩) | (go_at_call 89; (with_reducible refine (impl_IsLeg.calls a0_2 a0_3 a0_4 a0_5 a0_6 true _ A23.out).mono ?_); rintro e w35 ⟨rfl, hb⟩; replace BK162 := uK BK162 hb; replace HB := uB HB hb; (try clear hb); have ⟨hcz36_0, hcz36_1, hcz36_2, hcz36_3, hcz36_4, hcz36_5, hcz36_6, hcz36_7, hcz36_8, hcz36_9, hcz36_10, hcz36_11, hfz36_0⟩ := cz12 BK162) | (go_at_call 89; (with_reducible refine (impl_IsLeg.calls a0_7 a0_8 a0_9 a0_10 a0_11 false _ A25.out).mono ?_); rintro e w37 ⟨rfl, hb⟩; replace BK162 := uK BK162 hb; replace HB := uB HB hb; (try clear hb)))
       go_ret
       exact ⟨eB, (bW HB)⟩
     ·replace H := iF (by decide) H
      obtain rfl := Option.some.inj H
      go_enter Try.func61, Try.ntmps61
      go_wp2_with (first | ((with_reducible refine gD 1 ?_); refine bxE 1 28 #[.int .i64 a0_0, .int .i64 a0_1, .int .i64 a0_2, .int .i64 a0_3, .int .i64 a0_4, .int .i64 a0_5, .int .i64 a0_6, .int .i64 a0_7, .int .i64 a0_8, .int .i64 a0_9, .int .i64 a0_10, .int .i64 a0_11] fun gb162 w38 hg hbox hb => ?_; have BK162 := Aside0.mk hbox; have GE162 := gB HB hg; replace HB := uB HB hb; clear hb hbox hg; have ⟨hcz39_0, hcz39_1, hcz39_2, hcz39_3, hcz39_4, hcz39_5, hcz39_6, hcz39_7, hcz39_8, hcz39_9, hcz39_10, hcz39_11, hfz39_0⟩ := cz12 BK162) | ((with_reducible refine gC 72 ?_); refine lA (some 5) Try.func72 (impl_within.calls a0_1 0 11 true _ A2.out) ?_; rintro _ ⟨nd, rfl⟩) | (go_at_call 89; (with_reducible refine (impl_IsLeg.calls a0_2 a0_3 a0_4 a0_5 a0_6 false _ A23.out).mono ?_); rintro e w40 ⟨rfl, hb⟩; replace BK162 := uK BK162 hb; replace HB := uB HB hb; (try clear hb)))
      go_ret
      exact ⟨eB, (bW HB)⟩
    ·obtain rfl := Option.some.inj H
     go_enter Try.func61, Try.ntmps61
     go_wp2_with (first | ((with_reducible refine gD 1 ?_); refine bxE 1 28 #[.int .i64 a0_0, .int .i64 a0_1, .int .i64 a0_2, .int .i64 a0_3, .int .i64 a0_4, .int .i64 a0_5, .int .i64 a0_6, .int .i64 a0_7, .int .i64 a0_8, .int .i64 a0_9, .int .i64 a0_10, .int .i64 a0_11] fun gb162 w41 hg hbox hb => ?_; have BK162 := Aside0.mk hbox; have GE162 := gB HB hg; replace HB := uB HB hb; clear hb hbox hg; have ⟨hcz42_0, hcz42_1, hcz42_2, hcz42_3, hcz42_4, hcz42_5, hcz42_6, hcz42_7, hcz42_8, hcz42_9, hcz42_10, hcz42_11, hfz42_0⟩ := cz12 BK162) | ((with_reducible refine gC 72 ?_); refine lA (some 5) Try.func72 (impl_within.calls a0_1 0 11 true _ A2.out) ?_; rintro _ ⟨nd, rfl⟩))
     go_ret
     exact ⟨eB, (bW HB)⟩
 ·replace H := iF (by decide) H
  obtain rfl := Option.some.inj H
  go_enter Try.func61, Try.ntmps61
  go_wp2_with (first | ((with_reducible refine gD 1 ?_); refine bxE 1 28 #[.int .i64 a0_0, .int .i64 a0_1, .int .i64 a0_2, .int .i64 a0_3, .int .i64 a0_4, .int .i64 a0_5, .int .i64 a0_6, .int .i64 a0_7, .int .i64 a0_8, .int .i64 a0_9, .int .i64 a0_10, .int .i64 a0_11] fun gb162 w43 hg hbox hb => ?_; have BK162 := Aside0.mk hbox; have GE162 := gB HB hg; replace HB := uB HB hb; clear hb hbox hg; have ⟨hcz44_0, hcz44_1, hcz44_2, hcz44_3, hcz44_4, hcz44_5, hcz44_6, hcz44_7, hcz44_8, hcz44_9, hcz44_10, hcz44_11, hfz44_0⟩ := cz12 BK162) | ((with_reducible refine gC 72 ?_); refine lA (some 5) Try.func72 (impl_within.calls a0_1 0 11 false _ A2.out) ?_; rintro _ ⟨nd, rfl⟩))
  go_ret
  exact ⟨eB, (bW HB)⟩

/-! ### impl_Leg_90: function 90 -/
-- calls: none
def cellsLeg (x : S26) : List Value := [.int .i64 x.f0, .int .i64 x.f1, .int .i64 x.f2, .int .i64 x.f3, .int .i64 x.f4]
theorem cellsLeg_len (x : S26) : (cellsLeg x).length = 5 := rfl
def flatLeg (xs : List (S26)) : List Value := xs.flatMap cellsLeg
theorem flatLeg_cons (x : S26) (xs : List (S26)) : flatLeg (x :: xs) = cellsLeg x ++ flatLeg xs := rfl
theorem flatLeg_len : ∀ xs : List (S26), (flatLeg xs).length = xs.length * 5
 | [] => rfl
 | x :: xs => by rw [flatLeg_cons, List.length_append, flatLeg_len xs, cellsLeg_len, List.length_cons]; omega
theorem flatLeg_app (xs ys : List (S26)) : flatLeg (xs ++ ys) = flatLeg xs ++ flatLeg ys := by unfold flatLeg; rw [List.flatMap_append]
theorem flatLeg_take : ∀ (xs : List (S26)) (i : Nat), flatLeg (xs.take i) = (flatLeg xs).take (i * 5)
 | [], i => by simp [flatLeg]
 | x :: xs, 0 => by simp [flatLeg]
 | x :: xs, i + 1 => by
  rw [List.take_succ_cons, flatLeg_cons, flatLeg_cons, flatLeg_take xs i, List.take_append, cellsLeg_len, List.take_of_length_le (show (cellsLeg x).length ≤ (i + 1) * 5 by rw [cellsLeg_len]; omega), show (i + 1) * 5 - 5 = i * 5 by omega]
theorem flatLeg_drop : ∀ (xs : List (S26)) (i : Nat), flatLeg (xs.drop i) = (flatLeg xs).drop (i * 5)
 | [], i => by simp [flatLeg]
 | x :: xs, 0 => by simp
 | x :: xs, i + 1 => by
  rw [List.drop_succ_cons, flatLeg_cons, flatLeg_drop xs i, List.drop_append, cellsLeg_len, List.drop_eq_nil_of_le (show (cellsLeg x).length ≤ (i + 1) * 5 by rw [cellsLeg_len]; omega), List.nil_append, show (i + 1) * 5 - 5 = i * 5 by omega]
theorem flatLeg_one (xs : List (S26)) : ∀ u ∈ flatLeg xs, u.oneCell' = true := by
 intro u hu
 obtain ⟨x, _, hx⟩ := List.mem_flatMap.1 hu
 simp only [cellsLeg, List.mem_cons, List.not_mem_nil, or_false] at hx
 rcases hx with rfl | rfl | rfl | rfl | rfl <;> rfl
theorem reps_flat {w : World} {base : Nat} {ok : Nat → Prop} : ∀ (xs : List (S26)) (cs : List Value), Reps (k26.M w base ok) 5 xs cs → cs = flatLeg xs
 | [], cs, h => List.eq_nil_of_length_eq_zero (by simpa using h.1)
 | x :: xs, cs, h => by
  have h0 := k26_openM (h.2 0 x rfl)
  rw [Nat.zero_mul, List.drop_zero] at h0
  have hl := h.1
  rw [List.length_cons, Nat.succ_mul] at hl
  have ht := reps_flat xs (cs.drop 5) ⟨by rw [List.length_drop]; omega, fun j p hp => by
   have := h.2 (j + 1) p (by simpa using hp)
   rw [List.drop_drop]
   rwa [Nat.succ_mul, Nat.add_comm] at this⟩
  rw [flatLeg_cons, ← ht]
  exact (List.take_append_drop 5 cs).symm.trans (congrArg (· ++ cs.drop 5) h0)
theorem flat_reps (w : World) (base : Nat) (ok : Nat → Prop) : ∀ xs : List (S26), Reps (k26.M w base ok) 5 xs (flatLeg xs)
 | [] => Reps.none _ _
 | x :: xs => by
  refine ⟨flatLeg_len _, fun j p hp => ?_⟩
  cases j with
  | zero =>
   obtain rfl : x = p := by simpa using hp
   exact k26_mkM w base ok x
  | succ j =>
   have h := (flat_reps w base ok xs).2 j p (by simpa using hp)
   rw [flatLeg_cons, List.drop_append, cellsLeg_len, List.drop_eq_nil_of_le (show (cellsLeg x).length ≤ (j + 1) * 5 by rw [cellsLeg_len]; omega), List.nil_append, show (j + 1) * 5 - 5 = j * 5 by omega]
   exact h
theorem own_open {w : World} {n0 : Nat} {ok : Nat → Prop} {g n c : Nat} {l : List (S26)} (h : Kd.R k26 26 w n0 ok (.slice (some ⟨g, 0, none⟩) n c) l) :
  ∃ cur, w.heap[g]? = some (.cells cur 26 (0, 0)) ∧ n0 ≤ g ∧ n = l.length ∧ n ≤ c ∧ c ≤ maxLen ∧ cur.size = c * 5 ∧ cur.toList.take (n * 5) = flatLeg l := by
 obtain ⟨hn, _, _⟩ := Kd.R_reads' h
 obtain ⟨_, inner, ho, hr⟩ := h
 rcases ho.2 with ⟨h1, _⟩ | ⟨g', cap, cur, he, hb, hh, hnc, hcm, hcs, ht⟩
 ·cases h1
 ·injection he with e1 e2 e3
  injection e1 with e1
  injection e1 with e1
  subst e1 e2 e3
  exact ⟨cur, hh, hb, rfl, hnc, hcm, hcs, ht.trans (reps_flat l inner hr)⟩
theorem own_shut {w : World} {n0 : Nat} {g n c : Nat} {cur : Array Value} {l : List (S26)} (hh : w.heap[g]? = some (.cells cur 26 (0, 0))) (hb : n0 ≤ g) (hn : n = l.length) (hnc : n ≤ c) (hcm : c ≤ maxLen) (hcs : cur.size = c * 5) (ht : cur.toList.take (n * 5) = flatLeg l) :
  Kd.R k26 26 w n0 (fun _ => True) (.slice (some ⟨g, 0, none⟩) n c) l := by
 subst hn
 exact ⟨fun _ _ => trivial, flatLeg l, ⟨flatLeg_len l, .inr ⟨g, c, cur, rfl, hb, hh, hnc, hcm, hcs, ht⟩⟩, flat_reps w n0 _ l⟩
theorem run_copy_at {P : Program} (w : World) (dT sT ty elem : TypeId) (i : TypeInfo) (g off dLen dCap : Nat) (cur : Array Value) (a : Addr) (sLen sCap : Nat) (cs : List Value)
  (hu : P.underlying dT = some (.slice elem)) (hi : P.info? elem = some i) (hn : cs.length = Nat.min sLen dLen * i.size)
  (hsrc : ∀ j v, cs[j]? = some v → w.cell? (a.add j) = some v) (hg : w.heap[g]? = some (.cells cur elem (0, 0))) (hfit : off + cs.length ≤ cur.size) (h1 : ∀ v ∈ cs, v.oneCell' = true) :
  (Builtin.copy_ #[dT, sT] ty #[.slice (some ⟨g, off, none⟩) dLen dCap, .slice (some a) sLen sCap]).run P w = .ok (goInt (Nat.min sLen dLen)) (w.setRow g (cur.toList.take off ++ cs ++ cur.toList.drop (off + cs.length)).toArray) := by
 have hl := run_firstCells_some (P := P) w i.size (Nat.min sLen dLen) a sLen sCap cs hn hsrc
 have hst := run_storeCells_at P g off elem cs 0 cur w hg (by simpa using hfit) h1
 simp only [Nat.add_zero] at hst
 simp [Builtin.copy_, run_underlying hu, Builtin.lenOf, sizeOf, typeInfo, hi, hl, hst]
theorem grown_setRow (w : World) (g : Nat) (cs : Array Value) : w.grownBy (w.setRow g cs) (some g) := by
 refine ⟨rfl, rfl, rfl, ?_, fun k hk hne => ?_⟩
 ·simp [World.setRow]
 ·have : g ≠ k := fun h => hne (by rw [h])
  simp [World.setRow, Array.getElem?_modify, this]
theorem infoI26 : (Try.prog.info? 26).map (fun i => (i.zero, i.size, i.bytes)) = some (some (.agg #[.int .i64 0, .int .i64 0, .int .i64 0, .int .i64 0, .int .i64 0]), 5, 40) := by kernel_rfl
/-! What is of another type stays. -/
def Others (w w' : World) : Prop := ∀ (g : Nat) (o : Obj), w.heap[g]? = some o → (∀ a f, o ≠ .cells a 26 f) → w'.heap[g]? = some o
theorem others_of {w w' : World} {row : Option Nat} (hg : w.grownBy w' row) (ht : ∀ k, row = some k → ∃ cells, w.heap[k]? = some (.cells cells 26 (0, 0))) : Others w w' := by
 intro g o ho hne
 refine (hg.block g (Array.getElem?_eq_some_iff.1 ho).1 (fun e => ?_)).trans ho
 obtain ⟨cells, hc⟩ := ht g e.symm
 rw [hc] at ho
 exact hne cells (0, 0) (Option.some.inj ho).symm
theorem wpList_copy_runI {P : Program} (w : World) {ops : Array Oper} {rest : List Oper} {o : Oper} {a : Act} {Q : Exit → Act → World → Prop} (hgd : o.guard = none) (d s : Operand) (t t' : TypeId)
  (ho : o.op = .call { callee := .builtin .copy, args := #[d, s], argTypes := #[t, t'] }) (v u : Value) (hd : a.eval d = v) (hs : a.eval s = u) {v' : Value} {w' : World}
  (hr : (Builtin.copy_ #[t, t'] o.type #[v, u]).run P w = .ok v' w') (h : wpList P ops Q rest (a.put o.dst v') w') : wpList P ops Q (o :: rest) a w :=
 wpList_plain hgd fun _ hK => by
  unfold Oper.wp execOp
  simp only [ho, resolve, invoke, builtin, Sem.run_bind, Sem.run_pure, Result.andThen_ok, List.map_toArray, List.map_cons, List.map_nil, hd, hs, hr]
  exact hK _ _ h
theorem step_copy_runI {P : Program} {ops : Array Oper} {o : Oper} {a : Act} {w : World} {K : Act → World → Prop} {Q : Exit → Act → World → Prop} {E : Prop}
  (hg : o.guard = none) (d x : Operand) (dT sT : TypeId) (hop : o.op = Op.call { callee := Callee.builtin Builtin.copy, args := #[d, x], argTypes := #[dT, sT] })
  (v u : Value) (hd : a.eval d = v) (hx : a.eval x = u) {v' : Value} {w' : World} (hr : (Builtin.copy_ #[dT, sT] o.type #[v, u]).run P w = .ok v' w') (hK : K (a.put o.dst v') w') :
  if Region.wanted o (yielded ops a.tmps) = true then Oper.wp P o a w K Q else E := by
 have hw : Region.wanted o (yielded ops a.tmps) = true := by simp [Region.wanted, hg]
 rw [if_pos hw]
 unfold Oper.wp
 simp [execOp, hop, resolve, invoke, builtin, hd, hx, hr, Result.andThen]
 exact hK
set_option maxHeartbeats 4000000 in
set_option maxRecDepth 100000 in
theorem insert_end (A0 : Option Addr) (c0 : Nat) (l0 : List (S26)) (A2 : Option Addr) (c2 : Nat) (l2 : List (S26)) (w : World) (n0 : Nat) (hs : Kd.R k26 26 w n0 (fun _ => True) (.slice A0 l0.length c0) l0) (hv : Kd.C k26 w A2 l2.length l2) (h2 : l2.length = 1) (hb : l0.length ≤ 1000000) (hn0 : n0 ≤ w.heap.size) :
  Calls Try.prog 90 #[.slice A0 l0.length c0, .int .i64 (l0.length : Int), .slice A2 l2.length c2] w fun e w' => ∃ v0_ : Value, e = .returned (v0_) ∧ Kd.R k26 26 w' n0 (fun _ => True) v0_ (l0 ++ l2) ∧ Below n0 w w' ∧ Others w w' := by
 have hz1 : ¬ ((l2.length : Int) = 0) := by omega
 have HS := Aside0.mk hs
 have HV := Aside0.mk hv
 have hnc := (Kd.R_reads' hs).2.1
 clear hs hv
 cases A0 with
 | none =>
  have h0 : l0 = [] := by
   obtain ⟨_, _, hC⟩ := Kd.R_reads' HS.out
   rcases Nat.eq_zero_or_pos l0.length with h0 | h0
   ·exact List.eq_nil_of_length_eq_zero h0
   ·obtain ⟨ad, he, _⟩ := hC.2.2 h0
    cases he
  subst h0
  have hc00 : c0 = 0 := by
   obtain ⟨inner, ho⟩ := Kd.R_own HS.out
   rcases ho.2 with ⟨h1, _⟩ | ⟨g', cap, cur, he, _⟩
   ·injection h1
   ·cases he
  subst hc00
  simp only [List.length_nil, List.nil_append, Int.natCast_zero, Int.ofNat_zero]
  go_enter Try.func90, Try.ntmps90
  go_wp2_with (at_builtin; refine Kd.R_append_rows k26 (w0 := w) n0 rfl (.tmp 23) (.tmp 24) 39 26 (.agg #[.int .i64 0, .int .i64 0, .int .i64 0, .int .i64 0, .int .i64 0]) 40 rfl Try.underlying39 infoI26 rfl (by decide) (by omega) _ [] l2 _ _ _ (fun _ => True) (fun _ => False) rfl rfl (Kd.R_nil _ _ _ _ _) HV.out (fun _ _ h => h) (fun _ h => h.elim) (fun _ _ => trivial) (Below.refl _ _) hn0 (by rw [h2]; decide) ?_; intro v2 w2 ho2 hb2 hg2 _; have HO2 := Aside0.mk ho2; have HB2 := Aside0.mk hb2; have HG2 := Aside0.mk hg2; clear ho2 hb2 hg2)
  go_ret
  exact ⟨_, rfl, HO2.out, HB2.out, others_of HG2.out (fun k hk => by obtain ⟨inner, ho⟩ := Kd.R_own HS.out; exact own_typed ho k hk)⟩
 | some ad =>
  obtain ⟨g, rfl⟩ : ∃ g, ad = ⟨g, 0, none⟩ := by
   obtain ⟨inner, ho⟩ := Kd.R_own HS.out
   rcases ho.2 with ⟨h1, _⟩ | ⟨g', cap, cur, he, _⟩
   ·cases h1
   ·injection he with e1
    injection e1 with e1
    exact ⟨g', e1⟩
  have hn : l0.length ≤ c0 := hnc
  by_cases hc : c0 = l0.length
  ·go_enter Try.func90, Try.ntmps90
   go_wp2_with (at_builtin; refine Kd.R_append_rows k26 (w0 := w) n0 rfl (.tmp 23) (.tmp 24) 39 26 (.agg #[.int .i64 0, .int .i64 0, .int .i64 0, .int .i64 0, .int .i64 0]) 40 rfl Try.underlying39 infoI26 rfl (by decide) (by omega) _ l0 l2 _ _ _ (fun _ => True) (fun _ => False) rfl rfl HS.out HV.out (fun _ _ h => h) (fun _ h => h.elim) (fun _ _ => trivial) (Below.refl _ _) hn0 (by rw [h2]; omega) ?_; intro v2 w2 ho2 hb2 hg2 _; have HO2 := Aside0.mk ho2; have HB2 := Aside0.mk hb2; have HG2 := Aside0.mk hg2; clear ho2 hb2 hg2)
   go_ret
   exact ⟨_, rfl, HO2.out, HB2.out, others_of HG2.out (fun k hk => by obtain ⟨inner, ho⟩ := Kd.R_own HS.out; exact own_typed ho k hk)⟩
  ·go_enter Try.func90, Try.ntmps90
   go_wp2_with (at_builtin; refine Kd.R_append_rows k26 (w0 := w) n0 rfl (.tmp 23) (.tmp 24) 39 26 (.agg #[.int .i64 0, .int .i64 0, .int .i64 0, .int .i64 0, .int .i64 0]) 40 rfl Try.underlying39 infoI26 rfl (by decide) (by omega) _ l0 l2 _ _ _ (fun _ => True) (fun _ => False) rfl rfl HS.out HV.out (fun _ _ h => h) (fun _ h => h.elim) (fun _ _ => trivial) (Below.refl _ _) hn0 (by rw [h2]; omega) ?_; intro v2 w2 ho2 hb2 hg2 _; have HO2 := Aside0.mk ho2; have HB2 := Aside0.mk hb2; have HG2 := Aside0.mk hg2; clear ho2 hb2 hg2)
   go_ret
   exact ⟨_, rfl, HO2.out, HB2.out, others_of HG2.out (fun k hk => by obtain ⟨inner, ho⟩ := Kd.R_own HS.out; exact own_typed ho k hk)⟩
theorem ins_list {α : Type} (C F V C1 C2 : List α) (a b : Nat) (hF : C.take b = F) (ha : a ≤ b) (hV : V.length = 5) (hC : b + 5 ≤ C.length)
  (h1 : C1 = C.take (a + 5) ++ F.drop a ++ C.drop (a + 5 + (F.drop a).length)) (h2 : C2 = C1.take a ++ V ++ C1.drop (a + V.length)) :
  C2.take (b + 5) = F.take a ++ (V ++ F.drop a) ∧ C1.length = C.length ∧ C2.length = C.length := by
 have lF : F.length = b := by rw [← hF, List.length_take]; omega
 have lD : (F.drop a).length = b - a := by rw [List.length_drop, lF]
 have lT : (C.take (a + 5)).length = a + 5 := by rw [List.length_take]; omega
 have l1 : C1.length = C.length := by rw [h1, List.length_append, List.length_append, lT, lD, List.length_drop]; omega
 have l2 : C2.length = C.length := by rw [h2, List.length_append, List.length_append, List.length_take, hV, List.length_drop, l1]; omega
 refine ⟨?_, l1, l2⟩
 have e1 : C1.take a = F.take a := by
  rw [h1, List.append_assoc, List.take_append_of_le_length (by omega), List.take_take, ← hF, List.take_take, Nat.min_eq_left (by omega), Nat.min_eq_left ha]
 have e2 : C1.drop (a + V.length) = F.drop a ++ C.drop (a + 5 + (F.drop a).length) := by
  rw [h1, hV, List.append_assoc, List.drop_append_of_le_length (by omega), List.drop_eq_nil_of_le (by omega), List.nil_append]
 rw [h2, e1, e2]
 have lA : (F.take a).length = a := by rw [List.length_take]; omega
 rw [show F.take a ++ V ++ (F.drop a ++ C.drop (a + 5 + (F.drop a).length)) = (F.take a ++ (V ++ F.drop a)) ++ C.drop (a + 5 + (F.drop a).length) by simp only [List.append_assoc]]
 have lW : (F.take a ++ (V ++ F.drop a)).length = b + 5 := by rw [List.length_append, List.length_append, lA, hV, lD]; omega
 rw [List.take_append_of_le_length (by omega), List.take_of_length_le (by omega)]
theorem take_list (cur : Array Value) (j : Nat) (v : Value) (b : Nat) (F : List Value) (h : cur.toList.take b = F) (hj : F[j]? = some v) : cur[j]? = some v := by
 subst h
 rw [List.getElem?_take] at hj
 split at hj
 ·rw [← Array.getElem?_toList]; exact hj
 ·cases hj
theorem setRow_at (w : World) (g : Nat) (cur cs : Array Value) (t : TypeId) (h : w.heap[g]? = some (.cells cur t (0, 0))) : (w.setRow g cs).heap[g]? = some (.cells cs t (0, 0)) := setRow_heap w g cur cs t (0, 0) h
set_option maxHeartbeats 4000000 in
set_option maxRecDepth 100000 in
theorem insert_room (g c0 i : Nat) (l0 : List (S26)) (vb c2 : Nat) (l2 : List (S26)) (w : World) (n0 : Nat) (hs : Kd.R k26 26 w n0 (fun _ => True) (.slice (some ⟨g, 0, none⟩) l0.length c0) l0) (hv : Kd.R k26 26 w n0 (fun _ => True) (.slice (some ⟨vb, 0, none⟩) 1 c2) l2) (hd : vb ≠ g) (h2 : l2.length = 1) (hb : l0.length ≤ 1000000) (hi : i < l0.length) (hroom : l0.length + 1 ≤ c0) :
  Calls Try.prog 90 #[.slice (some ⟨g, 0, none⟩) l0.length c0, .int .i64 (i : Int), .slice (some ⟨vb, 0, none⟩) 1 c2] w fun e w' => ∃ v0_ : Value, e = .returned (v0_) ∧ Kd.R k26 26 w' n0 (fun _ => True) v0_ (l0.take i ++ (l2 ++ l0.drop i)) ∧ Below n0 w w' ∧ Others w w' := by
 obtain ⟨cur, hg, hgb, hx0, hx1, hcm, hcs, hct⟩ := own_open hs
 obtain ⟨vcur, hvg, hx2, hx3, hvc, hx4, hvs, hvt⟩ := own_open hv
 obtain ⟨i0, hi0, hzz⟩ := Option.map_eq_some_iff.1 infoI26
 simp only [Prod.mk.injEq] at hzz
 obtain ⟨hz0, hz1, hz2⟩ := hzz
 have hcl : cur.toList.length = c0 * 5 := by rw [Array.length_toList]; exact hcs
 have hcm' : c0 ≤ 9223372036854775807 := by unfold maxLen at hcm; omega
 have lF : (flatLeg l0).length = l0.length * 5 := flatLeg_len l0
 have lV : (flatLeg l2).length = 5 := by rw [flatLeg_len, h2]
 have lD : ((flatLeg l0).drop (i * 5)).length = (l0.length - i) * 5 := by rw [List.length_drop, lF]; omega
 have hov : ∀ (off lb cb : Nat), (callFunc 99 #[.slice (some ⟨vb, 0, none⟩) 1 c2, .slice (some ⟨g, off, none⟩) lb cb]).run Try.prog w = .ok (.value (.bool false)) w := fun off lb cb => by
  rw [run_callFunc_extern Try.func99 (by kernel_rfl) (by kernel_rfl) (by kernel_rfl) (e := Extern.SlicesOverlaps.overlaps #[39, 39] #[4]) (by kernel_rfl),
   Lib.run_overlaps_apart w 39 4 26 Try.underlying39 5 (fun w => by simp [Go.sizeOf, typeInfo, hi0, hz1]) ⟨vb, 0, none⟩ ⟨g, off, none⟩ 1 c2 lb cb hd 26 26 vcur.size cur.size (by simp [World.shape?, hvg]) (by simp [World.shape?, hg]) (by omega) (blk_frozen hvg 0) (blk_frozen hvg _)]
  rfl
 obtain ⟨C1, hC1⟩ : ∃ C1 : List Value, C1 = cur.toList.take (i * 5 + 5) ++ (flatLeg l0).drop (i * 5) ++ cur.toList.drop (i * 5 + 5 + ((flatLeg l0).drop (i * 5)).length) := ⟨_, rfl⟩
 obtain ⟨C2, hC2⟩ : ∃ C2 : List Value, C2 = C1.take (i * 5) ++ flatLeg l2 ++ C1.drop (i * 5 + (flatLeg l2).length) := ⟨_, rfl⟩
 obtain ⟨t2, s1, s2⟩ := ins_list cur.toList (flatLeg l0) (flatLeg l2) C1 C2 (i * 5) (l0.length * 5) hct (by omega) lV (by rw [hcl]; omega) hC1 hC2
 have hcp1 : ∃ W1 : World, W1.heap[g]? = some (.cells C1.toArray 26 (0, 0)) ∧ w.grownBy W1 (some g) ∧ ∀ (ty : TypeId) (o1 o2 dl dc sl sc : Nat), o1 = i * 5 + 5 → o2 = i * 5 → dl = l0.length - i → sl = l0.length + 1 - i → (Builtin.copy_ #[39, 39] ty #[.slice (some ⟨g, o1, none⟩) dl dc, .slice (some ⟨g, o2, none⟩) sl sc]).run Try.prog w.drew = .ok (goInt (Nat.min sl dl)) W1 := by
  have hgd : w.drew.heap[g]? = some (.cells cur 26 (0, 0)) := hg
  refine ⟨w.drew.setRow g C1.toArray, setRow_at _ _ _ _ _ hgd, ⟨rfl, rfl, rfl, (grown_setRow w.drew g C1.toArray).size, (grown_setRow w.drew g C1.toArray).block⟩, ?_⟩
  intro ty o1 o2 dl dc sl sc e1 e2 e3 e4
  subst e1 e2 e3 e4
  have h := run_copy_at (P := Try.prog) w.drew 39 39 ty 26 i0 g (i * 5 + 5) (l0.length - i) dc cur ⟨g, i * 5, none⟩ (l0.length + 1 - i) sc ((flatLeg l0).drop (i * 5)) Try.underlying39 hi0
   (by rw [lD, hz1]; simp only [Nat.min_def]; split <;> omega) (fun j v hj => by
    rw [Addr.add_lit, blk_cell hgd]
    rw [List.getElem?_drop] at hj
    exact take_list cur _ v _ _ hct hj) hgd (by rw [lD, hcs]; omega) (fun v hv => flatLeg_one l0 v (List.mem_of_mem_drop hv))
  rw [hC1]
  exact h
 obtain ⟨W1, hW1, hG1, hcp1⟩ := hcp1
 have hv1 : W1.heap[vb]? = some (.cells vcur 26 (0, 0)) := (hG1.block vb (Array.getElem?_eq_some_iff.1 hvg).1 (fun e => hd (Option.some.inj e))).trans hvg
 have hcp2 : ∃ W2 : World, W2.heap[g]? = some (.cells C2.toArray 26 (0, 0)) ∧ W1.grownBy W2 (some g) ∧ ∀ (ty : TypeId) (o1 dl dc : Nat), o1 = i * 5 → dl = l0.length + 1 - i → (Builtin.copy_ #[39, 39] ty #[.slice (some ⟨g, o1, none⟩) dl dc, .slice (some ⟨vb, 0, none⟩) 1 c2]).run Try.prog W1 = .ok (goInt (Nat.min 1 dl)) W2 := by
  refine ⟨W1.setRow g C2.toArray, setRow_at _ _ _ _ _ hW1, grown_setRow _ _ _, ?_⟩
  intro ty o1 dl dc e1 e2
  subst e1 e2
  have h := run_copy_at (P := Try.prog) W1 39 39 ty 26 i0 g (i * 5) (l0.length + 1 - i) dc C1.toArray ⟨vb, 0, none⟩ 1 c2 (flatLeg l2) Try.underlying39 hi0
   (by rw [lV, hz1]; simp only [Nat.min_def]; split <;> omega) (fun j v hj => by
    rw [Addr.add_lit, Nat.zero_add, blk_cell hv1]
    exact take_list vcur _ v _ _ hvt hj) hW1 (by rw [lV, List.size_toArray, s1, hcl]; omega) (flatLeg_one l2)
  rw [hC2]
  exact h
 obtain ⟨W2, hW2, hG2, hcp2⟩ := hcp2
 have hn1 : ¬ ((1 : Int) = 0) := by decide
 have hi2 : ¬ ((i : Int) = (l0.length : Int)) := by omega
 have hi3 : (0 : Int) ≤ (i : Int) + 1 := by omega
 have hi4 : i ≤ l0.length := by omega
 have hi5 : ((i : Int) + 1).toNat = i + 1 := by omega
 have hi6 : ¬ (c0 = i + 1) := by omega
 have hi7 : (i : Int) ≤ (l0.length : Int) + 1 := by omega
 have hi8 : ¬ (c0 = i) := by omega
 have hi9 : (i : Int) + 1 ≤ (l0.length : Int) + 1 := by omega
 have hw1 : IntKind.i64.wrap ((i : Int) + 1) = (i : Int) + 1 := by rw [IntKind.wrap_i64]; omega
 have hres : Kd.R k26 26 W2 n0 (fun _ => True) (.slice (some ⟨g, 0, none⟩) (l0.length + 1) c0) (l0.take i ++ (l2 ++ l0.drop i)) := by
  refine own_shut hW2 hgb ?_ hroom hcm (by rw [List.size_toArray, s2, hcl]) ?_
  ·rw [List.length_append, List.length_append, List.length_take, List.length_drop, h2]; omega
  ·rw [flatLeg_app, flatLeg_app, flatLeg_take, flatLeg_drop, ← t2, List.toList_toArray, Nat.succ_mul]
 have hgr : w.grownBy W2 (some g) := ⟨hG2.os.trans hG1.os, hG2.tape.trans hG1.tape, hG2.output.trans hG1.output, Nat.le_trans hG1.size hG2.size, fun k hk hne => (hG2.block k (Nat.lt_of_lt_of_le hk hG1.size) hne).trans (hG1.block k hk hne)⟩
 have hbel : Below n0 w W2 := (Below.refl n0 w).grown hgr (by have := (Array.getElem?_eq_some_iff.1 hg).1; omega) (fun k hk => by obtain rfl := Option.some.inj hk; exact hgb)
 have hoth : Others w W2 := others_of hgr (fun k hk => by obtain rfl := Option.some.inj hk; exact ⟨cur, hg⟩)
 have HCP1 := Aside0.mk hcp1
 have HCP2 := Aside0.mk hcp2
 have HRES := Aside0.mk hres
 have HBEL := Aside0.mk hbel
 have HOTH := Aside0.mk hoth
 clear hs hv hC1 hC2 t2 s1 s2 hW1 hW2 hG1 hG2 hv1 hct hvt hcl hcs hvs lF lV lD hgr hg hvg hcp1 hcp2 hres hbel hoth hgb hi0 hz0 hz1 hz2 hcm hvc hb h2 hx0 hx1 hx2 hx3 hx4
 go_enter Try.func90, Try.ntmps90
 go_wp2_with (simp only [hov])
 go_region_law (refine step_copy_runI rfl _ _ 39 39 rfl (.slice (some ⟨g, (i + 1) * 5, none⟩) (l0.length - i) (c0 - (i + 1))) (.slice (some ⟨g, i * 5, none⟩) (l0.length + 1 - i) (c0 - i)) (by simp [Act.eval, Act.put]) (by simp [Act.eval, Act.put]) (HCP1.out _ ((i + 1) * 5) (i * 5) (l0.length - i) _ (l0.length + 1 - i) _ (by omega) rfl rfl rfl) ?_)
 have hcp2' := HCP2.out 3 (i * 5) (l0.length + 1 - i) (c0 - i) rfl rfl
 go_wp2_with (simp only [hcp2'])
 go_ret
 exact ⟨_, rfl, HRES.out, HBEL.out, HOTH.out⟩
theorem ins_list2 {α : Type} (R F V C1 C2 : List α) (a b : Nat) (hR : R.take a = F.take a) (hF : F.length = b) (ha : a ≤ b) (hV : V.length = 5) (hC : b + 5 ≤ R.length)
  (h1 : C1 = R.take a ++ V ++ R.drop (a + V.length)) (h2 : C2 = C1.take (a + 5) ++ F.drop a ++ C1.drop (a + 5 + (F.drop a).length)) :
  C2.take (b + 5) = F.take a ++ (V ++ F.drop a) ∧ C1.length = R.length ∧ C2.length = R.length := by
 have lD : (F.drop a).length = b - a := by rw [List.length_drop, hF]
 have lT : (F.take a).length = a := by rw [List.length_take]; omega
 rw [hR] at h1
 have l1 : C1.length = R.length := by rw [h1, List.length_append, List.length_append, lT, hV, List.length_drop]; omega
 have l2 : C2.length = R.length := by rw [h2, List.length_append, List.length_append, List.length_take, lD, List.length_drop, l1]; omega
 refine ⟨?_, l1, l2⟩
 have lA : (F.take a ++ V).length = a + 5 := by rw [List.length_append, lT, hV]
 have e1 : C1.take (a + 5) = F.take a ++ V := by
  rw [h1, List.take_append_of_le_length (by omega), List.take_of_length_le (by omega)]
 rw [h2, e1]
 have lW : (F.take a ++ V ++ F.drop a).length = b + 5 := by rw [List.length_append, lA, lD]; omega
 rw [List.take_append_of_le_length (by omega), List.take_of_length_le (by omega), List.append_assoc]
set_option maxHeartbeats 4000000 in
set_option maxRecDepth 100000 in
theorem insert_grow (g c0 i : Nat) (l0 : List (S26)) (vb c2 : Nat) (l2 : List (S26)) (w : World) (n0 : Nat) (hs : Kd.R k26 26 w n0 (fun _ => True) (.slice (some ⟨g, 0, none⟩) l0.length c0) l0) (hv : Kd.R k26 26 w n0 (fun _ => True) (.slice (some ⟨vb, 0, none⟩) 1 c2) l2) (h2 : l2.length = 1) (hb : l0.length ≤ 1000000) (hi : i < l0.length) (hroom : c0 < l0.length + 1) :
  Calls Try.prog 90 #[.slice (some ⟨g, 0, none⟩) l0.length c0, .int .i64 (i : Int), .slice (some ⟨vb, 0, none⟩) 1 c2] w fun e w' => ∃ v0_ : Value, e = .returned (v0_) ∧ Kd.R k26 26 w' n0 (fun _ => True) v0_ (l0.take i ++ (l2 ++ l0.drop i)) ∧ Below n0 w w' ∧ Others w w' := by
 obtain ⟨cur, hg, hgb, hx0, hx1, hcm, hcs, hct⟩ := own_open hs
 obtain ⟨vcur, hvg, hx2, hx3, hvc, hx4, hvs, hvt⟩ := own_open hv
 obtain ⟨i0, hi0, hzz⟩ := Option.map_eq_some_iff.1 infoI26
 simp only [Prod.mk.injEq] at hzz
 obtain ⟨hz0, hz1, hz2⟩ := hzz
 have hgw := (Array.getElem?_eq_some_iff.1 hg).1
 have hvw := (Array.getElem?_eq_some_iff.1 hvg).1
 have lF : (flatLeg l0).length = l0.length * 5 := flatLeg_len l0
 have lV : (flatLeg l2).length = 5 := by rw [flatLeg_len, h2]
 have lD : ((flatLeg l0).drop (i * 5)).length = (l0.length - i) * 5 := by rw [List.length_drop, lF]; omega
 have lT : ((flatLeg l0).take (i * 5)).length = i * 5 := by rw [List.length_take, lF]; omega
 have hkk : (l0.length : Int) + 1 - (i : Int) = ((l0.length + 1 - i : Nat) : Int) := by omega
 have hik : i + (l0.length + 1 - i) = l0.length + 1 := by omega
 have hzl : (Value.agg #[.int .i64 0, .int .i64 0, .int .i64 0, .int .i64 0, .int .i64 0]).cells.size = 5 := rfl
 have hA : ∃ (W1 : World) (G : Nat) (ROW : Array Value), W1.heap[w.heap.size]? = some (.cells ROW 26 (0, 0)) ∧ ROW.size = G * 5 ∧ ROW.toList.take (i * 5) = (flatLeg l0).take (i * 5) ∧ l0.length + 1 ≤ G ∧ G ≤ maxLen ∧ w.grownBy W1 none ∧ ∀ ty : TypeId, (Builtin.append_ #[39, 3] ty #[.slice (some ⟨g, 0, none⟩) i c0, .int .i64 ((l0.length : Int) + 1 - (i : Int))]).run Try.prog w = .ok (.slice (some ⟨w.heap.size, 0, none⟩) (l0.length + 1) G) W1 := by
  have hold : (Builtin.firstCells i0.size i (.slice (some ⟨g, 0, none⟩) i c0)).run Try.prog w.drew = .ok ((flatLeg l0).take (i * 5)).toArray w.drew := by
   rw [hz1]
   exact run_firstCells_some w.drew 5 i ⟨g, 0, none⟩ i c0 ((flatLeg l0).take (i * 5)) (by rw [lT]) (fun j v hj => by
    rw [Addr.add_lit, Nat.zero_add, blk_cell (show w.drew.heap[g]? = _ from hg)]
    rw [List.getElem?_take] at hj
    split at hj
    ·exact take_list cur _ v _ _ hct hj
    ·cases hj)
  have hfit := growslice_fits (need := l0.length + 1) (old := c0) (bytes := 40) hroom (by omega)
  have hrz := fun ty => Lib.run_append_grow_zeros (P := Try.prog) w 39 3 ty 26 i0 _ .i64 .i64 Try.underlying39 Try.underlying3 hi0 hz0 (some ⟨g, 0, none⟩) i c0 ((flatLeg l0).take (i * 5)) hold (l0.length + 1 - i) (by omega) (by omega) (by omega) (by omega) (by rw [hz2]; omega) (by rw [hz2, hik]; exact hfit)
  rw [hik] at hrz
  rw [hkk]
  have hG1 := grownCap_ge w (l0.length + 1) c0 26
  have hG2 := grownCap_le_maxLen w (l0.length + 1) c0 26 (by unfold maxLen; omega)
  generalize grownCap w (l0.length + 1) c0 26 = G at hrz hG1 hG2
  refine ⟨_, G, _, blk_new w.drew _, ?_, ?_, hG1, hG2, ?_, hrz⟩
  ·simp only [Builtin.zeroCells, Array.size_append, List.size_toArray, lT, Array.size_flatten, hzl]
   simp
   omega
  ·rw [Array.toList_append, Array.toList_append, List.append_assoc, List.toList_toArray, List.take_append_of_le_length (Nat.le_of_eq lT.symm), List.take_take, Nat.min_self]
  ·exact ⟨(World.grownBy_alloc w.drew _ none).os, (World.grownBy_alloc w.drew _ none).tape, (World.grownBy_alloc w.drew _ none).output, (World.grownBy_alloc w.drew _ none).size, (World.grownBy_alloc w.drew _ none).block⟩
 obtain ⟨W1, G, ROW, hW1, hRs, hRt, hG1, hG2, hgr1, hrz⟩ := hA
 have hRl : ROW.toList.length = G * 5 := by rw [Array.length_toList]; exact hRs
 have hv1 : W1.heap[vb]? = some (.cells vcur 26 (0, 0)) := (hgr1.block vb hvw (by simp)).trans hvg
 have hg1 : W1.heap[g]? = some (.cells cur 26 (0, 0)) := (hgr1.block g hgw (by simp)).trans hg
 have hNw1 := (Array.getElem?_eq_some_iff.1 hW1).1
 obtain ⟨C1, hC1⟩ : ∃ C1 : List Value, C1 = ROW.toList.take (i * 5) ++ flatLeg l2 ++ ROW.toList.drop (i * 5 + (flatLeg l2).length) := ⟨_, rfl⟩
 obtain ⟨C2, hC2⟩ : ∃ C2 : List Value, C2 = C1.take (i * 5 + 5) ++ (flatLeg l0).drop (i * 5) ++ C1.drop (i * 5 + 5 + ((flatLeg l0).drop (i * 5)).length) := ⟨_, rfl⟩
 obtain ⟨t2, s1, s2⟩ := ins_list2 ROW.toList (flatLeg l0) (flatLeg l2) C1 C2 (i * 5) (l0.length * 5) hRt lF (by omega) lV (by rw [hRl]; omega) hC1 hC2
 have hcp1 : ∃ W2 : World, W2.heap[w.heap.size]? = some (.cells C1.toArray 26 (0, 0)) ∧ W1.grownBy W2 (some w.heap.size) ∧ ∀ (ty : TypeId) (o1 dl dc : Nat), o1 = i * 5 → dl = l0.length + 1 - i → (Builtin.copy_ #[39, 39] ty #[.slice (some ⟨w.heap.size, o1, none⟩) dl dc, .slice (some ⟨vb, 0, none⟩) 1 c2]).run Try.prog W1 = .ok (goInt (Nat.min 1 dl)) W2 := by
  refine ⟨W1.setRow w.heap.size C1.toArray, setRow_at _ _ _ _ _ hW1, grown_setRow _ _ _, ?_⟩
  intro ty o1 dl dc e1 e2
  subst e1 e2
  have h := run_copy_at (P := Try.prog) W1 39 39 ty 26 i0 w.heap.size (i * 5) (l0.length + 1 - i) dc ROW ⟨vb, 0, none⟩ 1 c2 (flatLeg l2) Try.underlying39 hi0
   (by rw [lV, hz1]; simp only [Nat.min_def]; split <;> omega) (fun j v hj => by
    rw [Addr.add_lit, Nat.zero_add, blk_cell hv1]
    exact take_list vcur _ v _ _ hvt hj) hW1 (by rw [lV, hRs]; omega) (flatLeg_one l2)
  rw [hC1]
  exact h
 obtain ⟨W2, hW2, hgr2, hcp1⟩ := hcp1
 have hg2 : W2.drew.heap[g]? = some (.cells cur 26 (0, 0)) := (hgr2.block g (Array.getElem?_eq_some_iff.1 hg1).1 (fun e => absurd (Option.some.inj e) (by omega))).trans hg1
 have hcp2 : ∃ W3 : World, W3.heap[w.heap.size]? = some (.cells C2.toArray 26 (0, 0)) ∧ W2.grownBy W3 (some w.heap.size) ∧ ∀ (ty : TypeId) (o1 o2 dl dc sl sc : Nat), o1 = i * 5 + 5 → o2 = i * 5 → dl = l0.length - i → sl = l0.length - i → (Builtin.copy_ #[39, 39] ty #[.slice (some ⟨w.heap.size, o1, none⟩) dl dc, .slice (some ⟨g, o2, none⟩) sl sc]).run Try.prog W2.drew = .ok (goInt (Nat.min sl dl)) W3 := by
  have hW2d : W2.drew.heap[w.heap.size]? = some (.cells C1.toArray 26 (0, 0)) := hW2
  refine ⟨W2.drew.setRow w.heap.size C2.toArray, setRow_at _ _ _ _ _ hW2d, ⟨rfl, rfl, rfl, (grown_setRow W2.drew w.heap.size C2.toArray).size, (grown_setRow W2.drew w.heap.size C2.toArray).block⟩, ?_⟩
  intro ty o1 o2 dl dc sl sc e1 e2 e3 e4
  subst e1 e2 e3 e4
  have h := run_copy_at (P := Try.prog) W2.drew 39 39 ty 26 i0 w.heap.size (i * 5 + 5) (l0.length - i) dc C1.toArray ⟨g, i * 5, none⟩ (l0.length - i) sc ((flatLeg l0).drop (i * 5)) Try.underlying39 hi0
   (by rw [lD, hz1]; simp only [Nat.min_def]; split <;> omega) (fun j v hj => by
    rw [Addr.add_lit, blk_cell hg2]
    rw [List.getElem?_drop] at hj
    exact take_list cur _ v _ _ hct hj) hW2d (by rw [lD, List.size_toArray, s1, hRl]; omega) (fun v hv => flatLeg_one l0 v (List.mem_of_mem_drop hv))
  rw [hC2]
  exact h
 obtain ⟨W3, hW3, hgr3, hcp2⟩ := hcp2
 have hG63 : G ≤ 9223372036854775807 := by unfold maxLen at hG2; omega
 have hn1 : ¬ ((1 : Int) = 0) := by decide
 have hi2 : ¬ ((i : Int) = (l0.length : Int)) := by omega
 have hi3 : (0 : Int) ≤ (i : Int) + 1 := by omega
 have hi4 : i ≤ l0.length := by omega
 have hi5 : ((i : Int) + 1).toNat = i + 1 := by omega
 have hi6 : ¬ (G = i + 1) := by omega
 have hi7 : (i : Int) ≤ (l0.length : Int) + 1 := by omega
 have hi8 : ¬ (G = i) := by omega
 have hi9 : (i : Int) + 1 ≤ (l0.length : Int) + 1 := by omega
 have hi10 : ¬ (c0 = i) := by omega
 have hi11 : (c0 : Int) < (l0.length : Int) + 1 := by omega
 have hi12 : (i : Int) ≤ (c0 : Int) := by omega
 have hw1 : IntKind.i64.wrap ((i : Int) + 1) = (i : Int) + 1 := by rw [IntKind.wrap_i64]; omega
 have hres : Kd.R k26 26 W3 n0 (fun _ => True) (.slice (some ⟨w.heap.size, 0, none⟩) (l0.length + 1) G) (l0.take i ++ (l2 ++ l0.drop i)) := by
  refine own_shut hW3 (by omega) ?_ hG1 hG2 (by rw [List.size_toArray, s2, hRl]) ?_
  ·rw [List.length_append, List.length_append, List.length_take, List.length_drop, h2]; omega
  ·rw [flatLeg_app, flatLeg_app, flatLeg_take, flatLeg_drop, ← t2, List.toList_toArray, Nat.succ_mul]
 have hblk : ∀ k, k < w.heap.size → W3.heap[k]? = w.heap[k]? := fun k hk => by
  have h1 := hgr1.block k hk (by simp)
  have h2 := hgr2.block k (Nat.lt_of_lt_of_le hk hgr1.size) (fun e => absurd (Option.some.inj e) (by omega))
  have h3 := hgr3.block k (Nat.lt_of_lt_of_le hk (Nat.le_trans hgr1.size hgr2.size)) (fun e => absurd (Option.some.inj e) (by omega))
  exact h3.trans (h2.trans h1)
 have hgr : w.grownBy W3 none := ⟨hgr3.os.trans (hgr2.os.trans hgr1.os), hgr3.tape.trans (hgr2.tape.trans hgr1.tape), hgr3.output.trans (hgr2.output.trans hgr1.output), Nat.le_trans hgr1.size (Nat.le_trans hgr2.size hgr3.size), fun k hk _ => hblk k hk⟩
 have hbel : Below n0 w W3 := (Below.refl n0 w).grown hgr (by omega) (fun k hk => by cases hk)
 have hoth : Others w W3 := others_of hgr (fun k hk => by cases hk)
 have HRZ := Aside0.mk hrz
 have HCP1 := Aside0.mk hcp1
 have HCP2 := Aside0.mk hcp2
 have HRES := Aside0.mk hres
 have HBEL := Aside0.mk hbel
 have HOTH := Aside0.mk hoth
 clear hs hv hC1 hC2 t2 s1 s2 hW1 hW2 hW3 hv1 hct hvt hcs hvs lF lV lD lT hgr hg hvg hcp1 hcp2 hres hbel hoth hgb hi0 hz0 hz1 hz2 hcm hvc hb h2 hx0 hx1 hx2 hx3 hx4 hgr1 hgr2 hgr3 hblk hg1 hg2 hRs hRt hRl hNw1 hrz hgw hvw hzl hG2 hkk hik
 go_enter Try.func90, Try.ntmps90
 have hcp1' := HCP1.out 3 (i * 5) (l0.length + 1 - i) (G - i) rfl rfl
 go_wp2_with (first | (at_builtin; refine Lib.wpList_append_run _ rfl _ _ _ _ rfl _ _ rfl rfl _ _ (HRZ.out _) ?_) | (simp only [hcp1']))
 clear hcp1'
 go_region_law (refine step_copy_runI rfl _ _ 39 39 rfl (.slice (some ⟨w.heap.size, (i + 1) * 5, none⟩) (l0.length - i) (G - (i + 1))) (.slice (some ⟨g, i * 5, none⟩) (l0.length - i) (c0 - i)) (by simp [Act.eval, Act.put]) (by simp [Act.eval, Act.put]) (HCP2.out _ ((i + 1) * 5) (i * 5) (l0.length - i) _ (l0.length - i) _ (by omega) rfl rfl rfl) ?_)
 go_wp2
 go_ret
 exact ⟨_, rfl, HRES.out, HBEL.out, HOTH.out⟩
def impl_Leg_90.f (l0 : List (S26)) (a1 : Int) (l2 : List (S26)) : Option (List (S26)) := if 0 ≤ a1 ∧ a1 ≤ (l0.length : Int) ∧ l2.length = 1 ∧ l0.length ≤ 1000000 then some (l0.take a1.toNat ++ (l2 ++ l0.drop a1.toNat)) else none
theorem own_addr {w : World} {n0 : Nat} {ok : Nat → Prop} {A : Option Addr} {n c : Nat} {l : List (S26)} (h : Kd.R k26 26 w n0 ok (.slice A n c) l) (hn : 0 < n) : ∃ g, A = some ⟨g, 0, none⟩ := by
 obtain ⟨_, inner, ho, _⟩ := h
 rcases ho.2 with ⟨h1, h2⟩ | ⟨g, cap, cur, he, _⟩
 ·injection h1 with _ h3 _; omega
 ·injection he with e1; exact ⟨g, e1⟩
theorem impl_Leg_90.calls (A0 : Option Addr) (c0 : Nat) (l0 : List (S26)) (a1 : Int) (A2 : Option Addr) (c2 : Nat) (l2 : List (S26)) (r : List (S26)) (w : World) (n0 : Nat) (hs : Kd.R k26 26 w n0 (fun _ => True) (.slice A0 l0.length c0) l0) (hv : Kd.R k26 26 w n0 (fun _ => True) (.slice A2 l2.length c2) l2) (hd : ∀ k, (Value.slice A0 l0.length c0).ownBlock = some k → (Value.slice A2 l2.length c2).ownBlock ≠ some k) (hn0 : n0 ≤ w.heap.size) (h : impl_Leg_90.f l0 a1 l2 = some r) :
  Calls Try.prog 90 #[.slice A0 l0.length c0, .int .i64 a1, .slice A2 l2.length c2] w fun e w' => ∃ v0_ : Value, e = .returned (v0_) ∧ Kd.R k26 26 w' n0 (fun _ => True) v0_ r ∧ Below n0 w w' ∧ Others w w' := by
 unfold impl_Leg_90.f at h
 split at h
 ·rename_i hh
  obtain ⟨h0, h1, h2, hb⟩ := hh
  obtain rfl := Option.some.inj h
  obtain ⟨i, rfl⟩ : ∃ i : Nat, a1 = (i : Int) := ⟨a1.toNat, by omega⟩
  rw [Int.toNat_natCast]
  rcases Nat.lt_or_ge i l0.length with hi | hi
  ·obtain ⟨g, rfl⟩ := own_addr hs (by omega)
   obtain ⟨vb, rfl⟩ := own_addr hv (by omega)
   rw [h2] at hv hd ⊢
   have hne : vb ≠ g := fun e => hd g rfl (by rw [e]; rfl)
   rcases Nat.lt_or_ge c0 (l0.length + 1) with hc | hc
   ·exact insert_grow g c0 i l0 vb c2 l2 w n0 hs hv h2 hb hi hc
   ·exact insert_room g c0 i l0 vb c2 l2 w n0 hs hv hne h2 hb hi hc
  ·have e : i = l0.length := by omega
   subst e
   rw [List.take_length, List.drop_length, List.append_nil]
   exact insert_end A0 c0 l0 A2 c2 l2 w n0 hs (Kd.R_reads' hv).2.2 h2 hb hn0
 ·cases h

/-! ### impl_Leg_91: function 91 -/
def impl_Leg_91.f (l0 : List (S26)) : Option (List (S26)) := if l0.length * 40 ≤ 140737488351232 then some l0 else none
theorem infoC26 : (Try.prog.info? 26).map (fun i => (i.zero, i.size, i.bytes)) = some (some (.agg #[(.int .i64 0), (.int .i64 0), (.int .i64 0), (.int .i64 0), (.int .i64 0)]), 5, 40) := by kernel_rfl
set_option maxHeartbeats 4000000 in
set_option maxRecDepth 100000 in
theorem impl_Leg_91.calls (A0 : Option Addr) (c0 : Nat) (l0 : List (S26)) (r : List (S26)) (w : World) (hr0 : Kd.C k26 w A0 l0.length l0) (hc0 : l0.length ≤ c0) (h : impl_Leg_91.f l0 = some r) :
  Calls Try.prog 91 #[.slice A0 l0.length c0] w fun e w' => ∃ v0_ : Value, e = .returned (v0_) ∧ Kd.R k26 26 w' w.heap.size (fun _ => True) v0_ r ∧ Below w.heap.size w w' := by
 have q22 : ∀ (w : World) (a : Option Addr) (n c n' c' : Nat), (binOp .eql 39 (.slice a n c) (.slice none n' c')).run Try.prog w = .ok (.bool a.isNone) w := fun w a n c n' c' => Go.Lib.run_eql_slice_nil w _ _ a n c n' c' Try.underlying39
 unfold impl_Leg_91.f at h
 split at h
 ·rename_i hb
  obtain rfl := Option.some.inj h
  cases A0 with
  | none =>
   have h0 : l0 = [] := by
    rcases Nat.eq_zero_or_pos l0.length with h0 | h0
    ·exact List.eq_nil_of_length_eq_zero h0
    ·obtain ⟨ad, he, _⟩ := hr0.2.2 h0
     cases he
   subst h0
   go_enter Try.func91, Try.ntmps91
   go_wp2
   go_ret
   exact ⟨_, rfl, Kd.R_nil _ _ _ _ _, Below.refl _ _⟩
  | some ad =>
   have HR := Aside0.mk hr0
   clear hr0
   go_enter Try.func91, Try.ntmps91
   go_wp2_with (first | ((with_reducible refine gate_dst (N := 5) rfl ?_); refine Kd.R_lit k26 _ 26 ?hg (N := 5) ?hd (xs := ([] : List (S26))) (inner := []) (ok := fun _ => True) (okp := fun _ => True) ?hr ?hp (fun _ hk => hk) trivial (Below.refl _ _) (Nat.le_refl _) (by simp) ?_; (case hd => rfl); (case hg => rfl); (case hr => first | (go_simp; done) | (go_simp; rfl)); (case hp => exact (Reps.none _ _)); intro v1 w1 ho hb1 _ _; have HO := Aside0.mk ho; have HB := Aside0.mk hb1; clear ho hb1) | ((with_reducible refine gate_builtin (b := .append) (xs := #[.tmp 5, .tmp 6]) rfl ?_); at_builtin; refine Kd.R_append_rows k26 (w0 := w) w.heap.size rfl (.tmp 5) (.tmp 6) 39 26 (.agg #[(.int .i64 0), (.int .i64 0), (.int .i64 0), (.int .i64 0), (.int .i64 0)]) 40 rfl Try.underlying39 infoC26 rfl (by decide) (by omega) _ ([] : List (S26)) l0 _ _ _ (fun _ => True) (fun _ => False) rfl rfl ?aO ?aR (fun _ _ h => h) (fun _ h => h.elim) ?aF ?aB ?aS ?aL ?_; (case aO => exact HO.out); (case aR => exact Kd.C_below HR.out HB.out); (case aF => exact fun _ _ => trivial); (case aB => exact HB.out); (case aS => exact below_size HB.out); (case aL => simp only [List.length_nil]; omega); intro v2 w2 ho2 hb2 _ _; have HO2 := Aside0.mk ho2; have HB2 := Aside0.mk hb2; clear ho2 hb2))
   go_ret
   refine ⟨_, rfl, ?_, HB2.out⟩
   have := HO2.out
   rwa [List.nil_append] at this
 ·cases h


/-! ### impl_leaving: function 92 -/
-- calls: none
-- reaches: slices.Clone[[]impl.Leg,impl.Leg]
-- reaches: slices.Insert[[]impl.Leg,impl.Leg]
theorem del_list {α : Type} (C F Z D E : List α) (a b : Nat) (hF : C.take b = F) (ha : a + 5 ≤ b) (hC : b ≤ C.length) (hZ : Z.length = 5)
  (h1 : D = C.take a ++ F.drop (a + 5) ++ C.drop (a + (F.drop (a + 5)).length)) (h2 : E = D.take (b - 5) ++ Z ++ D.drop (b - 5 + Z.length)) :
  E.take (b - 5) = F.take a ++ F.drop (a + 5) ∧ D.length = C.length ∧ E.length = C.length := by
 have lF : F.length = b := by rw [← hF, List.length_take]; omega
 have lD : (F.drop (a + 5)).length = b - 5 - a := by rw [List.length_drop, lF]; omega
 have lT : (C.take a).length = a := by rw [List.length_take]; omega
 have l1 : D.length = C.length := by rw [h1, List.length_append, List.length_append, lT, lD, List.length_drop]; omega
 have l3 : (D.take (b - 5)).length = b - 5 := by rw [List.length_take]; omega
 have l2 : E.length = C.length := by rw [h2, List.length_append, List.length_append, l3, hZ, List.length_drop, l1]; omega
 refine ⟨?_, l1, l2⟩
 have e0 : C.take a = F.take a := by rw [← hF, List.take_take, Nat.min_eq_left (by omega)]
 rw [h2, List.append_assoc, List.take_append_of_le_length (by omega), List.take_of_length_le (by omega), h1, e0]
 have lA : (F.take a ++ F.drop (a + 5)).length = b - 5 := by rw [List.length_append, List.length_take, lD]; omega
 rw [List.take_append_of_le_length (by omega), List.take_of_length_le (by omega)]
theorem run_clear_at {P : Program} (w : World) (t e ty : TypeId) (z : Value) (zs : List Value) (ht : P.underlying t = some (.slice e)) (hv : ∀ w, (zeroValue e).run P w = .ok z w) (g off n c : Nat) (cur : Array Value) (hzs : (Builtin.zeroCells z.cells (n + 1)).toList = zs) (hg : w.heap[g]? = some (.cells cur e (0, 0))) (hfit : off + zs.length ≤ cur.size) (h1 : ∀ v ∈ zs, v.oneCell' = true) :
  (Builtin.clear_ #[t] ty #[.slice (some ⟨g, off, none⟩) (n + 1) c]).run P w = .ok (.tuple #[]) (w.setRow g (cur.toList.take off ++ zs ++ cur.toList.drop (off + zs.length)).toArray) := by
 have hst := run_storeCells_at P g off e zs 0 cur w hg (by simpa using hfit) h1
 simp only [Nat.add_zero] at hst
 subst hzs
 simp [Builtin.clear_, run_underlying ht, hv, hst]
theorem step_append_runI {P : Program} {ops : Array Oper} {o : Oper} {a : Act} {w : World} {K : Act → World → Prop} {Q : Exit → Act → World → Prop} {E : Prop}
  (hg : o.guard = none) (d x : Operand) (dT sT : TypeId) (hop : o.op = Op.call { callee := Callee.builtin Builtin.append, args := #[d, x], argTypes := #[dT, sT] })
  (v u : Value) (hd : a.eval d = v) (hx : a.eval x = u) {v' : Value} {w' : World} (hr : (Builtin.append_ #[dT, sT] o.type #[v, u]).run P w = .ok v' w') (hK : K (a.put o.dst v') w') :
  if Region.wanted o (yielded ops a.tmps) = true then Oper.wp P o a w K Q else E := by
 have hw : Region.wanted o (yielded ops a.tmps) = true := by simp [Region.wanted, hg]
 rw [if_pos hw]
 unfold Oper.wp
 simp [execOp, hop, resolve, invoke, builtin, hd, hx, hr, Result.andThen]
 exact hK
set_option maxHeartbeats 4000000 in
set_option maxRecDepth 100000 in
theorem delete_calls (g c0 i : Nat) (l0 : List (S26)) (w : World) (n0 : Nat) (hs : Kd.R k26 26 w n0 (fun _ => True) (.slice (some ⟨g, 0, none⟩) l0.length c0) l0) (hb : l0.length ≤ 1000000) (hi : i < l0.length) :
  Calls Try.prog 101 #[.slice (some ⟨g, 0, none⟩) l0.length c0, .int .i64 (i : Int), .int .i64 ((i : Int) + 1)] w fun e w' => ∃ v0_ : Value, e = .returned (v0_) ∧ Kd.R k26 26 w' n0 (fun _ => True) v0_ (l0.take i ++ l0.drop (i + 1)) ∧ Below n0 w w' := by
 obtain ⟨cur, hg, hgb, hx0, hx1, hcm, hcs, hct⟩ := own_open hs
 obtain ⟨i0, hi0, hzz⟩ := Option.map_eq_some_iff.1 infoI26
 simp only [Prod.mk.injEq] at hzz
 obtain ⟨hz0, hz1, hz2⟩ := hzz
 have hgw := (Array.getElem?_eq_some_iff.1 hg).1
 have hcl : cur.toList.length = c0 * 5 := by rw [Array.length_toList]; exact hcs
 have lF : (flatLeg l0).length = l0.length * 5 := flatLeg_len l0
 have lD : ((flatLeg l0).drop (i * 5 + 5)).length = (l0.length - (i + 1)) * 5 := by rw [List.length_drop, lF]; omega
 obtain ⟨Z, hZ⟩ : ∃ Z : List Value, Z = [.int .i64 0, .int .i64 0, .int .i64 0, .int .i64 0, .int .i64 0] := ⟨_, rfl⟩
 have lZ : Z.length = 5 := by rw [hZ]; rfl
 obtain ⟨D, hD⟩ : ∃ D : List Value, D = cur.toList.take (i * 5) ++ (flatLeg l0).drop (i * 5 + 5) ++ cur.toList.drop (i * 5 + ((flatLeg l0).drop (i * 5 + 5)).length) := ⟨_, rfl⟩
 obtain ⟨E, hE⟩ : ∃ E : List Value, E = D.take (l0.length * 5 - 5) ++ Z ++ D.drop (l0.length * 5 - 5 + Z.length) := ⟨_, rfl⟩
 obtain ⟨t2, s1, s2⟩ := del_list cur.toList (flatLeg l0) Z D E (i * 5) (l0.length * 5) hct (by omega) (by rw [hcl]; omega) lZ hD hE
 have hap : ∃ W1 : World, W1.heap[g]? = some (.cells D.toArray 26 (0, 0)) ∧ w.grownBy W1 (some g) ∧ ∀ (ty : TypeId) (A : Option Addr), (A = some ⟨g, (i + 1) * 5, none⟩ ∨ l0.length - (i + 1) = 0 ∧ A = some ⟨g, 0, none⟩) → (Builtin.append_ #[39, 39] ty #[.slice (some ⟨g, 0, none⟩) i c0, .slice A (l0.length - (i + 1)) (c0 - (i + 1))]).run Try.prog w.drew = .ok (.slice (some ⟨g, 0, none⟩) (l0.length - 1) c0) W1 := by
  have hgd : w.drew.heap[g]? = some (.cells cur 26 (0, 0)) := hg
  refine ⟨w.drew.setRow g D.toArray, setRow_at _ _ _ _ _ hgd, ⟨rfl, rfl, rfl, (grown_setRow w.drew g D.toArray).size, (grown_setRow w.drew g D.toArray).block⟩, ?_⟩
  intro ty A hA
  obtain ⟨a, rfl, hcell⟩ : ∃ a : Addr, A = some a ∧ ∀ j u, ((flatLeg l0).drop (i * 5 + 5))[j]? = some u → w.drew.cell? (a.add j) = some u := by
   rcases hA with rfl | ⟨h0, rfl⟩
   ·refine ⟨_, rfl, fun j u hj => ?_⟩
    rw [Addr.add_lit, blk_cell hgd]
    rw [List.getElem?_drop] at hj
    rw [show (i + 1) * 5 + j = i * 5 + 5 + j by omega]
    exact take_list cur _ u _ _ hct hj
   ·refine ⟨_, rfl, fun j u hj => ?_⟩
    rw [List.eq_nil_of_length_eq_zero (show ((flatLeg l0).drop (i * 5 + 5)).length = 0 by rw [lD, h0, Nat.zero_mul])] at hj
    simp at hj
  have h := run_append_room (P := Try.prog) (w := w.drew) 39 ty 26 i0 Try.underlying39 hi0 g i c0 cur hgd a (l0.length - (i + 1)) (c0 - (i + 1)) ((flatLeg l0).drop (i * 5 + 5)) (by rw [lD, hz1]) hcell (fun v hv => flatLeg_one l0 v (List.mem_of_mem_drop hv)) (by omega) (by rw [lD, hz1, hcs]; omega)
  rw [hz1, show i + (l0.length - (i + 1)) = l0.length - 1 by omega] at h
  rw [hD]
  exact h
 obtain ⟨W1, hW1, hgr1, hap⟩ := hap
 have hclr : ∃ W2 : World, W2.heap[g]? = some (.cells E.toArray 26 (0, 0)) ∧ W1.grownBy W2 (some g) ∧ ∀ (ty : TypeId) (o n c : Nat), o = l0.length * 5 - 5 → n = 1 → (Builtin.clear_ #[39] ty #[.slice (some ⟨g, o, none⟩) n c]).run Try.prog W1 = .ok (.tuple #[]) W2 := by
  refine ⟨W1.setRow g E.toArray, setRow_at _ _ _ _ _ hW1, grown_setRow _ _ _, ?_⟩
  intro ty o n c e1 e2
  subst e1 e2
  have h := run_clear_at (P := Try.prog) W1 39 26 ty (.agg #[.int .i64 0, .int .i64 0, .int .i64 0, .int .i64 0, .int .i64 0]) Z Try.underlying39 (fun w => by simp [zeroValue, typeInfo, hi0, hz0]) g (l0.length * 5 - 5) 0 c D.toArray (by rw [hZ]; first | kernel_rfl | simp [Builtin.zeroCells, Value.cells]) hW1 (by rw [lZ, List.size_toArray, s1, hcl]; omega) (by rw [hZ]; intro v hv; simp only [List.mem_cons, List.not_mem_nil, or_false] at hv; rcases hv with rfl | rfl | rfl | rfl | rfl <;> rfl)
  rw [hE]
  exact h
 obtain ⟨W2, hW2, hgr2, hclr⟩ := hclr
 have hres : Kd.R k26 26 W2 n0 (fun _ => True) (.slice (some ⟨g, 0, none⟩) (l0.length - 1) c0) (l0.take i ++ l0.drop (i + 1)) := by
  refine own_shut hW2 hgb ?_ (by omega) hcm (by rw [List.size_toArray, s2, hcl]) ?_
  ·rw [List.length_append, List.length_take, List.length_drop]; omega
  ·rw [flatLeg_app, flatLeg_take, flatLeg_drop, Nat.succ_mul, ← t2, List.toList_toArray, Nat.sub_mul]
 have hgr : w.grownBy W2 (some g) := ⟨hgr2.os.trans hgr1.os, hgr2.tape.trans hgr1.tape, hgr2.output.trans hgr1.output, Nat.le_trans hgr1.size hgr2.size, fun k hk hne => (hgr2.block k (Nat.lt_of_lt_of_le hk hgr1.size) hne).trans (hgr1.block k hk hne)⟩
 have hbel : Below n0 w W2 := (Below.refl n0 w).grown hgr (by omega) (fun k hk => by obtain rfl := Option.some.inj hk; exact hgb)
 have hcm' : c0 ≤ 9223372036854775807 := by unfold maxLen at hcm; omega
 have hi1 : (i : Int) ≤ (i : Int) + 1 := by omega
 have hi2 : (i : Int) + 1 ≤ (l0.length : Int) := by omega
 have hi3 : ¬ ((i : Int) = (i : Int) + 1) := by omega
 have hi4 : i ≤ c0 := by omega
 have hi5 : ((i : Int) + 1).toNat = i + 1 := by omega
 have hi6 : (0 : Int) ≤ (i : Int) + 1 := by omega
 have hi7 : (i : Int) ≤ (c0 : Int) := by omega
 have hi8 : ¬ (c0 = i) := by omega
 have hi9 : (l0.length : Int) ≤ (c0 : Int) := by omega
 have hi10 : ¬ (c0 = l0.length - 1) := by omega
 have hi11 : l0.length - 1 ≤ l0.length := by omega
 have hi12 : l0.length - (l0.length - 1) = 1 := by omega
 have HAP := Aside0.mk hap
 have HCLR := Aside0.mk hclr
 have HRES := Aside0.mk hres
 have HBEL := Aside0.mk hbel
 clear hs hg hgb hx0 hx1 hcm hcs hct hi0 hz0 hz1 hz2 hgw hcl lF lD hZ lZ hD hE t2 s1 s2 hW1 hgr1 hap hW2 hgr2 hclr hres hgr hbel hb
 by_cases hcc : c0 = i + 1
 ·have hcc' := eq_true hcc
  clear hcc
  go_enter Try.func101, Try.ntmps101
  go_wp2
  go_region_law (refine step_append_runI rfl _ _ 39 39 rfl (.slice (some ⟨g, 0, none⟩) i c0) (.slice (some ⟨g, 0, none⟩) (l0.length - (i + 1)) (c0 - (i + 1))) (by simp [Act.eval, Act.put]) (by simp [Act.eval, Act.put]) (HAP.out _ _ (.inr ⟨by have := of_eq_true hcc'; omega, rfl⟩)) ?_)
  have hclr' := HCLR.out 0 ((l0.length - 1) * 5) 1 (c0 - (l0.length - 1)) (by omega) rfl
  go_wp2_with (simp only [hclr'])
  go_ret
  exact ⟨_, rfl, HRES.out, HBEL.out⟩
 ·go_enter Try.func101, Try.ntmps101
  go_wp2
  go_region_law (refine step_append_runI rfl _ _ 39 39 rfl (.slice (some ⟨g, 0, none⟩) i c0) (.slice (some ⟨g, (i + 1) * 5, none⟩) (l0.length - (i + 1)) (c0 - (i + 1))) (by simp [Act.eval, Act.put]) (by simp [Act.eval, Act.put]) (HAP.out _ _ (.inl rfl)) ?_)
  have hclr' := HCLR.out 0 ((l0.length - 1) * 5) 1 (c0 - (l0.length - 1)) (by omega) rfl
  go_wp2_with (simp only [hclr'])
  go_ret
  exact ⟨_, rfl, HRES.out, HBEL.out⟩
def impl_leaving.f (l0 : List (S26)) (a1 : Int) : Option (List (S26)) := if 0 ≤ a1 ∧ a1 < (l0.length : Int) ∧ l0.length ≤ 1000000 then some (l0.take a1.toNat ++ l0.drop (a1.toNat + 1)) else none
set_option maxHeartbeats 4000000 in
set_option maxRecDepth 100000 in
theorem impl_leaving.calls (A0 : Option Addr) (c0 : Nat) (l0 : List (S26)) (a1 : Int) (r : List (S26)) (w : World) (hr0 : Kd.C k26 w A0 l0.length l0) (hc0 : l0.length ≤ c0) (h : impl_leaving.f l0 a1 = some r) :
  Calls Try.prog 92 #[.slice A0 l0.length c0, .int .i64 a1] w fun e w' => ∃ v0_ : Value, e = .returned (v0_) ∧ Kd.R k26 26 w' w.heap.size (fun _ => True) v0_ r ∧ Below w.heap.size w w' := by
 unfold impl_leaving.f at h
 split at h
 ·rename_i hh
  obtain ⟨h0, h1, hb⟩ := hh
  obtain rfl := Option.some.inj h
  obtain ⟨i, rfl⟩ : ∃ i : Nat, a1 = (i : Int) := ⟨a1.toNat, by omega⟩
  rw [Int.toNat_natCast]
  have hi : i < l0.length := by omega
  have hcl : impl_Leg_91.f l0 = some l0 := by unfold impl_Leg_91.f; rw [if_pos (by omega)]
  have hw1 : IntKind.i64.wrap ((i : Int) + 1) = (i : Int) + 1 := by rw [IntKind.wrap_i64]; omega
  have HR := Aside0.mk hr0
  clear hr0 h h0 h1
  go_enter Try.func92, Try.ntmps92
  go_wp2_with (first | (go_at_call 91; with_reducible refine (impl_Leg_91.calls _ _ l0 l0 _ HR.out hc0 hcl).mono ?_; rintro e w1 ⟨v1, rfl, ho1, hb1⟩; obtain ⟨A1, d1, e1⟩ := Kd.R_slice ho1; subst e1; obtain ⟨g1, hA1⟩ := own_addr ho1 (by omega); subst hA1; have HO1 := Aside0.mk ho1; have HB1 := Aside0.mk hb1; clear ho1 hb1) | (go_at_call 101; with_reducible refine (delete_calls g1 d1 i l0 _ _ HO1.out hb hi).mono ?_; rintro e w2 ⟨v2, rfl, ho2, hb2⟩; have HO2 := Aside0.mk ho2; have HB2 := Aside0.mk hb2; clear ho2 hb2))
  go_ret
  exact ⟨_, rfl, HO2.out, HB1.out.trans HB2.out⟩
 ·cases h

end Go.Proofs.Ytinelmmnajelaaa.QFnDiffs
