/- Contracts of Go functions that FnLeads reaches: the call computes what the plain function says. No condition. -/
import Derived.Test.YtldgjibimolcdaaDoorQFnLeadsx0
namespace Go.Proofs.YtldgjibimolcdaaDoor.QFnLeads
open Go.RowKit Go.Proofs.YtldgjibimolcdaaDoorW.PrintWords Go.Proofs.YtldgjibimolcdaaDoorW.PrintLast Go.Proofs.YtldgjibimolcdaaDoorW.PrintMore
attribute [local go_sem] max2_int min2_int max_two min_two max_three min_three max_four min_four   -- for this text's walks alone
set_option linter.unusedVariables false
set_option linter.unusedSimpArgs false

/-! ### spec_l1In: function 46 -/
def spec_l1In.f (a0 a1 a2 : Int) : Option (Bool) := if a0 ≥ a1 then (some (decide (a0 ≤ a2))) else (some false)
set_option maxHeartbeats 8000000 in
set_option maxRecDepth 100000 in
theorem spec_l1In.calls (a0 a1 a2 : Int) (r : Bool) (w : World) (h : spec_l1In.f a0 a1 a2 = some r) :
  Calls Tryd.prog 46 #[.int .i64 a0, .int .i64 a1, .int .i64 a2] w fun e w' => e = .returned (.bool r) ∧ Drawn0 w w' := by
 have H := h
 clear h
 unfold spec_l1In.f at H
 replace H := ifD H
 rcases H with ⟨H, -, c4b0⟩ | ⟨H, -, c4b0⟩
 ·obtain rfl := Option.some.inj H
  go_enter Tryd.func46, Tryd.ntmps46
  go_wp2
  go_ret
  exact ⟨rB, by repeat (first | exact Drawn0.refl _ | apply Drawn0.step)⟩
 ·obtain rfl := Option.some.inj H
  go_enter Tryd.func46, Tryd.ntmps46
  go_wp2
  go_ret
  exact ⟨rB, by repeat (first | exact Drawn0.refl _ | apply Drawn0.step)⟩

/-! ### spec_l4Station: function 45 -/
def spec_l4Station.f (a0 : Int) : Option (Bool) := (spec_l1In.f a0 0 7).bind fun t101 => (some t101)
set_option maxHeartbeats 8000000 in
set_option maxRecDepth 100000 in
theorem spec_l4Station.calls (a0 : Int) (r : Bool) (w : World) (h : spec_l4Station.f a0 = some r) :
  Calls Tryd.prog 45 #[.int .i64 a0] w fun e w' => e = .returned (.bool r) ∧ Drawn0 w w' := by
 have H := h
 clear h
 unfold spec_l4Station.f at H
 replace H := bA H
 obtain ⟨t101, A2, H⟩ := H
 obtain rfl := Option.some.inj H
 go_enter Tryd.func45, Tryd.ntmps45
 go_wp2_with (first | ((with_reducible refine gC 46 ?_); refine lA (some 4) Tryd.func46 (spec_l1In.calls a0 0 7 t101 _ A2.out) ?_; rintro _ ⟨nd, rfl⟩))
 go_ret
 exact ⟨rB, by repeat (first | exact Drawn0.refl _ | apply Drawn0.step)⟩

/-! ### spec_l18State: function 47 -/
def spec_l18State.f (a0 : Int) : Option (Bool) := (spec_l1In.f a0 0 3).bind fun t102 => (some t102)
set_option maxHeartbeats 8000000 in
set_option maxRecDepth 100000 in
theorem spec_l18State.calls (a0 : Int) (r : Bool) (w : World) (h : spec_l18State.f a0 = some r) :
  Calls Tryd.prog 47 #[.int .i64 a0] w fun e w' => e = .returned (.bool r) ∧ Drawn0 w w' := by
 have H := h
 clear h
 unfold spec_l18State.f at H
 replace H := bA H
 obtain ⟨t102, A2, H⟩ := H
 obtain rfl := Option.some.inj H
 go_enter Tryd.func47, Tryd.ntmps47
 go_wp2_with (first | ((with_reducible refine gC 46 ?_); refine lA (some 4) Tryd.func46 (spec_l1In.calls a0 0 3 t102 _ A2.out) ?_; rintro _ ⟨nd, rfl⟩))
 go_ret
 exact ⟨rB, by repeat (first | exact Drawn0.refl _ | apply Drawn0.step)⟩

/-! ### spec_l18One: function 24 -/
def spec_l18One.f (a0_0 a0_1 a0_2 a0_3 a0_4 : Int) : Option (Bool) := (spec_l1In.f a0_0 1 99).bind fun t104 => (if t104 = true then ((spec_l4Station.f a0_1).bind fun t105 => (if t105 = true then ((spec_l1In.f a0_2 1 9).bind fun t106 => (if t106 = true then ((spec_l1In.f a0_3 1 9).bind fun t107 => (if t107 = true then ((spec_l18State.f a0_4).bind fun t108 => (some t108)) else (some false))) else (some false))) else (some false))) else (some false))
set_option maxHeartbeats 8000000 in
set_option maxRecDepth 100000 in
theorem spec_l18One.calls (a0_0 a0_1 a0_2 a0_3 a0_4 : Int) (r : Bool) (w : World) (h : spec_l18One.f a0_0 a0_1 a0_2 a0_3 a0_4 = some r) :
  Calls Tryd.prog 24 #[.agg #[.int .i64 a0_0, .int .i64 a0_1, .int .i64 a0_2, .int .i64 a0_3, .int .i64 a0_4]] w fun e w' => e = .returned (.bool r) ∧ Below w.heap.size w w' := by
 have hu26 := Tryd.underlying26
 have HB := Aside0.mk (Below.refl w.heap.size w)
 have H := h
 clear h
 unfold spec_l18One.f at H
 replace H := bA H
 obtain ⟨t104, A2, H⟩ := H
 rcases Bool.eq_false_or_eq_true t104 with rfl | rfl
 ·replace H := iT rfl H
  replace H := bA H
  obtain ⟨t105, A4, H⟩ := H
  rcases Bool.eq_false_or_eq_true t105 with rfl | rfl
  ·replace H := iT rfl H
   replace H := bA H
   obtain ⟨t106, A6, H⟩ := H
   rcases Bool.eq_false_or_eq_true t106 with rfl | rfl
   ·replace H := iT rfl H
    replace H := bA H
    obtain ⟨t107, A8, H⟩ := H
    rcases Bool.eq_false_or_eq_true t107 with rfl | rfl
    ·replace H := iT rfl H
     replace H := bA H
     obtain ⟨t108, A10, H⟩ := H
     obtain rfl := Option.some.inj H
     go_enter Tryd.func24, Tryd.ntmps24
     go_wp2_with (first | ((with_reducible refine gD 1 ?_); refine bxE 1 26 #[.int .i64 a0_0, .int .i64 a0_1, .int .i64 a0_2, .int .i64 a0_3, .int .i64 a0_4] fun gb103 w11 hg hbox hb => ?_; have BK103 := Aside0.mk hbox; have GE103 := gB HB hg; replace HB := uB HB hb; clear hb hbox hg; have ⟨hcz12_0, hcz12_1, hcz12_2, hcz12_3, hcz12_4, hfz12_0⟩ := cz5 BK103) | ((with_reducible refine gC 46 ?_); refine lA (some 5) Tryd.func46 (spec_l1In.calls a0_0 1 99 true _ A2.out) ?_; rintro _ ⟨nd, rfl⟩) | (go_at_call 45; (with_reducible refine (spec_l4Station.calls a0_1 true _ A4.out).mono ?_); rintro e w' ⟨rfl, ⟨nd, rfl⟩⟩) | (go_at_call 46; (with_reducible refine (spec_l1In.calls a0_2 1 9 true _ A6.out).mono ?_); rintro e w' ⟨rfl, ⟨nd, rfl⟩⟩) | (go_at_call 46; (with_reducible refine (spec_l1In.calls a0_3 1 9 true _ A8.out).mono ?_); rintro e w' ⟨rfl, ⟨nd, rfl⟩⟩) | (go_at_call 47; (with_reducible refine (spec_l18State.calls a0_4 t108 _ A10.out).mono ?_); rintro e w' ⟨rfl, ⟨nd, rfl⟩⟩))
     go_ret
     exact ⟨eB, (bW HB)⟩
    ·replace H := iF (by decide) H
     obtain rfl := Option.some.inj H
     go_enter Tryd.func24, Tryd.ntmps24
     go_wp2_with (first | ((with_reducible refine gD 1 ?_); refine bxE 1 26 #[.int .i64 a0_0, .int .i64 a0_1, .int .i64 a0_2, .int .i64 a0_3, .int .i64 a0_4] fun gb103 w13 hg hbox hb => ?_; have BK103 := Aside0.mk hbox; have GE103 := gB HB hg; replace HB := uB HB hb; clear hb hbox hg; have ⟨hcz14_0, hcz14_1, hcz14_2, hcz14_3, hcz14_4, hfz14_0⟩ := cz5 BK103) | ((with_reducible refine gC 46 ?_); refine lA (some 5) Tryd.func46 (spec_l1In.calls a0_0 1 99 true _ A2.out) ?_; rintro _ ⟨nd, rfl⟩) | (go_at_call 45; (with_reducible refine (spec_l4Station.calls a0_1 true _ A4.out).mono ?_); rintro e w' ⟨rfl, ⟨nd, rfl⟩⟩) | (go_at_call 46; (with_reducible refine (spec_l1In.calls a0_2 1 9 true _ A6.out).mono ?_); rintro e w' ⟨rfl, ⟨nd, rfl⟩⟩) | (go_at_call 46; (with_reducible refine (spec_l1In.calls a0_3 1 9 false _ A8.out).mono ?_); rintro e w' ⟨rfl, ⟨nd, rfl⟩⟩))
     go_ret
     exact ⟨eB, (bW HB)⟩
   ·replace H := iF (by decide) H
    obtain rfl := Option.some.inj H
    go_enter Tryd.func24, Tryd.ntmps24
    go_wp2_with (first | ((with_reducible refine gD 1 ?_); refine bxE 1 26 #[.int .i64 a0_0, .int .i64 a0_1, .int .i64 a0_2, .int .i64 a0_3, .int .i64 a0_4] fun gb103 w15 hg hbox hb => ?_; have BK103 := Aside0.mk hbox; have GE103 := gB HB hg; replace HB := uB HB hb; clear hb hbox hg; have ⟨hcz16_0, hcz16_1, hcz16_2, hcz16_3, hcz16_4, hfz16_0⟩ := cz5 BK103) | ((with_reducible refine gC 46 ?_); refine lA (some 5) Tryd.func46 (spec_l1In.calls a0_0 1 99 true _ A2.out) ?_; rintro _ ⟨nd, rfl⟩) | (go_at_call 45; (with_reducible refine (spec_l4Station.calls a0_1 true _ A4.out).mono ?_); rintro e w' ⟨rfl, ⟨nd, rfl⟩⟩) | (go_at_call 46; (with_reducible refine (spec_l1In.calls a0_2 1 9 false _ A6.out).mono ?_); rintro e w' ⟨rfl, ⟨nd, rfl⟩⟩))
    go_ret
    exact ⟨eB, (bW HB)⟩
  ·replace H := iF (by decide) H
   obtain rfl := Option.some.inj H
   go_enter Tryd.func24, Tryd.ntmps24
   go_wp2_with (first | ((with_reducible refine gD 1 ?_); refine bxE 1 26 #[.int .i64 a0_0, .int .i64 a0_1, .int .i64 a0_2, .int .i64 a0_3, .int .i64 a0_4] fun gb103 w17 hg hbox hb => ?_; have BK103 := Aside0.mk hbox; have GE103 := gB HB hg; replace HB := uB HB hb; clear hb hbox hg; have ⟨hcz18_0, hcz18_1, hcz18_2, hcz18_3, hcz18_4, hfz18_0⟩ := cz5 BK103) | ((with_reducible refine gC 46 ?_); refine lA (some 5) Tryd.func46 (spec_l1In.calls a0_0 1 99 true _ A2.out) ?_; rintro _ ⟨nd, rfl⟩) | (go_at_call 45; (with_reducible refine (spec_l4Station.calls a0_1 false _ A4.out).mono ?_); rintro e w' ⟨rfl, ⟨nd, rfl⟩⟩))
   go_ret
   exact ⟨eB, (bW HB)⟩
 ·replace H := iF (by decide) H
  obtain rfl := Option.some.inj H
  go_enter Tryd.func24, Tryd.ntmps24
  go_wp2_with (first | ((with_reducible refine gD 1 ?_); refine bxE 1 26 #[.int .i64 a0_0, .int .i64 a0_1, .int .i64 a0_2, .int .i64 a0_3, .int .i64 a0_4] fun gb103 w19 hg hbox hb => ?_; have BK103 := Aside0.mk hbox; have GE103 := gB HB hg; replace HB := uB HB hb; clear hb hbox hg; have ⟨hcz20_0, hcz20_1, hcz20_2, hcz20_3, hcz20_4, hfz20_0⟩ := cz5 BK103) | ((with_reducible refine gC 46 ?_); refine lA (some 5) Tryd.func46 (spec_l1In.calls a0_0 1 99 false _ A2.out) ?_; rintro _ ⟨nd, rfl⟩))
  go_ret
  exact ⟨eB, (bW HB)⟩

/-! ### spec_l1Num: function 48 -/
theorem digit_lim {n : Nat} {i j : Int} (b : ByteArray) (hb : b.size = 10) (hj : j ≤ 10) (h : n + (b.extract i.toNat j.toNat).size ≤ 9223372036854775807) : (9223372036854775807 < n + (j.toNat - i.toNat)) = False := by
 rw [ByteArray.size_extract, hb] at h
 exact eq_false (by omega)
def spec_l1Num.f : Nat → Int → Option (ByteArray)
 | 0, _ => none
 | k + 1, a0 => if a0 < 0 then ((spec_l1Num.f k (wrap64 (-a0))).bind fun t109 => (if 1 + t109.size ≤ 9223372036854775807 then (some ((⟨#[45]⟩ : ByteArray) ++ t109)) else (none))) else (if a0 < 10 then (if 0 ≤ a0 then (if a0 ≤ (wrap64 (a0 + 1)) then (if (wrap64 (a0 + 1)) ≤ 10 then (some ((⟨#[48, 49, 50, 51, 52, 53, 54, 55, 56, 57]⟩ : ByteArray).extract (a0 : Int).toNat ((wrap64 (a0 + 1)) : Int).toNat)) else (none)) else (none)) else (none)) else ((spec_l1Num.f k (wrap64 (Int.tdiv a0 10))).bind fun t110 => (if 0 ≤ (Int.tmod a0 10) then (if (Int.tmod a0 10) ≤ (wrap64 ((Int.tmod a0 10) + 1)) then (if (wrap64 ((Int.tmod a0 10) + 1)) ≤ 10 then (if t110.size + ((⟨#[48, 49, 50, 51, 52, 53, 54, 55, 56, 57]⟩ : ByteArray).extract ((Int.tmod a0 10) : Int).toNat ((wrap64 ((Int.tmod a0 10) + 1)) : Int).toNat).size ≤ 9223372036854775807 then (some (t110 ++ ((⟨#[48, 49, 50, 51, 52, 53, 54, 55, 56, 57]⟩ : ByteArray).extract ((Int.tmod a0 10) : Int).toNat ((wrap64 ((Int.tmod a0 10) + 1)) : Int).toNat))) else (none)) else (none)) else (none)) else (none))))
theorem spec_l1Num.mono_l : ∀ k, (∀ y0, LeO (spec_l1Num.f k y0) (spec_l1Num.f (k + 1) y0))
 | 0 => fun _ r h => by simp [spec_l1Num.f] at h
 | k + 1 => by
  have ih0 := spec_l1Num.mono_l k
  ·intro y0
   unfold spec_l1Num.f
   repeat' with_reducible first | apply ih0 | exact LeO.refl _ | exact LeO.none _ | refine LeO.ite ?_ ?_ | refine LeO.bind ?_ (fun _ => ?_)
theorem spec_l1Num.mono : ∀ a0 k, LeO (spec_l1Num.f k a0) (spec_l1Num.f (k + 1) a0) := by
 intro a0 k
 have ih0 := spec_l1Num.mono_l k
 exact ih0 a0
def spec_l1Num.T5 : Bool × List (List Nat × List Nat) := (true, [([], []), ([0], [0]), ([1], [1]), ([], []), ([3], [3]), ([], []), ([5], [5]), ([6], [6]), ([4, 7], [4, 7]), ([2, 8], [2, 8]), ([9, 2, 0, 1, 2, 3, 4, 5, 6, 7, 8, 9], [9])])
def spec_l1Num.B5 : List Nat := [0, 1, 3, 0, 8, 0, 32, 96, 248, 511, 1023]
theorem spec_l1Num.tab5 : rtab .any (opsOf Tryd.f48 5) = spec_l1Num.T5 := by kernel_rfl
theorem spec_l1Num.bits5 : waitsOk spec_l1Num.T5.2 spec_l1Num.B5 = true := by kernel_rfl
set_option maxHeartbeats 8000000 in
set_option maxRecDepth 100000 in
theorem spec_l1Num.calls (k : Nat) : ∀ (a0 : Int) (r : ByteArray) (w : World) (h : spec_l1Num.f k a0 = some r),
  Calls Tryd.prog 48 #[.int .i64 a0] w fun e w' => e = .returned (.string r) ∧ Below w.heap.size w w' := by
 induction k using Nat.strongRecOn with
 | _ k ih =>
 intro a0 r w h
 cases k with
 | zero => exact absurd h (by simp [spec_l1Num.f])
 | succ k =>
 simp only [spec_l1Num.f] at h
 have HB := Aside0.mk (Below.refl w.heap.size w)
 have H : (if a0 < 0 then ((spec_l1Num.f k (wrap64 (-a0))).bind fun t109 => (if 1 + t109.size ≤ 9223372036854775807 then (some ((⟨#[45]⟩ : ByteArray) ++ t109)) else (none))) else (if a0 < 10 then (if 0 ≤ a0 then (if a0 ≤ (wrap64 (a0 + 1)) then (if (wrap64 (a0 + 1)) ≤ 10 then (some ((⟨#[48, 49, 50, 51, 52, 53, 54, 55, 56, 57]⟩ : ByteArray).extract (a0 : Int).toNat ((wrap64 (a0 + 1)) : Int).toNat)) else (none)) else (none)) else (none)) else ((spec_l1Num.f k (wrap64 (Int.tdiv a0 10))).bind fun t110 => (if 0 ≤ (Int.tmod a0 10) then (if (Int.tmod a0 10) ≤ (wrap64 ((Int.tmod a0 10) + 1)) then (if (wrap64 ((Int.tmod a0 10) + 1)) ≤ 10 then (if t110.size + ((⟨#[48, 49, 50, 51, 52, 53, 54, 55, 56, 57]⟩ : ByteArray).extract ((Int.tmod a0 10) : Int).toNat ((wrap64 ((Int.tmod a0 10) + 1)) : Int).toNat).size ≤ 9223372036854775807 then (some (t110 ++ ((⟨#[48, 49, 50, 51, 52, 53, 54, 55, 56, 57]⟩ : ByteArray).extract ((Int.tmod a0 10) : Int).toNat ((wrap64 ((Int.tmod a0 10) + 1)) : Int).toNat))) else (none)) else (none)) else (none)) else (none))))) = some r := h
 clear h
 replace H := ifD H
 rcases H with ⟨H, -, c2b0⟩ | ⟨H, -, c2b0⟩
 ·replace H := bA H
  obtain ⟨t109, A3, H⟩ := H
  by_cases c4 : 1 + t109.size ≤ 9223372036854775807
  ·rw [if_pos c4] at H
   have c4b0 := eq_true c4
   have c4b1 : decide (1 + t109.size ≤ 9223372036854775807) = true := decide_eq_true c4
   try have c4b2 : (9223372036854775807 < 1 + t109.size) = False := eq_false (Nat.not_lt.2 c4)
   obtain rfl := Option.some.inj H
   go_enter Tryd.func48, Tryd.ntmps48
   go_wp2_with (first | ((with_reducible refine gC 48 ?_); refine lA (some 7) Tryd.func48 (ih k (by omega) (wrap64 (-a0)) t109 _ A3.out) ?_; intro w5 hb; replace HB := uB HB hb; (try clear hb)))
   go_ret
   exact ⟨eB, (bW HB)⟩
  ·rw [if_neg c4] at H
   exact absurd H (by simp)
 ·replace H := ifD H
  rcases H with ⟨H, -, c6b0⟩ | ⟨H, -, c6b0⟩
  ·by_cases c7 : 0 ≤ a0
   ·rw [if_pos c7] at H
    have c7b0 := eq_true c7
    have c7b1 : decide (0 ≤ a0) = true := decide_eq_true c7
    clear c7
    by_cases c8 : a0 ≤ (wrap64 (a0 + 1))
    ·rw [if_pos c8] at H
     have c8b0 := eq_true c8
     have c8b1 : decide (a0 ≤ (wrap64 (a0 + 1))) = true := decide_eq_true c8
     by_cases c9 : (wrap64 (a0 + 1)) ≤ 10
     ·rw [if_pos c9] at H
      have c9b0 := eq_true c9
      have c9b1 : decide ((wrap64 (a0 + 1)) ≤ 10) = true := decide_eq_true c9
      obtain rfl := Option.some.inj H
      go_enter Tryd.func48, Tryd.ntmps48
      go_wp2
      go_ret
      exact ⟨eB, (bW HB)⟩
     ·rw [if_neg c9] at H
      exact absurd H (by simp)
    ·rw [if_neg c8] at H
     exact absurd H (by simp)
   ·rw [if_neg c7] at H
    exact absurd H (by simp)
  ·replace H := bA H
   obtain ⟨t110, A10, H⟩ := H
   obtain ⟨ji11, hji11⟩ : ∃ j_ : Int, (Int.tmod a0 10) = j_ := ⟨_, rfl⟩
   replace H : (if 0 ≤ (ji11) then (if (ji11) ≤ (wrap64 ((ji11) + 1)) then (if (wrap64 ((ji11) + 1)) ≤ 10 then (if t110.size + ((⟨#[48, 49, 50, 51, 52, 53, 54, 55, 56, 57]⟩ : ByteArray).extract ((ji11) : Int).toNat ((wrap64 ((ji11) + 1)) : Int).toNat).size ≤ 9223372036854775807 then (some (t110 ++ ((⟨#[48, 49, 50, 51, 52, 53, 54, 55, 56, 57]⟩ : ByteArray).extract ((ji11) : Int).toNat ((wrap64 ((ji11) + 1)) : Int).toNat))) else (none)) else (none)) else (none)) else (none)) = some r := by first | (rw [hji11] at H; exact H) | (simp only [hji11] at H ⊢; exact H)
   (try rw [hji11] at A10)
   by_cases c12 : 0 ≤ (ji11)
   ·rw [if_pos c12] at H
    have c12b0 := eq_true c12
    have c12b1 : decide (0 ≤ (ji11)) = true := decide_eq_true c12
    clear c12
    by_cases c13 : (ji11) ≤ (wrap64 ((ji11) + 1))
    ·rw [if_pos c13] at H
     have c13b0 := eq_true c13
     have c13b1 : decide ((ji11) ≤ (wrap64 ((ji11) + 1))) = true := decide_eq_true c13
     by_cases c14 : (wrap64 ((ji11) + 1)) ≤ 10
     ·rw [if_pos c14] at H
      have c14b0 := eq_true c14
      have c14b1 : decide ((wrap64 ((ji11) + 1)) ≤ 10) = true := decide_eq_true c14
      by_cases c15 : t110.size + ((⟨#[48, 49, 50, 51, 52, 53, 54, 55, 56, 57]⟩ : ByteArray).extract ((ji11) : Int).toNat ((wrap64 ((ji11) + 1)) : Int).toNat).size ≤ 9223372036854775807
      ·rw [if_pos c15] at H
       have c15b0 := eq_true c15
       have c15b1 : decide (t110.size + ((⟨#[48, 49, 50, 51, 52, 53, 54, 55, 56, 57]⟩ : ByteArray).extract ((ji11) : Int).toNat ((wrap64 ((ji11) + 1)) : Int).toNat).size ≤ 9223372036854775807) = true := decide_eq_true c15
       (try (have c15b5 := c15b0; simp only [ByteArray.size_append', ByteArray.size_extract, Nat.sub_zero, Nat.min_self] at c15b5))
       try have c15b2 : (9223372036854775807 < t110.size + ((⟨#[48, 49, 50, 51, 52, 53, 54, 55, 56, 57]⟩ : ByteArray).extract ((ji11) : Int).toNat ((wrap64 ((ji11) + 1)) : Int).toNat).size) = False := eq_false (Nat.not_lt.2 c15)
       (try (have c15b4 := c15b2; simp only [ByteArray.size_append', ByteArray.size_extract, Nat.sub_zero, Nat.min_self] at c15b4))
       have c15b3 := digit_lim (n := t110.size) (i := ji11) (j := (wrap64 ((ji11) + 1))) (⟨#[48, 49, 50, 51, 52, 53, 54, 55, 56, 57]⟩ : ByteArray) rfl (by first | assumption | (with_reducible assumption)) c15
       obtain rfl := Option.some.inj H
       go_enter Tryd.func48, Tryd.ntmps48
       try go_wp2
       replace HB := Aside0.mk (below_drew1 HB.out)
       refine start_ (n := 11) (S := fun w' => True) (ds := []) #[false, false, false, false, false, false, false, false, false, false, false] (by kernel_rfl) rfl rfl trivial (fun hHeld => ?_); refine with_tabW spec_l1Num.tab5 spec_l1Num.bits5 (fun HT_ HW_ => ?_)
       generalize w.drew = w16 at HB hHeld ⊢
       refine pA 0 15 HT_ ?_
       refine pA 1 16 HT_ ?_
       refine pA 3 18 HT_ ?_
       refine pA 4 19 HT_ ?_
       refine pA 5 20 HT_ ?_
       refine pA 6 21 HT_ ?_
       refine pA 7 22 HT_ ?_
       refine pA 8 23 HT_ ?_
       refine oA 2 (some 17) HT_ fun K hK => ?_
       refine rA Tryd.func48 (ih k (by omega) (wrap64 (Int.tdiv a0 10)) t110 _ A10.out) ?_
       intro w17 hb
       replace HB := uB HB hb
       (try clear hb)
       refine hK.out _ _ trivial (fun hHeld => ?_)
       clear hK K
       refine nA ?_ (some 17)
       refine pA 9 24 HT_ ?_
       refine pA 10 2 HT_ ?_
       refine done_ (done_of HT_.out (by kernel_rfl)) ?_
       try go_wp2
       go_ret
       exact ⟨by first | rfl | (simp [errW_none, errW_some] <;> rfl) | (simp only [← hji11]; first | rfl | (simp [errW_none, errW_some] <;> rfl)) | (simp [*, errW_none, errW_some] <;> rfl), (bW HB)⟩
      ·rw [if_neg c15] at H
       exact absurd H (by simp)
     ·rw [if_neg c14] at H
      exact absurd H (by simp)
    ·rw [if_neg c13] at H
     exact absurd H (by simp)
   ·rw [if_neg c12] at H
    exact absurd H (by simp)

end Go.Proofs.YtldgjibimolcdaaDoor.QFnLeads
