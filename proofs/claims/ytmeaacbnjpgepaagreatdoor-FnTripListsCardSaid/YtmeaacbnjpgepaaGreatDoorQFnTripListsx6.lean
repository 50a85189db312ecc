/- Contracts of Go functions that FnTripLists reaches: the call computes what the plain function says. No condition. -/
import Derived.Test.YtmeaacbnjpgepaaGreatDoorQFnTripListsx0
import Derived.Test.YtmeaacbnjpgepaaGreatDoorQFnTripListsx5
namespace Go.Proofs.YtmeaacbnjpgepaaGreatDoor.QFnTripLists
open Go.RowKit Go.Proofs.YtmeaacbnjpgepaaGreatDoorW.PrintWords Go.Proofs.YtmeaacbnjpgepaaGreatDoorW.PrintLast Go.Proofs.YtmeaacbnjpgepaaGreatDoorW.PrintMore
attribute [local go_sem] max2_int min2_int max_two min_two max_three min_three max_four min_four   -- for this text's walks alone
set_option linter.unusedVariables false
set_option linter.unusedSimpArgs false

/-! ### impl_IsTrip: function 20 -/
mutual
def impl_IsTrip.j0 : Nat → Bool → Int → Int → Int → Int → Int → Option (Bool)
 | 0, _, _, _, _, _, _ => none
 | k + 1, x18, x247000, x247001, x247002, x247003, x247004 => if x18 = true then (some false) else (if x247000 = 0 then (impl_IsTrip.j1 k x247000 (x247000 == 0) x247000 x247001 x247002 x247003 x247004) else (if x247000 = 4 then (impl_IsTrip.j1 k x247000 (x247000 == 4) x247000 x247001 x247002 x247003 x247004) else (impl_IsTrip.j1 k x247000 (x247000 == 5) x247000 x247001 x247002 x247003 x247004)))
def impl_IsTrip.j1 : Nat → Int → Bool → Int → Int → Int → Int → Int → Option (Bool)
 | 0, _, _, _, _, _, _, _ => none
 | k + 1, x20, x21, x247000, x247001, x247002, x247003, x247004 => if x21 = true then (some (x247002 == 0)) else (if x20 = 1 then ((impl_within.f x247002 1 x247001).bind fun t250 => (if t250 = true then (some (decide (x247004 ≤ x247003))) else (some false))) else (if x20 = 2 then ((impl_within.f x247002 1 x247001).bind fun t251 => (if t251 = true then (some (decide (x247004 > x247003))) else (some false))) else (if x20 = 3 then ((impl_within.f x247002 1 x247001).bind fun t252 => (if t252 = true then (some (decide (x247004 > x247003))) else (some false))) else (some false))))
end
def impl_IsTrip.f (k : Nat) (a0_0 a0_1 a0_2 a0_3 a0_4 : Int) : Option (Bool) := (impl_within.f a0_1 1 12).bind fun t247 => (if t247 = true then ((impl_isTime.f a0_3).bind fun t248 => (if t248 = true then ((impl_isTime.f a0_4).bind fun t249 => (impl_IsTrip.j0 k (!t249) a0_0 a0_1 a0_2 a0_3 a0_4)) else (impl_IsTrip.j0 k true a0_0 a0_1 a0_2 a0_3 a0_4))) else (impl_IsTrip.j0 k true a0_0 a0_1 a0_2 a0_3 a0_4))
theorem impl_IsTrip.mono_l : ∀ k, (∀ y0 y1 y2 y3 y4 y5, LeO (impl_IsTrip.j0 k y0 y1 y2 y3 y4 y5) (impl_IsTrip.j0 (k + 1) y0 y1 y2 y3 y4 y5)) ∧ (∀ y0 y1 y2 y3 y4 y5 y6, LeO (impl_IsTrip.j1 k y0 y1 y2 y3 y4 y5 y6) (impl_IsTrip.j1 (k + 1) y0 y1 y2 y3 y4 y5 y6))
 | 0 => ⟨fun _ _ _ _ _ _ r h => by simp [impl_IsTrip.j0] at h, fun _ _ _ _ _ _ _ r h => by simp [impl_IsTrip.j1] at h⟩
 | k + 1 => by
  obtain ⟨ih0, ih1⟩ := impl_IsTrip.mono_l k
  refine ⟨?_, ?_⟩
  ·intro y0 y1 y2 y3 y4 y5
   unfold impl_IsTrip.j0
   repeat' with_reducible first | apply ih0 | apply ih1 | exact LeO.refl _ | exact LeO.none _ | refine LeO.ite ?_ ?_ | refine LeO.bind ?_ (fun _ => ?_)
  ·intro y0 y1 y2 y3 y4 y5 y6
   unfold impl_IsTrip.j1
   repeat' with_reducible first | apply ih0 | apply ih1 | exact LeO.refl _ | exact LeO.none _ | refine LeO.ite ?_ ?_ | refine LeO.bind ?_ (fun _ => ?_)
theorem impl_IsTrip.mono : ∀ a0 a1 a2 a3 a4 k, LeO (impl_IsTrip.f k a0 a1 a2 a3 a4) (impl_IsTrip.f (k + 1) a0 a1 a2 a3 a4) := by
 intro a0 a1 a2 a3 a4 k
 obtain ⟨ih0, ih1⟩ := impl_IsTrip.mono_l k
 unfold impl_IsTrip.f
 repeat' with_reducible first | apply ih0 | apply ih1 | exact LeO.refl _ | exact LeO.none _ | refine LeO.ite ?_ ?_ | refine LeO.bind ?_ (fun _ => ?_)
set_option maxHeartbeats 8000000 in
set_option maxRecDepth 100000 in
theorem impl_IsTrip.calls (k : Nat) (a0_0 a0_1 a0_2 a0_3 a0_4 : Int) (r : Bool) (w : World) (h : impl_IsTrip.f k a0_0 a0_1 a0_2 a0_3 a0_4 = some r) :
  Calls Tryz.prog 20 #[.agg #[.int .i64 a0_0, .int .i64 a0_1, .int .i64 a0_2, .int .i64 a0_3, .int .i64 a0_4]] w fun e w' => e = .returned (.bool r) ∧ Below w.heap.size w w' := by
 have hu25 := Tryz.underlying25
 have HB := Aside0.mk (Below.refl w.heap.size w)
 have H := h
 clear h
 unfold impl_IsTrip.f at H
 have HC2 := Aside0.mk H
 clear H
 go_enter Tryz.func20, Tryz.ntmps20
 go_upto_region 1 with (first | ((with_reducible refine gD 1 ?_); refine bxE 1 25 #[.int .i64 a0_0, .int .i64 a0_1, .int .i64 a0_2, .int .i64 a0_3, .int .i64 a0_4] fun gb246 w3 hg hbox hb => ?_; have BK246 := Aside0.mk hbox; have GE246 := gB HB hg; replace HB := uB HB hb; clear hb hbox hg))
 (try simp only [Act.put, List.setIfInBounds_toArray, List.set_cons_zero, List.set_cons_succ])
 go_cut [18] (fun v18 wc => ∃ (kq : Nat) (x18_1 : Bool), v18 = .bool x18_1 ∧ Aside0 (impl_IsTrip.j0 kq x18_1 a0_0 a0_1 a0_2 a0_3 a0_4 = some r) ∧ Aside0 (kq ≤ k) ∧ Aside0 (wc.heap[gb246]? = some (.cells #[.int .i64 a0_0, .int .i64 a0_1, .int .i64 a0_2, .int .i64 a0_3, .int .i64 a0_4] 25 (0, 0))) ∧ Aside0 (Below w.heap.size w wc))
 case first =>
  have H := HC2.out
  clear HC2
  replace H := bA H
  obtain ⟨t247, A4, H⟩ := H
  rcases Bool.eq_false_or_eq_true t247 with rfl | rfl
  ·replace H := iT rfl H
   replace H := bA H
   obtain ⟨t248, A6, H⟩ := H
   rcases Bool.eq_false_or_eq_true t248 with rfl | rfl
   ·replace H := iT rfl H
    replace H := bA H
    obtain ⟨t249, A8, H⟩ := H
    have H' := Aside0.mk H
    clear H
    have ⟨hcz9_0, hcz9_1, hcz9_2, hcz9_3, hcz9_4, hfz9_0⟩ := cz5 BK246
    go_wp2_with (first | ((with_reducible refine gC 40 ?_); refine lA (some 5) Tryz.func40 (impl_within.calls a0_1 1 12 true _ A4.out) ?_; rintro _ ⟨nd, rfl⟩) | (go_at_call 36; (with_reducible refine (impl_isTime.calls a0_3 true _ A6.out).mono ?_); rintro e w' ⟨rfl, ⟨nd, rfl⟩⟩) | (go_at_call 36; (with_reducible refine (impl_isTime.calls a0_4 t249 _ A8.out).mono ?_); rintro e w' ⟨rfl, ⟨nd, rfl⟩⟩))
    go_meet
    case rel => exact ⟨_, (!t249), rB, H', leB, (aK BK246), (aB HB)⟩
   ·replace H := iF (by decide) H
    have H' := Aside0.mk H
    clear H
    have ⟨hcz10_0, hcz10_1, hcz10_2, hcz10_3, hcz10_4, hfz10_0⟩ := cz5 BK246
    go_wp2_with (first | ((with_reducible refine gC 40 ?_); refine lA (some 5) Tryz.func40 (impl_within.calls a0_1 1 12 true _ A4.out) ?_; rintro _ ⟨nd, rfl⟩) | (go_at_call 36; (with_reducible refine (impl_isTime.calls a0_3 false _ A6.out).mono ?_); rintro e w' ⟨rfl, ⟨nd, rfl⟩⟩))
    go_meet
    case rel => exact ⟨_, (true), rB, H', leB, (aK BK246), (aB HB)⟩
  ·replace H := iF (by decide) H
   have H' := Aside0.mk H
   clear H
   have ⟨hcz11_0, hcz11_1, hcz11_2, hcz11_3, hcz11_4, hfz11_0⟩ := cz5 BK246
   go_wp2_with (first | ((with_reducible refine gC 40 ?_); refine lA (some 5) Tryz.func40 (impl_within.calls a0_1 1 12 false _ A4.out) ?_; rintro _ ⟨nd, rfl⟩))
   go_meet
   case rel => exact ⟨_, (true), rB, H', leB, (aK BK246), (aB HB)⟩
 case rest =>
  clear HC2
  obtain ⟨kq, x18_1, rfl, HA, HJ1, BK246, HB⟩ := hcut
  cases kq with
  | zero => exact absurd HA.out (by simp [impl_IsTrip.j0])
  | succ kj1 =>
   have H := HA.out
   clear HA
   simp only [impl_IsTrip.j0] at H
   rcases Bool.eq_false_or_eq_true x18_1 with rfl | rfl
   ·replace H := iT rfl H
    obtain rfl := Option.some.inj H
    go_wp2
    go_ret
    exact ⟨eB, (bW HB)⟩
   ·replace H := iF (by decide) H
    have HC13 := Aside0.mk H
    clear H
    have ⟨hcz14_0, hcz14_1, hcz14_2, hcz14_3, hcz14_4, hfz14_0⟩ := cz5 BK246
    go_upto_if 21 with (fail)
    go_cut [21] (fun v21 wc => ∃ (kq : Nat) (x21_12 : Bool), v21 = .bool x21_12 ∧ Aside0 (impl_IsTrip.j1 kq a0_0 x21_12 a0_0 a0_1 a0_2 a0_3 a0_4 = some r) ∧ Aside0 (kq ≤ kj1) ∧ Aside0 (wc.heap[gb246]? = some (.cells #[.int .i64 a0_0, .int .i64 a0_1, .int .i64 a0_2, .int .i64 a0_3, .int .i64 a0_4] 25 (0, 0))) ∧ Aside0 (Below w.heap.size w wc))
    case first =>
     have H := HC13.out
     clear HC13
     replace H := ifI H
     rcases H with ⟨H, -, c15b0, c15b1⟩ | ⟨H, c15, c15b0, c15b1⟩
     ·(first | rw [c15b0] | (simp only [i64_w, i32_w]; rw [c15b0]) | skip)
      have H' := Aside0.mk H
      clear H
      go_wp2
      go_meet
      case rel => exact ⟨_, ((a0_0 == 0)), rB, H', ⟨by have := HJ1.out; first | omega | exact Nat.le_refl _⟩, (aK BK246), (aB HB)⟩
     ·(first | rw [c15b0] | (simp only [i64_w, i32_w]; rw [c15b0]) | skip)
      replace H := ifI H
      rcases H with ⟨H, -, c16b0, c16b1⟩ | ⟨H, c16, c16b0, c16b1⟩
      ·have H' := Aside0.mk H
       clear H
       go_wp2
       go_meet
       case rel => exact ⟨_, ((a0_0 == 4)), rB, H', ⟨by have := HJ1.out; first | omega | exact Nat.le_refl _⟩, (aK BK246), (aB HB)⟩
      ·have H' := Aside0.mk H
       clear H
       go_wp2
       go_meet
       case rel => exact ⟨_, ((a0_0 == 5)), rB, H', ⟨by have := HJ1.out; first | omega | exact Nat.le_refl _⟩, (aK BK246), (aB HB)⟩
    case rest =>
     clear HC13
     try clear hcz14_0
     try clear hcz14_1
     try clear hcz14_2
     try clear hcz14_3
     try clear hcz14_4
     try clear hfz14_0
     obtain ⟨kq, x21_12, rfl, HA, HJ12, BK246, HB⟩ := hcut
     cases kq with
     | zero => exact absurd HA.out (by simp [impl_IsTrip.j1])
     | succ kj12 =>
      have H := HA.out
      clear HA
      simp only [impl_IsTrip.j1] at H
      rcases Bool.eq_false_or_eq_true x21_12 with rfl | rfl
      ·replace H := iT rfl H
       obtain rfl := Option.some.inj H
       have ⟨hcz18_0, hcz18_1, hcz18_2, hcz18_3, hcz18_4, hfz18_0⟩ := cz5 BK246
       go_wp2
       go_ret
       exact ⟨eB, (bW HB)⟩
      ·replace H := iF (by decide) H
       replace H := ifI H
       rcases H with ⟨H, -, c19b0, c19b1⟩ | ⟨H, c19, c19b0, c19b1⟩
       ·replace H := bA H
        obtain ⟨t250, A20, H⟩ := H
        rcases Bool.eq_false_or_eq_true t250 with rfl | rfl
        ·replace H := iT rfl H
         obtain rfl := Option.some.inj H
         have ⟨hcz22_0, hcz22_1, hcz22_2, hcz22_3, hcz22_4, hfz22_0⟩ := cz5 BK246
         go_wp2_with (first | ((with_reducible refine gC 40 ?_); refine lA (some 34) Tryz.func40 (impl_within.calls a0_2 1 a0_1 true _ A20.out) ?_; rintro _ ⟨nd, rfl⟩))
         go_ret
         exact ⟨eB, (bW HB)⟩
        ·replace H := iF (by decide) H
         obtain rfl := Option.some.inj H
         have ⟨hcz23_0, hcz23_1, hcz23_2, hcz23_3, hcz23_4, hfz23_0⟩ := cz5 BK246
         go_wp2_with (first | ((with_reducible refine gC 40 ?_); refine lA (some 34) Tryz.func40 (impl_within.calls a0_2 1 a0_1 false _ A20.out) ?_; rintro _ ⟨nd, rfl⟩))
         go_ret
         exact ⟨eB, (bW HB)⟩
       ·replace H := ifI H
        rcases H with ⟨H, -, c24b0, c24b1⟩ | ⟨H, c24, c24b0, c24b1⟩
        ·replace H := bA H
         obtain ⟨t251, A25, H⟩ := H
         rcases Bool.eq_false_or_eq_true t251 with rfl | rfl
         ·replace H := iT rfl H
          obtain rfl := Option.some.inj H
          have ⟨hcz27_0, hcz27_1, hcz27_2, hcz27_3, hcz27_4, hfz27_0⟩ := cz5 BK246
          go_wp2_with (first | ((with_reducible refine gC 40 ?_); refine lA (some 49) Tryz.func40 (impl_within.calls a0_2 1 a0_1 true _ A25.out) ?_; rintro _ ⟨nd, rfl⟩))
          go_ret
          exact ⟨eB, (bW HB)⟩
         ·replace H := iF (by decide) H
          obtain rfl := Option.some.inj H
          have ⟨hcz28_0, hcz28_1, hcz28_2, hcz28_3, hcz28_4, hfz28_0⟩ := cz5 BK246
          go_wp2_with (first | ((with_reducible refine gC 40 ?_); refine lA (some 49) Tryz.func40 (impl_within.calls a0_2 1 a0_1 false _ A25.out) ?_; rintro _ ⟨nd, rfl⟩))
          go_ret
          exact ⟨eB, (bW HB)⟩
        ·replace H := ifI H
         rcases H with ⟨H, -, c29b0, c29b1⟩ | ⟨H, c29, c29b0, c29b1⟩
         ·replace H := bA H
          obtain ⟨t252, A30, H⟩ := H
          rcases Bool.eq_false_or_eq_true t252 with rfl | rfl
          ·replace H := iT rfl H
           obtain rfl := Option.some.inj H
           have ⟨hcz32_0, hcz32_1, hcz32_2, hcz32_3, hcz32_4, hfz32_0⟩ := cz5 BK246
           go_wp2_with (first | ((with_reducible refine gC 40 ?_); refine lA (some 49) Tryz.func40 (impl_within.calls a0_2 1 a0_1 true _ A30.out) ?_; rintro _ ⟨nd, rfl⟩))
           go_ret
           exact ⟨eB, (bW HB)⟩
          ·replace H := iF (by decide) H
           obtain rfl := Option.some.inj H
           have ⟨hcz33_0, hcz33_1, hcz33_2, hcz33_3, hcz33_4, hfz33_0⟩ := cz5 BK246
           go_wp2_with (first | ((with_reducible refine gC 40 ?_); refine lA (some 49) Tryz.func40 (impl_within.calls a0_2 1 a0_1 false _ A30.out) ?_; rintro _ ⟨nd, rfl⟩))
           go_ret
           exact ⟨eB, (bW HB)⟩
         ·obtain rfl := Option.some.inj H
          go_wp2
          go_ret
          exact ⟨eB, (bW HB)⟩

/-! ### impl_decimal: function 41 -/
-- calls: none
def stWords : List ByteArray := [(⟨#[112, 108, 97, 110, 110, 101, 100]⟩ : ByteArray), (⟨#[105, 110, 115, 105, 100, 101]⟩ : ByteArray), (⟨#[111, 118, 101, 114, 100, 117, 101]⟩ : ByteArray), (⟨#[114, 101, 115, 99, 117, 101]⟩ : ByteArray), (⟨#[111, 118, 101, 114]⟩ : ByteArray), (⟨#[99, 97, 110, 99, 101, 108, 101, 100]⟩ : ByteArray)]
def stW (i : Int) : ByteArray := stWords.getD i.toNat ByteArray.empty
/-- What the row's condition tells of five of the package's variables. -/
def TabW (w : World) : Prop := Lib.TabIs Tryz.prog w "internal/strconv.uint64pow10" .u64 Lib.pow10Tab ∧ (∀ i : Nat, i < 6 → w.cell? ⟨0, i, none⟩ = some (.string (stWords.getD i ByteArray.empty))) ∧ (∃ m : Int, w.cell? ⟨1, 0, none⟩ = some (.int .i64 m)) ∧ (∃ ev, w.cell? ⟨4, 0, none⟩ = some ev ∧ (ev = .nilIface ∨ ∃ te pe, ev = .iface te pe)) ∧ (∃ ev, w.cell? ⟨5, 0, none⟩ = some ev ∧ (ev = .nilIface ∨ ∃ te pe, ev = .iface te pe))
theorem tabW_below {n : String} {g : Nat} {k : IntKind} {zs : List Int} {w w' : World} (hg : Tryz.prog.globalNamed n = some g) (h : Lib.TabIs Tryz.prog w n k zs) (hb : Below w.heap.size w w') : Lib.TabIs Tryz.prog w' n k zs := by
 unfold Lib.TabIs World.var? at h ⊢
 rw [hg] at h ⊢
 simp only [Option.bind_some] at h ⊢
 split at h
 ·rename_i cs t hh e
  rw [blk_below e hb]
  exact h
 ·cases h
theorem tabW_cell {w W : World} {a : Addr} {v : Value} (hB : Below w.heap.size w W) (h : w.cell? a = some v) : W.cell? a = some v := (hB.cell (World.block_lt_of_cell? w _ h)).trans h
theorem TabW.up {w W : World} (hB : Aside0 (Below w.heap.size w W)) (h : TabW w) : TabW W := by
 obtain ⟨h1, h2, ⟨m, h3⟩, ⟨e4, h4, i4⟩, ⟨e5, h5, i5⟩⟩ := h
 exact ⟨tabW_below (g := 6) (by kernel_rfl) h1 hB.out, fun i hi => tabW_cell hB.out (h2 i hi), ⟨m, tabW_cell hB.out h3⟩, ⟨e4, tabW_cell hB.out h4, i4⟩, ⟨e5, tabW_cell hB.out h5, i5⟩⟩
theorem TabW.up2 {w W0 W : World} (h : TabW w) (hB : Below w.heap.size w W0) (hh : Below w.heap.size w W0 → Below w.heap.size w W := by (intro h_; repeat (first | (with_reducible first | exact h_ | apply below_alloc | apply pw_below_drewN | apply below_drew1) | exact h_ | refine below_set ?_ (Aside0.out (by assumption))))) : TabW W := TabW.up ⟨hh hB⟩ h
theorem TabW.word {w W : World} (h : TabW w) (hB : Below w.heap.size w W) {i : Int} (h0 : 0 ≤ i) (h1 : i < 6) : W.cell? ⟨0, i.toNat, none⟩ = some (.string (stW i)) := (TabW.up ⟨hB⟩ h).2.1 i.toNat (by omega)
theorem guard_some {α : Type} {p : Prop} [Decidable p] {x : Option α} {r : α} (h : (if p then x else none) = some r) : p ∧ x = some r := by
 split at h
 ·exact ⟨by assumption, h⟩
 ·cases h

theorem below_grow_ (w : World) (k : Nat) (os : Array Obj) : Below w.heap.size w (Sort.grow (w.drewN k) os) := Lib.below_grow _ _ (Nat.le_refl _) k os
def impl_decimal.f (a0 : Int) : Option ByteArray := if -9223372036854775808 ≤ a0 ∧ a0 ≤ 9223372036854775807 then some ⟨(Lib.itoa a0).toArray⟩ else none
theorem impl_decimal.calls (a0 : Int) (r : ByteArray) (w : World) (h : impl_decimal.f a0 = some r) (hT : TabW w) :
  Calls Tryz.prog 41 #[.int .i64 a0] w fun e w' => e = .returned (.string r) ∧ Below w.heap.size w w' := by
 obtain ⟨⟨h0, h1⟩, h⟩ := guard_some h
 obtain rfl := Option.some.inj h
 have hcon := Any.strconv_Itoa Tryz.lays171 a0 h0 h1 w hT.1
 change Calls Tryz.prog 55 _ _ (fun e w' => e = .returned (.string ⟨(Lib.itoa a0).toArray⟩) ∧ ∃ k os, w' = Sort.grow (w.drewN k) os) at hcon
 clear h hT
 generalize (⟨(Lib.itoa a0).toArray⟩ : ByteArray) = r at hcon ⊢
 go_enter Tryz.func41, Tryz.ntmps41
 go_wp2_with (go_at_call 55; refine hcon.mono ?_; rintro e w1 ⟨rfl, nk, os, rfl⟩)
 go_ret
 exact ⟨rfl, below_grow_ w nk os⟩

end Go.Proofs.YtmeaacbnjpgepaaGreatDoor.QFnTripLists
