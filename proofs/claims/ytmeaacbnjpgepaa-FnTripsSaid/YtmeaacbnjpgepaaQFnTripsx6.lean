/- Contracts of Go functions that FnTrips reaches: the call computes what the plain function says. No condition. -/
import Derived.Test.YtmeaacbnjpgepaaQFnTripsx0
import Derived.Test.YtmeaacbnjpgepaaQFnTripsx2
import Derived.Test.YtmeaacbnjpgepaaQFnTripsx3
import Derived.Test.YtmeaacbnjpgepaaQFnTripsx4
import Derived.Test.YtmeaacbnjpgepaaQFnTripsx5
namespace Go.Proofs.Ytmeaacbnjpgepaa.QFnTrips
open Go.RowKit Go.Proofs.YtmeaacbnjpgepaaW.PrintWords Go.Proofs.YtmeaacbnjpgepaaW.PrintLast Go.Proofs.YtmeaacbnjpgepaaW.PrintMore
attribute [local go_sem] max2_int min2_int max_two min_two max_three min_three max_four min_four   -- for this text's walks alone
set_option linter.unusedVariables false
set_option linter.unusedSimpArgs false

/-! ### impl_NextKinds: function 22 -/
def impl_NextKinds.l0 : Nat → List Int → Int → Int → Int → Int → Int → Int → Option (List Int × Bool)
 | 0, _, _, _, _, _, _, _ => none
 | k + 1, x4, x5, x167000, x167001, x167002, x167003, x167004 => if x5 ≤ 6 then ((impl_Trip_most.f k x167000 x167001 x167002 x167003 x167004 x5).bind fun t168 => (if t168 ≥ 0 then (if x4.length < 17592186044416 then (impl_NextKinds.l0 k (x4 ++ [x5]) (wrap64 (x5 + 1)) x167000 x167001 x167002 x167003 x167004) else (none)) else (impl_NextKinds.l0 k x4 (wrap64 (x5 + 1)) x167000 x167001 x167002 x167003 x167004))) else (some (x4, true))
def impl_NextKinds.f (k : Nat) (a0_0 a0_1 a0_2 a0_3 a0_4 : Int) : Option (List Int × Bool) := (impl_IsTrip.f k a0_0 a0_1 a0_2 a0_3 a0_4).bind fun t167 => (if t167 = true then (impl_NextKinds.l0 k ([] : List Int) 1 a0_0 a0_1 a0_2 a0_3 a0_4) else (some (([] : List Int), false)))
theorem impl_NextKinds.mono_l : ∀ k, (∀ y0 y1 y2 y3 y4 y5 y6, LeO (impl_NextKinds.l0 k y0 y1 y2 y3 y4 y5 y6) (impl_NextKinds.l0 (k + 1) y0 y1 y2 y3 y4 y5 y6))
 | 0 => fun _ _ _ _ _ _ _ r h => by simp [impl_NextKinds.l0] at h
 | k + 1 => by
  have ih0 := impl_NextKinds.mono_l k
  ·intro y0 y1 y2 y3 y4 y5 y6
   unfold impl_NextKinds.l0
   repeat' with_reducible first | apply ih0 | apply impl_IsTrip.mono | apply impl_Trip_most.mono | exact LeO.refl _ | exact LeO.none _ | refine LeO.ite ?_ ?_ | refine LeO.bind ?_ (fun _ => ?_)
theorem impl_NextKinds.mono : ∀ a0 a1 a2 a3 a4 k, LeO (impl_NextKinds.f k a0 a1 a2 a3 a4) (impl_NextKinds.f (k + 1) a0 a1 a2 a3 a4) := by
 intro a0 a1 a2 a3 a4 k
 have ih0 := impl_NextKinds.mono_l k
 unfold impl_NextKinds.f
 repeat' with_reducible first | apply ih0 | apply impl_IsTrip.mono | apply impl_Trip_most.mono | exact LeO.refl _ | exact LeO.none _ | refine LeO.ite ?_ ?_ | refine LeO.bind ?_ (fun _ => ?_)
set_option maxHeartbeats 8000000 in
set_option maxRecDepth 100000 in
theorem impl_NextKinds.calls (k : Nat) (a0_0 a0_1 a0_2 a0_3 a0_4 : Int) (r1 : List Int) (r2 : Bool) (w : World) (h : impl_NextKinds.f k a0_0 a0_1 a0_2 a0_3 a0_4 = some (r1, r2)) :
  Calls Try.prog 22 #[.agg #[.int .i64 a0_0, .int .i64 a0_1, .int .i64 a0_2, .int .i64 a0_3, .int .i64 a0_4]] w fun e w' => ∃ v0_ : Value, e = .returned (.tuple #[v0_, .bool r2]) ∧ Kd.R (Kd.int .i64) 3 w' w.heap.size (fun _ => True) v0_ r1 ∧ Below w.heap.size w w' := by
 have hu25 := Try.underlying25
 have HB := Aside0.mk (Below.refl w.heap.size w)
 have H := h
 clear h
 unfold impl_NextKinds.f at H
 replace H := bA H
 obtain ⟨t167, A2, H⟩ := H
 rcases Bool.eq_false_or_eq_true t167 with rfl | rfl
 ·replace H := iT rfl H
  have H' := Aside0.mk H
  clear H
  go_enter Try.func22, Try.ntmps22
  go_wp2_with (first | ((with_reducible refine gD 1 ?_); refine bxE 1 25 #[.int .i64 a0_0, .int .i64 a0_1, .int .i64 a0_2, .int .i64 a0_3, .int .i64 a0_4] fun gb166 w4 hg hbox hb => ?_; have BK166 := Aside0.mk hbox; have GE166 := gB HB hg; replace HB := uB HB hb; clear hb hbox hg; have ⟨hcz5_0, hcz5_1, hcz5_2, hcz5_3, hcz5_4, hfz5_0⟩ := cz5 BK166) | ((with_reducible refine gC 13 ?_); refine lA (some 7) Try.func13 (impl_IsTrip.calls k a0_0 a0_1 a0_2 a0_3 a0_4 true _ A2.out) ?_; intro w6 hb; replace BK166 := uK BK166 hb; replace HB := uB HB hb; (try clear hb); (try clear hk)))
  (try simp only [Act.put, List.setIfInBounds_toArray, List.set_cons_zero, List.set_cons_succ])
  go_loopg [4, 5] k (fun kq v4 v5 w' => ∃ (x4_1 : List Int) (x5_1 : Int), v5 = .int .i64 x5_1 ∧ Aside0 (impl_NextKinds.l0 kq x4_1 x5_1 a0_0 a0_1 a0_2 a0_3 a0_4 = some (r1, r2)) ∧ Aside0 (kq ≤ k) ∧ Aside0 (Kd.R (Kd.int .i64) 3 w' w.heap.size (fun _ => True) v4 x4_1) ∧ Aside0 (w'.heap[gb166]? = some (.cells #[.int .i64 a0_0, .int .i64 a0_1, .int .i64 a0_2, .int .i64 a0_3, .int .i64 a0_4] 25 (0, 0))) ∧ Aside0 (Below w.heap.size w w'))
  case atStart => exact ⟨(([] : List Int)), (1), rB, H', ⟨Nat.le_refl _⟩, ⟨by first | exact Kd.R_nil _ _ _ _ _ | exact Kd.N_nil _ _ _ _ _ | exact Kd.V_nil _ _ _ _ _ | exact Kd.Q_nil _ _ _ _ _ | exact Kd.S_nil _ _ _ _ _⟩, (aK BK166), (aB HB)⟩
  case round =>
   clear H'
   try clear hcz5_0
   try clear hcz5_1
   try clear hcz5_2
   try clear hcz5_3
   try clear hcz5_4
   try clear hfz5_0
   obtain ⟨x4_1, x5_1, rfl, HA, HK1, HO_4, BK166, HB⟩ := hrel
   cases gk with
   | zero => exact absurd HA.out (by simp [impl_NextKinds.l0])
   | succ k1 =>
    have H := HA.out
    clear HA
    simp only [impl_NextKinds.l0] at H
    replace H := ifD H
    rcases H with ⟨H, -, c7b0⟩ | ⟨H, -, c7b0⟩
    ·replace H := bA H
     obtain ⟨t168, A8, H⟩ := H
     replace H := ifD H
     rcases H with ⟨H, -, c9b0⟩ | ⟨H, -, c9b0⟩
     ·by_cases c10 : x4_1.length < 17592186044416
      ·rw [if_pos c10] at H
       have LMc10 := Aside0.mk c10
       clear c10
       obtain ⟨y169, hy169⟩ : ∃ y_ : List Int, y_ = (x4_1 ++ [x5_1]) := ⟨_, rfl⟩
       replace H : (impl_NextKinds.l0 k1 y169 (wrap64 (x5_1 + 1)) a0_0 a0_1 a0_2 a0_3 a0_4) = some (r1, r2) := by first | (rw [hy169]; with_reducible exact H) | (have H2_ := (Option.bind_some _ _).symm.trans H; rw [hy169]; with_reducible exact H2_) | (have H2_ := (Option.bind_some _ _).symm.trans H; with_reducible exact H2_) | with_reducible exact H | (rw [hy169]; exact H) | exact H
       have Ny169 := Aside0.mk hy169
       clear hy169
       have H' := Aside0.mk H
       clear H
       have ⟨hcz11_0, hcz11_1, hcz11_2, hcz11_3, hcz11_4, hfz11_0⟩ := cz5 BK166
       go_wp2_with (first | ((with_reducible refine gC 53 ?_); refine lA (some 15) Try.func53 (impl_Trip_most.calls k1 a0_0 a0_1 a0_2 a0_3 a0_4 x5_1 t168 _ A8.out) ?_; intro w12 hb; replace HO_4 := uR HO_4 hb; replace BK166 := uK BK166 hb; replace HB := uB HB hb; (try clear hb); (try clear hk)) | ((with_reducible refine gate_builtin (b := .append) (xs := #[.tmp 17, .tmp 19]) rfl ?_); at_builtin; refine Kd.R_append (Kd.int .i64) (w0 := w) w.heap.size rfl (.tmp 17) (.tmp 19) 37 3 (.int .i64 0) 8 rfl Try.underlying37 info3 rfl (by decide) (by omega) u4 x4_1 x5_1 [.int .i64 x5_1] (fun _ => True) (fun _ => False) rfl rfl ?aP (fun _ hk => hk.elim) ?aF ?aO ?aB ?aS ?aL ?_; (case aP => exact rfl); (case aB => exact (bW HB)); (case aF => exact (fun _ _ => trivial)); (case aO => exact (upR HO_4.out)); (case aS => exact (below_size (bW HB))); (case aL => have := LMc10.out; omega); intro v170 w13 ho hb hg hat; rw [← Ny169.out] at ho; have HO171 := Aside0.mk (ho); replace BK166 := Aside0.mk (blk_grown (g := gb166) (o := .cells #[.int .i64 a0_0, .int .i64 a0_1, .int .i64 a0_2, .int .i64 a0_3, .int .i64 a0_4] 25 (0, 0)) (upK BK166.out) hg (Kd.R_ne HO_4.out BK166.out (by decide))); replace HB := Aside0.mk (hb); clear HO_4; clear ho hb hg hat))
       go_roundg k1
       case measure => have := HK1.out; omega
       case rel => exact ⟨(y169), (wrap64 (x5_1 + 1)), rB, H', ⟨by have := HK1.out; omega⟩, ⟨upR HO171.out⟩, (aK BK166), (aB HB)⟩
      ·rw [if_neg c10] at H
       exact absurd H (by simp)
     ·have H' := Aside0.mk H
      clear H
      have ⟨hcz14_0, hcz14_1, hcz14_2, hcz14_3, hcz14_4, hfz14_0⟩ := cz5 BK166
      go_wp2_with (first | ((with_reducible refine gC 53 ?_); refine lA (some 15) Try.func53 (impl_Trip_most.calls k1 a0_0 a0_1 a0_2 a0_3 a0_4 x5_1 t168 _ A8.out) ?_; intro w15 hb; replace HO_4 := uR HO_4 hb; replace BK166 := uK BK166 hb; replace HB := uB HB hb; (try clear hb); (try clear hk)))
      go_roundg k1
      case measure => have := HK1.out; omega
      case rel => exact ⟨(x4_1), (wrap64 (x5_1 + 1)), rB, H', ⟨by have := HK1.out; omega⟩, ⟨upR HO_4.out⟩, (aK BK166), (aB HB)⟩
    ·simp only [Option.some.injEq, Prod.mk.injEq] at H
     obtain ⟨rfl, rfl⟩ := H
     go_wp2
     go_ret2
     exact ⟨_, eB, upR HO_4.out, (bW HB)⟩
 ·replace H := iF (by decide) H
  simp only [Option.some.injEq, Prod.mk.injEq] at H
  obtain ⟨rfl, rfl⟩ := H
  go_enter Try.func22, Try.ntmps22
  go_wp2_with (first | ((with_reducible refine gD 1 ?_); refine bxE 1 25 #[.int .i64 a0_0, .int .i64 a0_1, .int .i64 a0_2, .int .i64 a0_3, .int .i64 a0_4] fun gb166 w16 hg hbox hb => ?_; have BK166 := Aside0.mk hbox; have GE166 := gB HB hg; replace HB := uB HB hb; clear hb hbox hg; have ⟨hcz17_0, hcz17_1, hcz17_2, hcz17_3, hcz17_4, hfz17_0⟩ := cz5 BK166) | ((with_reducible refine gC 13 ?_); refine lA (some 7) Try.func13 (impl_IsTrip.calls k a0_0 a0_1 a0_2 a0_3 a0_4 false _ A2.out) ?_; intro w18 hb; replace BK166 := uK BK166 hb; replace HB := uB HB hb; (try clear hb); (try clear hk)))
  go_ret2
  exact ⟨_, eB, by first | exact Kd.R_nil _ _ _ _ _ | exact Kd.N_nil _ _ _ _ _ | exact Kd.V_nil _ _ _ _ _ | exact Kd.Q_nil _ _ _ _ _ | exact Kd.S_nil _ _ _ _ _, (bW HB)⟩

/-! ### spec_l21Step: function 55 -/
def spec_l21Step.f (a0_0 a0_1 : Int) : Option (Bool) := if a0_0 = 4 then (some (a0_1 == 0)) else (if a0_0 = 5 then (some (a0_1 == 0)) else ((spec_l1In.f a0_0 1 6).bind fun t173 => (if t173 = true then (some (decide (a0_1 ≥ 0))) else (some false))))
set_option maxHeartbeats 8000000 in
set_option maxRecDepth 100000 in
theorem spec_l21Step.calls (a0_0 a0_1 : Int) (r : Bool) (w : World) (h : spec_l21Step.f a0_0 a0_1 = some r) :
  Calls Try.prog 55 #[.agg #[.int .i64 a0_0, .int .i64 a0_1]] w fun e w' => e = .returned (.bool r) ∧ Below w.heap.size w w' := by
 have hu49 := Try.underlying49
 have HB := Aside0.mk (Below.refl w.heap.size w)
 have H := h
 clear h
 unfold spec_l21Step.f at H
 replace H := ifI H
 rcases H with ⟨H, -, c2b0, c2b1⟩ | ⟨H, c2, c2b0, c2b1⟩
 ·obtain rfl := Option.some.inj H
  go_enter Try.func55, Try.ntmps55
  go_wp2_with (first | ((with_reducible refine gD 1 ?_); refine bxE 1 49 #[.int .i64 a0_0, .int .i64 a0_1] fun gb172 w3 hg hbox hb => ?_; have BK172 := Aside0.mk hbox; have GE172 := gB HB hg; replace HB := uB HB hb; clear hb hbox hg; have ⟨hcz4_0, hcz4_1, hfz4_0⟩ := cz2 BK172))
  go_ret
  exact ⟨eB, (bW HB)⟩
 ·replace H := ifI H
  rcases H with ⟨H, -, c5b0, c5b1⟩ | ⟨H, c5, c5b0, c5b1⟩
  ·obtain rfl := Option.some.inj H
   go_enter Try.func55, Try.ntmps55
   go_wp2_with (first | ((with_reducible refine gD 1 ?_); refine bxE 1 49 #[.int .i64 a0_0, .int .i64 a0_1] fun gb172 w6 hg hbox hb => ?_; have BK172 := Aside0.mk hbox; have GE172 := gB HB hg; replace HB := uB HB hb; clear hb hbox hg; have ⟨hcz7_0, hcz7_1, hfz7_0⟩ := cz2 BK172))
   go_ret
   exact ⟨eB, (bW HB)⟩
  ·replace H := bA H
   obtain ⟨t173, A8, H⟩ := H
   rcases Bool.eq_false_or_eq_true t173 with rfl | rfl
   ·replace H := iT rfl H
    obtain rfl := Option.some.inj H
    go_enter Try.func55, Try.ntmps55
    go_wp2_with (first | ((with_reducible refine gD 1 ?_); refine bxE 1 49 #[.int .i64 a0_0, .int .i64 a0_1] fun gb172 w10 hg hbox hb => ?_; have BK172 := Aside0.mk hbox; have GE172 := gB HB hg; replace HB := uB HB hb; clear hb hbox hg; have ⟨hcz11_0, hcz11_1, hfz11_0⟩ := cz2 BK172) | ((with_reducible refine gC 66 ?_); refine lA (some 16) Try.func66 (spec_l1In.calls a0_0 1 6 true _ A8.out) ?_; rintro _ ⟨nd, rfl⟩))
    go_ret
    exact ⟨eB, (bW HB)⟩
   ·replace H := iF (by decide) H
    obtain rfl := Option.some.inj H
    go_enter Try.func55, Try.ntmps55
    go_wp2_with (first | ((with_reducible refine gD 1 ?_); refine bxE 1 49 #[.int .i64 a0_0, .int .i64 a0_1] fun gb172 w12 hg hbox hb => ?_; have BK172 := Aside0.mk hbox; have GE172 := gB HB hg; replace HB := uB HB hb; clear hb hbox hg; have ⟨hcz13_0, hcz13_1, hfz13_0⟩ := cz2 BK172) | ((with_reducible refine gC 66 ?_); refine lA (some 16) Try.func66 (spec_l1In.calls a0_0 1 6 false _ A8.out) ?_; rintro _ ⟨nd, rfl⟩))
    go_ret
    exact ⟨eB, (bW HB)⟩

/-! ### spec_StepTrip: function 29 -/
def spec_StepTrip.j0 : Nat → Bool → Int → Int → Int → Int → Int → Int → Int → Option (Int × Int × Int × Int × Int × Bool)
 | 0, _, _, _, _, _, _, _, _ => none
 | k + 1, x15, x175000, x175001, x175002, x175003, x175004, x176000, x176001 => if x15 = true then (some (0, 0, 0, 0, 0, false)) else ((spec_l21Make.f k x175000 x175001 x175002 x175003 x175004 x176000 x176001).bind fun bt179 => (if bt179.2.2.2.2.2 = true then (some (bt179.1, bt179.2.1, bt179.2.2.1, bt179.2.2.2.1, bt179.2.2.2.2.1, true)) else (some (0, 0, 0, 0, 0, false))))
def spec_StepTrip.f (k : Nat) (a0_0 a0_1 a0_2 a0_3 a0_4 a1_0 a1_1 : Int) : Option (Int × Int × Int × Int × Int × Bool) := (spec_l21Good.f k a0_0 a0_1 a0_2 a0_3 a0_4).bind fun t177 => (if t177 = true then ((spec_l21Step.f a1_0 a1_1).bind fun t178 => (spec_StepTrip.j0 k (!t178) a0_0 a0_1 a0_2 a0_3 a0_4 a1_0 a1_1)) else (spec_StepTrip.j0 k true a0_0 a0_1 a0_2 a0_3 a0_4 a1_0 a1_1))
theorem spec_StepTrip.mono_l : ∀ k, (∀ y0 y1 y2 y3 y4 y5 y6 y7, LeO (spec_StepTrip.j0 k y0 y1 y2 y3 y4 y5 y6 y7) (spec_StepTrip.j0 (k + 1) y0 y1 y2 y3 y4 y5 y6 y7))
 | 0 => fun _ _ _ _ _ _ _ _ r h => by simp [spec_StepTrip.j0] at h
 | k + 1 => by
  have ih0 := spec_StepTrip.mono_l k
  ·intro y0 y1 y2 y3 y4 y5 y6 y7
   unfold spec_StepTrip.j0
   repeat' with_reducible first | apply ih0 | apply spec_l21Good.mono | apply spec_l21Make.mono | exact LeO.refl _ | exact LeO.none _ | refine LeO.ite ?_ ?_ | refine LeO.bind ?_ (fun _ => ?_)
theorem spec_StepTrip.mono : ∀ a0 a1 a2 a3 a4 a5 a6 k, LeO (spec_StepTrip.f k a0 a1 a2 a3 a4 a5 a6) (spec_StepTrip.f (k + 1) a0 a1 a2 a3 a4 a5 a6) := by
 intro a0 a1 a2 a3 a4 a5 a6 k
 have ih0 := spec_StepTrip.mono_l k
 unfold spec_StepTrip.f
 repeat' with_reducible first | apply ih0 | apply spec_l21Good.mono | apply spec_l21Make.mono | exact LeO.refl _ | exact LeO.none _ | refine LeO.ite ?_ ?_ | refine LeO.bind ?_ (fun _ => ?_)
set_option maxHeartbeats 8000000 in
set_option maxRecDepth 100000 in
theorem spec_StepTrip.calls (k : Nat) (a0_0 a0_1 a0_2 a0_3 a0_4 a1_0 a1_1 r1 r2 r3 r4 r5 : Int) (r6 : Bool) (w : World) (h : spec_StepTrip.f k a0_0 a0_1 a0_2 a0_3 a0_4 a1_0 a1_1 = some (r1, r2, r3, r4, r5, r6)) :
  Calls Try.prog 29 #[.agg #[.int .i64 a0_0, .int .i64 a0_1, .int .i64 a0_2, .int .i64 a0_3, .int .i64 a0_4], .agg #[.int .i64 a1_0, .int .i64 a1_1]] w fun e w' => e = .returned (.tuple #[.agg #[.int .i64 r1, .int .i64 r2, .int .i64 r3, .int .i64 r4, .int .i64 r5], .bool r6]) ∧ Below w.heap.size w w' := by
 have hu25 := Try.underlying25
 have hu49 := Try.underlying49
 have HB := Aside0.mk (Below.refl w.heap.size w)
 have H := h
 clear h
 unfold spec_StepTrip.f at H
 have HC3 := Aside0.mk H
 clear H
 go_enter Try.func29, Try.ntmps29
 go_upto_region 1 with (first | ((with_reducible refine gD 2 ?_); refine bxE 2 25 #[.int .i64 a0_0, .int .i64 a0_1, .int .i64 a0_2, .int .i64 a0_3, .int .i64 a0_4] fun gb174 w4 hg hbox hb => ?_; have BK174 := Aside0.mk hbox; have GE174 := gB HB hg; replace HB := uB HB hb; clear hb hbox hg) | ((with_reducible refine gD 3 ?_); refine bxE 3 49 #[.int .i64 a1_0, .int .i64 a1_1] fun gb175 w5 hg hbox hb => ?_; have BK175 := Aside0.mk hbox; have GE175 := gB HB hg; have ⟨NB174_175, NB175_174⟩ := nB BK174 hg; replace BK174 := uK BK174 hb; replace HB := uB HB hb; clear hb hbox hg) | ((with_reducible refine gD 4 ?_); refine bxE 4 25 #[.int .i64 0, .int .i64 0, .int .i64 0, .int .i64 0, .int .i64 0] fun gb176 w6 hg hbox hb => ?_; have BK176 := Aside0.mk hbox; have GE176 := gB HB hg; have ⟨NB174_176, NB176_174⟩ := nB BK174 hg; have ⟨NB175_176, NB176_175⟩ := nB BK175 hg; replace BK174 := uK BK174 hb; replace BK175 := uK BK175 hb; replace HB := uB HB hb; clear hb hbox hg))
 (try simp only [Act.put, List.setIfInBounds_toArray, List.set_cons_zero, List.set_cons_succ])
 go_cut [15] (fun v15 wc => ∃ (kq : Nat) (x15_2 : Bool), v15 = .bool x15_2 ∧ Aside0 (spec_StepTrip.j0 kq x15_2 a0_0 a0_1 a0_2 a0_3 a0_4 a1_0 a1_1 = some (r1, r2, r3, r4, r5, r6)) ∧ Aside0 (kq ≤ k) ∧ Aside0 (wc.heap[gb174]? = some (.cells #[.int .i64 a0_0, .int .i64 a0_1, .int .i64 a0_2, .int .i64 a0_3, .int .i64 a0_4] 25 (0, 0))) ∧ Aside0 (wc.heap[gb175]? = some (.cells #[.int .i64 a1_0, .int .i64 a1_1] 49 (0, 0))) ∧ Aside0 (wc.heap[gb176]? = some (.cells #[.int .i64 0, .int .i64 0, .int .i64 0, .int .i64 0, .int .i64 0] 25 (0, 0))) ∧ Aside0 (Below w.heap.size w wc))
 case first =>
  have H := HC3.out
  clear HC3
  replace H := bA H
  obtain ⟨t177, A7, H⟩ := H
  rcases Bool.eq_false_or_eq_true t177 with rfl | rfl
  ·replace H := iT rfl H
   replace H := bA H
   obtain ⟨t178, A9, H⟩ := H
   have H' := Aside0.mk H
   clear H
   have hnb10 := NB174_175.out
   have hnc10 := NB175_174.out
   have hnb11 := NB174_176.out
   have hnc11 := NB176_174.out
   have ⟨hcz12_0, hcz12_1, hcz12_2, hcz12_3, hcz12_4, hfz12_0⟩ := cz5 BK174
   go_wp2_with (first | ((with_reducible refine gC 45 ?_); refine lA (some 9) Try.func45 (spec_l21Good.calls k a0_0 a0_1 a0_2 a0_3 a0_4 true _ A7.out) ?_; intro w13 hb; replace BK174 := uK BK174 hb; replace BK175 := uK BK175 hb; replace BK176 := uK BK176 hb; replace HB := uB HB hb; (try clear hb); have hnb14 := NB175_176.out; have hnc14 := NB176_175.out; have ⟨hcz15_0, hcz15_1, hfz15_0⟩ := cz2 BK175) | (go_at_call 55; (with_reducible refine (spec_l21Step.calls a1_0 a1_1 t178 _ A9.out).mono ?_); rintro e w16 ⟨rfl, hb⟩; replace BK174 := uK BK174 hb; replace BK175 := uK BK175 hb; replace BK176 := uK BK176 hb; replace HB := uB HB hb; (try clear hb)))
   go_meet
   case rel => exact ⟨_, (!t178), rB, H', leB, (aK BK174), (aK BK175), (aK BK176), (aB HB)⟩
  ·replace H := iF (by decide) H
   have H' := Aside0.mk H
   clear H
   have hnb17 := NB174_175.out
   have hnc17 := NB175_174.out
   have hnb18 := NB174_176.out
   have hnc18 := NB176_174.out
   have ⟨hcz19_0, hcz19_1, hcz19_2, hcz19_3, hcz19_4, hfz19_0⟩ := cz5 BK174
   go_wp2_with (first | ((with_reducible refine gC 45 ?_); refine lA (some 9) Try.func45 (spec_l21Good.calls k a0_0 a0_1 a0_2 a0_3 a0_4 false _ A7.out) ?_; intro w20 hb; replace BK174 := uK BK174 hb; replace BK175 := uK BK175 hb; replace BK176 := uK BK176 hb; replace HB := uB HB hb; (try clear hb)))
   go_meet
   case rel => exact ⟨_, (true), rB, H', leB, (aK BK174), (aK BK175), (aK BK176), (aB HB)⟩
 case rest =>
  clear HC3
  obtain ⟨kq, x15_2, rfl, HA, HJ2, BK174, BK175, BK176, HB⟩ := hcut
  cases kq with
  | zero => exact absurd HA.out (by simp [spec_StepTrip.j0])
  | succ kj2 =>
   have H := HA.out
   clear HA
   simp only [spec_StepTrip.j0] at H
   rcases Bool.eq_false_or_eq_true x15_2 with rfl | rfl
   ·replace H := iT rfl H
    simp only [Option.some.injEq, Prod.mk.injEq] at H
    obtain ⟨rfl, rfl, rfl, rfl, rfl, rfl⟩ := H
    have hnb22 := NB176_174.out
    have hnc22 := NB174_176.out
    have hnb23 := NB176_175.out
    have hnc23 := NB175_176.out
    have ⟨hcz24_0, hcz24_1, hcz24_2, hcz24_3, hcz24_4, hfz24_0⟩ := cz5 BK176
    go_wp2
    refine bodyPost_ret (results_ct rfl _ _ gb176 25 #[.int .i64 0, .int .i64 0, .int .i64 0, .int .i64 0, .int .i64 0] (0, 0) _ rfl (by exact pW BK176) Try.underlying25 rfl (by kernel_rfl)) rfl ?_
    exact ⟨eB, (bW HB)⟩
   ·replace H := iF (by decide) H
    replace H := Option.bind_eq_some_iff.mp H
    obtain ⟨⟨t179, t180, t181, t182, t183, t184⟩, A250, H⟩ := H
    replace H : (if t184 = true then (some (t179, t180, t181, t182, t183, true)) else (some (0, 0, 0, 0, 0, false))) = some (r1, r2, r3, r4, r5, r6) := H
    have A25 := Aside0.mk A250
    clear A250
    rcases Bool.eq_false_or_eq_true t184 with rfl | rfl
    ·replace H := iT rfl H
     simp only [Option.some.injEq, Prod.mk.injEq] at H
     obtain ⟨rfl, rfl, rfl, rfl, rfl, rfl⟩ := H
     have hnb27 := NB174_175.out
     have hnc27 := NB175_174.out
     have hnb28 := NB174_176.out
     have hnc28 := NB176_174.out
     have ⟨hcz29_0, hcz29_1, hcz29_2, hcz29_3, hcz29_4, hfz29_0⟩ := cz5 BK174
     have hnb30 := NB175_176.out
     have hnc30 := NB176_175.out
     have ⟨hcz31_0, hcz31_1, hfz31_0⟩ := cz2 BK175
     go_wp2_with (first | ((with_reducible refine gC 52 ?_); refine lA (some 20) Try.func52 (spec_l21Make.calls kj2 a0_0 a0_1 a0_2 a0_3 a0_4 a1_0 a1_1 t179 t180 t181 t182 t183 true _ A25.out) ?_; intro w32 hb; replace BK174 := uK BK174 hb; replace BK175 := uK BK175 hb; replace BK176 := uK BK176 hb; replace HB := uB HB hb; (try clear hb)) | ((with_reducible refine gD 6 ?_); refine bxE 6 25 #[.int .i64 0, .int .i64 0, .int .i64 0, .int .i64 0, .int .i64 0] fun gb185 w33 hg hbox hb => ?_; have BK185 := Aside0.mk hbox; have GE185 := gB HB hg; have ⟨NB174_185, NB185_174⟩ := nB BK174 hg; have ⟨NB175_185, NB185_175⟩ := nB BK175 hg; have ⟨NB176_185, NB185_176⟩ := nB BK176 hg; replace BK174 := uK BK174 hb; replace BK175 := uK BK175 hb; replace BK176 := uK BK176 hb; replace HB := uB HB hb; clear hb hbox hg; have hnb34 := NB185_174.out; have hnc34 := NB174_185.out; have hnb35 := NB185_175.out; have hnc35 := NB175_185.out; have hnb36 := NB185_176.out; have hnc36 := NB176_185.out; have ⟨hcz37_0, hcz37_1, hcz37_2, hcz37_3, hcz37_4, hfz37_0⟩ := cz5 BK185; have ⟨hcz38_0, hcz38_1, hcz38_2, hcz38_3, hcz38_4, hfz38_0⟩ := cz5 BK176))
     refine bodyPost_ret (results_ct rfl _ _ gb176 25 #[.int .i64 t179, .int .i64 t180, .int .i64 t181, .int .i64 t182, .int .i64 t183] (0, 0) _ rfl (by exact pW BK176) Try.underlying25 rfl (by kernel_rfl)) rfl ?_
     exact ⟨eB, (bW HB)⟩
    ·replace H := iF (by decide) H
     simp only [Option.some.injEq, Prod.mk.injEq] at H
     obtain ⟨rfl, rfl, rfl, rfl, rfl, rfl⟩ := H
     have hnb39 := NB174_175.out
     have hnc39 := NB175_174.out
     have hnb40 := NB174_176.out
     have hnc40 := NB176_174.out
     have ⟨hcz41_0, hcz41_1, hcz41_2, hcz41_3, hcz41_4, hfz41_0⟩ := cz5 BK174
     have hnb42 := NB175_176.out
     have hnc42 := NB176_175.out
     have ⟨hcz43_0, hcz43_1, hfz43_0⟩ := cz2 BK175
     go_wp2_with (first | ((with_reducible refine gC 52 ?_); refine lA (some 20) Try.func52 (spec_l21Make.calls kj2 a0_0 a0_1 a0_2 a0_3 a0_4 a1_0 a1_1 t179 t180 t181 t182 t183 false _ A25.out) ?_; intro w44 hb; replace BK174 := uK BK174 hb; replace BK175 := uK BK175 hb; replace BK176 := uK BK176 hb; replace HB := uB HB hb; (try clear hb)) | ((with_reducible refine gD 6 ?_); refine bxE 6 25 #[.int .i64 0, .int .i64 0, .int .i64 0, .int .i64 0, .int .i64 0] fun gb185 w45 hg hbox hb => ?_; have BK185 := Aside0.mk hbox; have GE185 := gB HB hg; have ⟨NB174_185, NB185_174⟩ := nB BK174 hg; have ⟨NB175_185, NB185_175⟩ := nB BK175 hg; have ⟨NB176_185, NB185_176⟩ := nB BK176 hg; replace BK174 := uK BK174 hb; replace BK175 := uK BK175 hb; replace BK176 := uK BK176 hb; replace HB := uB HB hb; clear hb hbox hg; have hnb46 := NB185_174.out; have hnc46 := NB174_185.out; have hnb47 := NB185_175.out; have hnc47 := NB175_185.out; have hnb48 := NB185_176.out; have hnc48 := NB176_185.out; have ⟨hcz49_0, hcz49_1, hcz49_2, hcz49_3, hcz49_4, hfz49_0⟩ := cz5 BK185; have ⟨hcz50_0, hcz50_1, hcz50_2, hcz50_3, hcz50_4, hfz50_0⟩ := cz5 BK176))
     refine bodyPost_ret (results_ct rfl _ _ gb176 25 #[.int .i64 0, .int .i64 0, .int .i64 0, .int .i64 0, .int .i64 0] (0, 0) _ rfl (by exact pW BK176) Try.underlying25 rfl (by kernel_rfl)) rfl ?_
     exact ⟨eB, (bW HB)⟩

/-! ### impl_isTripStep: function 56 -/
def impl_isTripStep.f (a0_0 a0_1 : Int) : Option (Bool) := if a0_0 = 4 then (some (a0_1 == 0)) else (if a0_0 = 5 then (some (a0_1 == 0)) else ((impl_within.f a0_0 1 6).bind fun t187 => (if t187 = true then (some (decide (a0_1 ≥ 0))) else (some false))))
set_option maxHeartbeats 8000000 in
set_option maxRecDepth 100000 in
theorem impl_isTripStep.calls (a0_0 a0_1 : Int) (r : Bool) (w : World) (h : impl_isTripStep.f a0_0 a0_1 = some r) :
  Calls Try.prog 56 #[.agg #[.int .i64 a0_0, .int .i64 a0_1]] w fun e w' => e = .returned (.bool r) ∧ Below w.heap.size w w' := by
 have hu49 := Try.underlying49
 have HB := Aside0.mk (Below.refl w.heap.size w)
 have H := h
 clear h
 unfold impl_isTripStep.f at H
 replace H := ifI H
 rcases H with ⟨H, -, c2b0, c2b1⟩ | ⟨H, c2, c2b0, c2b1⟩
 ·obtain rfl := Option.some.inj H
  go_enter Try.func56, Try.ntmps56
  go_wp2_with (first | ((with_reducible refine gD 1 ?_); refine bxE 1 49 #[.int .i64 a0_0, .int .i64 a0_1] fun gb186 w3 hg hbox hb => ?_; have BK186 := Aside0.mk hbox; have GE186 := gB HB hg; replace HB := uB HB hb; clear hb hbox hg; have ⟨hcz4_0, hcz4_1, hfz4_0⟩ := cz2 BK186))
  go_ret
  exact ⟨eB, (bW HB)⟩
 ·replace H := ifI H
  rcases H with ⟨H, -, c5b0, c5b1⟩ | ⟨H, c5, c5b0, c5b1⟩
  ·obtain rfl := Option.some.inj H
   go_enter Try.func56, Try.ntmps56
   go_wp2_with (first | ((with_reducible refine gD 1 ?_); refine bxE 1 49 #[.int .i64 a0_0, .int .i64 a0_1] fun gb186 w6 hg hbox hb => ?_; have BK186 := Aside0.mk hbox; have GE186 := gB HB hg; replace HB := uB HB hb; clear hb hbox hg; have ⟨hcz7_0, hcz7_1, hfz7_0⟩ := cz2 BK186))
   go_ret
   exact ⟨eB, (bW HB)⟩
  ·replace H := bA H
   obtain ⟨t187, A8, H⟩ := H
   rcases Bool.eq_false_or_eq_true t187 with rfl | rfl
   ·replace H := iT rfl H
    obtain rfl := Option.some.inj H
    go_enter Try.func56, Try.ntmps56
    go_wp2_with (first | ((with_reducible refine gD 1 ?_); refine bxE 1 49 #[.int .i64 a0_0, .int .i64 a0_1] fun gb186 w10 hg hbox hb => ?_; have BK186 := Aside0.mk hbox; have GE186 := gB HB hg; replace HB := uB HB hb; clear hb hbox hg; have ⟨hcz11_0, hcz11_1, hfz11_0⟩ := cz2 BK186) | ((with_reducible refine gC 46 ?_); refine lA (some 16) Try.func46 (impl_within.calls a0_0 1 6 true _ A8.out) ?_; rintro _ ⟨nd, rfl⟩))
    go_ret
    exact ⟨eB, (bW HB)⟩
   ·replace H := iF (by decide) H
    obtain rfl := Option.some.inj H
    go_enter Try.func56, Try.ntmps56
    go_wp2_with (first | ((with_reducible refine gD 1 ?_); refine bxE 1 49 #[.int .i64 a0_0, .int .i64 a0_1] fun gb186 w12 hg hbox hb => ?_; have BK186 := Aside0.mk hbox; have GE186 := gB HB hg; replace HB := uB HB hb; clear hb hbox hg; have ⟨hcz13_0, hcz13_1, hfz13_0⟩ := cz2 BK186) | ((with_reducible refine gC 46 ?_); refine lA (some 16) Try.func46 (impl_within.calls a0_0 1 6 false _ A8.out) ?_; rintro _ ⟨nd, rfl⟩))
    go_ret
    exact ⟨eB, (bW HB)⟩

end Go.Proofs.Ytmeaacbnjpgepaa.QFnTrips
