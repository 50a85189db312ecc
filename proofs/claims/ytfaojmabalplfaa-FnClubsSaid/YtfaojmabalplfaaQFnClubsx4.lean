/- Contracts of Go functions that FnClubs reaches: the call computes what the plain function says. No condition. -/
import Derived.Test.YtfaojmabalplfaaQFnClubsx0
import Derived.Test.YtfaojmabalplfaaQFnClubsx3
namespace Go.Proofs.Ytfaojmabalplfaa.QFnClubs
open Go.RowKit Go.Proofs.YtfaojmabalplfaaW.PrintWords Go.Proofs.YtfaojmabalplfaaW.PrintLast Go.Proofs.YtfaojmabalplfaaW.PrintMore
attribute [local go_sem] max2_int min2_int max_two min_two max_three min_three max_four min_four   -- for this text's walks alone
set_option linter.unusedVariables false
set_option linter.unusedSimpArgs false

/-! ### spec_SharedLegs: function 25 -/
def spec_SharedLegs.f (k : Nat) (l0 : List (S70)) (l1 : List (S70)) : Option ((List (S64)) × Bool) := (spec_l4Legs.f k l0).bind fun t122 => (if t122 = true then ((spec_l4Legs.f k l1).bind fun t123 => (if t123 = true then ((spec_l20Pairs.f k l0 l1).bind fun t124 => (some (t124, true))) else (some ((([] : List (S64))), false)))) else (some ((([] : List (S64))), false)))
theorem spec_SharedLegs.mono : ∀ a0 a1 k, LeO (spec_SharedLegs.f k a0 a1) (spec_SharedLegs.f (k + 1) a0 a1) := by
 intro a0 a1 k
 unfold spec_SharedLegs.f
 repeat' with_reducible first | apply spec_l20Pairs.mono | apply spec_l4Legs.mono | exact LeO.refl _ | exact LeO.none _ | refine LeO.ite ?_ ?_ | refine LeO.bind ?_ (fun _ => ?_)
set_option maxHeartbeats 8000000 in
set_option maxRecDepth 100000 in
theorem spec_SharedLegs.calls (k : Nat) (A0 : Option Addr) (c0 : Nat) (l0 : List (S70)) (A1 : Option Addr) (c1 : Nat) (l1 : List (S70)) (r1 : List (S64)) (r2 : Bool) (w : World) (hr0 : Kd.C k70 w A0 l0.length l0) (hc0 : l0.length ≤ c0) (hr1 : Kd.C k70 w A1 l1.length l1) (hc1 : l1.length ≤ c1) (h : spec_SharedLegs.f k l0 l1 = some (r1, r2)) :
  Calls Try.prog 25 #[.slice A0 l0.length c0, .slice A1 l1.length c1] w fun e w' => ∃ v0_ : Value, e = .returned (.tuple #[v0_, .bool r2]) ∧ Kd.R k64 64 w' w.heap.size (fun _ => True) v0_ r1 ∧ Below w.heap.size w w' := by
 have HR0 := Aside0.mk hr0
 have HC0 := Aside0.mk hc0
 clear hr0 hc0
 have HR1 := Aside0.mk hr1
 have HC1 := Aside0.mk hc1
 clear hr1 hc1
 have HB := Aside0.mk (Below.refl w.heap.size w)
 have H := h
 clear h
 unfold spec_SharedLegs.f at H
 replace H := bA H
 obtain ⟨t122, A3, H⟩ := H
 rcases Bool.eq_false_or_eq_true t122 with rfl | rfl
 ·replace H := iT rfl H
  replace H := bA H
  obtain ⟨t123, A5, H⟩ := H
  rcases Bool.eq_false_or_eq_true t123 with rfl | rfl
  ·replace H := iT rfl H
   replace H := bA H
   obtain ⟨t124, A7, H⟩ := H
   simp only [Option.some.injEq, Prod.mk.injEq] at H
   obtain ⟨rfl, rfl⟩ := H
   go_enter Try.func25, Try.ntmps25
   go_wp2_with (first | ((with_reducible refine gC 59 ?_); refine lA (some 7) Try.func59 (spec_l4Legs.calls k _ _ l0 true _ ?side1 ?side2 A3.out) ?_; (case side1 => repeat (first | exact HR0.out | (with_reducible refine Kd.C_alloc ?_ _) | (with_reducible refine Kd.C_drewN ?_ _) | (with_reducible refine Kd.C_drew ?_))); (case side2 => exact HC0.out); intro w8 hb; replace HB := uB HB hb; (try clear hb); (try clear hk)) | (go_at_call 59; (with_reducible refine (spec_l4Legs.calls k _ _ l1 true _ ?side1 ?side2 A5.out).mono ?_); (case side1 => repeat (first | exact (Kd.C_below HR1.out HB.out) | (with_reducible refine Kd.C_alloc ?_ _) | (with_reducible refine Kd.C_drewN ?_ _) | (with_reducible refine Kd.C_drew ?_))); (case side2 => exact HC1.out); rintro e w9 ⟨rfl, hb⟩; replace HB := uB HB hb; (try clear hb); (try clear hk)) | ((with_reducible refine gate_callee (f := 60) rfl ?_); refine goesL_ (some 17) rfl rfl Try.func60 (by kernel_rfl) rfl #[.slice A0 l0.length c0, .slice A1 l1.length c1] rfl argsB ?_; (with_reducible refine (spec_l20Pairs.calls k _ _ l0 _ _ l1 t124 _ ?side1 ?side2 ?side3 ?side4 A7.out).mono ?_); (case side1 => repeat (first | exact (Kd.C_below HR0.out HB.out) | (with_reducible refine Kd.C_alloc ?_ _) | (with_reducible refine Kd.C_drewN ?_ _) | (with_reducible refine Kd.C_drew ?_))); (case side2 => exact HC0.out); (case side3 => repeat (first | exact (Kd.C_below HR1.out HB.out) | (with_reducible refine Kd.C_alloc ?_ _) | (with_reducible refine Kd.C_drewN ?_ _) | (with_reducible refine Kd.C_drew ?_))); (case side4 => exact HC1.out); rintro e w10 ⟨v125, rfl, ho0, hb⟩; refine ⟨_, rfl, ?_⟩; have HO126 := Aside0.mk (Kd.R_lower ho0 (below_size (bW HB))); replace HB := uB HB hb; (try clear hb); (try clear hk); (try clear ho0)))
   go_ret2
   exact ⟨_, eB, upR HO126.out, (bW HB)⟩
  ·replace H := iF (by decide) H
   obtain ⟨y127, hy127⟩ : ∃ y_ : List (S64), y_ = (([] : List (S64))) := ⟨_, rfl⟩
   replace H : (some (y127, false)) = some (r1, r2) := by first | (rw [hy127]; with_reducible exact H) | (have H2_ := (Option.bind_some _ _).symm.trans H; rw [hy127]; with_reducible exact H2_) | (have H2_ := (Option.bind_some _ _).symm.trans H; with_reducible exact H2_) | with_reducible exact H | (rw [hy127]; exact H) | exact H
   have Ny127 := Aside0.mk hy127
   clear hy127
   simp only [Option.some.injEq, Prod.mk.injEq] at H
   obtain ⟨rfl, rfl⟩ := H
   go_enter Try.func25, Try.ntmps25
   go_wp2_with (first | ((with_reducible refine gC 59 ?_); refine lA (some 7) Try.func59 (spec_l4Legs.calls k _ _ l0 true _ ?side1 ?side2 A3.out) ?_; (case side1 => repeat (first | exact HR0.out | (with_reducible refine Kd.C_alloc ?_ _) | (with_reducible refine Kd.C_drewN ?_ _) | (with_reducible refine Kd.C_drew ?_))); (case side2 => exact HC0.out); intro w11 hb; replace HB := uB HB hb; (try clear hb); (try clear hk)) | (go_at_call 59; (with_reducible refine (spec_l4Legs.calls k _ _ l1 false _ ?side1 ?side2 A5.out).mono ?_); (case side1 => repeat (first | exact (Kd.C_below HR1.out HB.out) | (with_reducible refine Kd.C_alloc ?_ _) | (with_reducible refine Kd.C_drewN ?_ _) | (with_reducible refine Kd.C_drew ?_))); (case side2 => exact HC1.out); rintro e w12 ⟨rfl, hb⟩; replace HB := uB HB hb; (try clear hb); (try clear hk)) | ((with_reducible refine gate_dst (N := 14) rfl ?_); refine Kd.R_lit k64 _ 64 ?hg (N := 14) ?hd (xs := ([] : List (S64))) (inner := []) (ok := fun _ => True) (okp := fun _ => True) ?hr ?hp (fun _ hk => hk) trivial (Below.refl _ _) (Nat.le_refl _) (by simp) ?_; (case hd => rfl); (case hg => rfl); (case hr => first | (go_simp; done) | (go_simp; rfl)); (case hp => exact (Reps.none _ _)); intro v128 w13 ho14 hb hg_ hnew_; clear hg_ hnew_; (first | rw [← Ny127.out] at ho14 | (simp only [Int.reduceToNat] at ho14; rw [← Ny127.out] at ho14)); have HO129 := Aside0.mk (Kd.R_lower ho14 (below_size (bW HB))); replace HB := uB HB hb; clear hb ho14))
   go_ret2
   exact ⟨_, eB, upR HO129.out, (bW HB)⟩
 ·replace H := iF (by decide) H
  obtain ⟨y130, hy130⟩ : ∃ y_ : List (S64), y_ = (([] : List (S64))) := ⟨_, rfl⟩
  replace H : (some (y130, false)) = some (r1, r2) := by first | (rw [hy130]; with_reducible exact H) | (have H2_ := (Option.bind_some _ _).symm.trans H; rw [hy130]; with_reducible exact H2_) | (have H2_ := (Option.bind_some _ _).symm.trans H; with_reducible exact H2_) | with_reducible exact H | (rw [hy130]; exact H) | exact H
  have Ny130 := Aside0.mk hy130
  clear hy130
  simp only [Option.some.injEq, Prod.mk.injEq] at H
  obtain ⟨rfl, rfl⟩ := H
  go_enter Try.func25, Try.ntmps25
  go_wp2_with (first | ((with_reducible refine gC 59 ?_); refine lA (some 7) Try.func59 (spec_l4Legs.calls k _ _ l0 false _ ?side1 ?side2 A3.out) ?_; (case side1 => repeat (first | exact HR0.out | (with_reducible refine Kd.C_alloc ?_ _) | (with_reducible refine Kd.C_drewN ?_ _) | (with_reducible refine Kd.C_drew ?_))); (case side2 => exact HC0.out); intro w15 hb; replace HB := uB HB hb; (try clear hb); (try clear hk)) | ((with_reducible refine gate_dst (N := 14) rfl ?_); refine Kd.R_lit k64 _ 64 ?hg (N := 14) ?hd (xs := ([] : List (S64))) (inner := []) (ok := fun _ => True) (okp := fun _ => True) ?hr ?hp (fun _ hk => hk) trivial (Below.refl _ _) (Nat.le_refl _) (by simp) ?_; (case hd => rfl); (case hg => rfl); (case hr => first | (go_simp; done) | (go_simp; rfl)); (case hp => exact (Reps.none _ _)); intro v131 w16 ho17 hb hg_ hnew_; clear hg_ hnew_; (first | rw [← Ny130.out] at ho17 | (simp only [Int.reduceToNat] at ho17; rw [← Ny130.out] at ho17)); have HO132 := Aside0.mk (Kd.R_lower ho17 (below_size (bW HB))); replace HB := uB HB hb; clear hb ho17))
  go_ret2
  exact ⟨_, eB, upR HO132.out, (bW HB)⟩

/-! ### impl_within: function 90 -/
def impl_within.f (a0 a1 a2 : Int) : Option (Bool) := if a0 ≥ a1 then (some (decide (a0 ≤ a2))) else (some false)
set_option maxHeartbeats 8000000 in
set_option maxRecDepth 100000 in
theorem impl_within.calls (a0 a1 a2 : Int) (r : Bool) (w : World) (h : impl_within.f a0 a1 a2 = some r) :
  Calls Try.prog 90 #[.int .i64 a0, .int .i64 a1, .int .i64 a2] w fun e w' => e = .returned (.bool r) ∧ Drawn0 w w' := by
 have H := h
 clear h
 unfold impl_within.f at H
 replace H := ifD H
 rcases H with ⟨H, -, c4b0⟩ | ⟨H, -, c4b0⟩
 ·obtain rfl := Option.some.inj H
  go_enter Try.func90, Try.ntmps90
  go_wp2
  go_ret
  exact ⟨rB, by repeat (first | exact Drawn0.refl _ | apply Drawn0.step)⟩
 ·obtain rfl := Option.some.inj H
  go_enter Try.func90, Try.ntmps90
  go_wp2
  go_ret
  exact ⟨rB, by repeat (first | exact Drawn0.refl _ | apply Drawn0.step)⟩

/-! ### impl_isStation: function 57 -/
def impl_isStation.f (a0 : Int) : Option (Bool) := (impl_within.f a0 0 7).bind fun t133 => (some t133)
set_option maxHeartbeats 8000000 in
set_option maxRecDepth 100000 in
theorem impl_isStation.calls (a0 : Int) (r : Bool) (w : World) (h : impl_isStation.f a0 = some r) :
  Calls Try.prog 57 #[.int .i64 a0] w fun e w' => e = .returned (.bool r) ∧ Drawn0 w w' := by
 have H := h
 clear h
 unfold impl_isStation.f at H
 replace H := bA H
 obtain ⟨t133, A2, H⟩ := H
 obtain rfl := Option.some.inj H
 go_enter Try.func57, Try.ntmps57
 go_wp2_with (first | ((with_reducible refine gC 90 ?_); refine lA (some 4) Try.func90 (impl_within.calls a0 0 7 t133 _ A2.out) ?_; rintro _ ⟨nd, rfl⟩))
 go_ret
 exact ⟨rB, by repeat (first | exact Drawn0.refl _ | apply Drawn0.step)⟩

/-! ### impl_isBearing: function 110 -/
def impl_isBearing.f (a0 : Int) : Option (Bool) := (impl_within.f a0 0 359).bind fun t134 => (some t134)
set_option maxHeartbeats 8000000 in
set_option maxRecDepth 100000 in
theorem impl_isBearing.calls (a0 : Int) (r : Bool) (w : World) (h : impl_isBearing.f a0 = some r) :
  Calls Try.prog 110 #[.int .i64 a0] w fun e w' => e = .returned (.bool r) ∧ Drawn0 w w' := by
 have H := h
 clear h
 unfold impl_isBearing.f at H
 replace H := bA H
 obtain ⟨t134, A2, H⟩ := H
 obtain rfl := Option.some.inj H
 go_enter Try.func110, Try.ntmps110
 go_wp2_with (first | ((with_reducible refine gC 90 ?_); refine lA (some 4) Try.func90 (impl_within.calls a0 0 359 t134 _ A2.out) ?_; rintro _ ⟨nd, rfl⟩))
 go_ret
 exact ⟨rB, by repeat (first | exact Drawn0.refl _ | apply Drawn0.step)⟩

/-! ### impl_IsLeg: function 87 -/
def impl_IsLeg.f (a0_0 a0_1 a0_2 a0_3 a0_4 : Int) : Option (Bool) := (impl_isStation.f a0_0).bind fun t136 => (if t136 = true then ((impl_isStation.f a0_1).bind fun t137 => (if t137 = true then (if a0_0 = a0_1 then (some false) else ((impl_within.f a0_2 1 500).bind fun t138 => (if t138 = true then ((impl_isBearing.f a0_3).bind fun t139 => (if t139 = true then ((impl_within.f a0_4 (-90) 90).bind fun t140 => (some t140)) else (some false))) else (some false)))) else (some false))) else (some false))
set_option maxHeartbeats 8000000 in
set_option maxRecDepth 100000 in
theorem impl_IsLeg.calls (a0_0 a0_1 a0_2 a0_3 a0_4 : Int) (r : Bool) (w : World) (h : impl_IsLeg.f a0_0 a0_1 a0_2 a0_3 a0_4 = some r) :
  Calls Try.prog 87 #[.agg #[.int .i64 a0_0, .int .i64 a0_1, .int .i64 a0_2, .int .i64 a0_3, .int .i64 a0_4]] w fun e w' => e = .returned (.bool r) ∧ Below w.heap.size w w' := by
 have hu70 := Try.underlying70
 have HB := Aside0.mk (Below.refl w.heap.size w)
 have H := h
 clear h
 unfold impl_IsLeg.f at H
 replace H := bA H
 obtain ⟨t136, A2, H⟩ := H
 rcases Bool.eq_false_or_eq_true t136 with rfl | rfl
 ·replace H := iT rfl H
  replace H := bA H
  obtain ⟨t137, A4, H⟩ := H
  rcases Bool.eq_false_or_eq_true t137 with rfl | rfl
  ·replace H := iT rfl H
   replace H := ifI H
   rcases H with ⟨H, -, c6b0, c6b1⟩ | ⟨H, c6, c6b0, c6b1⟩
   ·obtain rfl := Option.some.inj H
    go_enter Try.func87, Try.ntmps87
    go_wp2_with (first | ((with_reducible refine gD 1 ?_); refine bxE 1 70 #[.int .i64 a0_0, .int .i64 a0_1, .int .i64 a0_2, .int .i64 a0_3, .int .i64 a0_4] fun gb135 w7 hg hbox hb => ?_; have BK135 := Aside0.mk hbox; have GE135 := gB HB hg; replace HB := uB HB hb; clear hb hbox hg; have ⟨hcz8_0, hcz8_1, hcz8_2, hcz8_3, hcz8_4, hfz8_0⟩ := cz5 BK135) | ((with_reducible refine gC 57 ?_); refine lA (some 5) Try.func57 (impl_isStation.calls a0_0 true _ A2.out) ?_; rintro _ ⟨nd, rfl⟩) | (go_at_call 57; (with_reducible refine (impl_isStation.calls a0_1 true _ A4.out).mono ?_); rintro e w' ⟨rfl, ⟨nd, rfl⟩⟩))
    go_ret
    exact ⟨eB, (bW HB)⟩
   ·replace H := bA H
    obtain ⟨t138, A9, H⟩ := H
    rcases Bool.eq_false_or_eq_true t138 with rfl | rfl
    ·replace H := iT rfl H
     replace H := bA H
     obtain ⟨t139, A11, H⟩ := H
     rcases Bool.eq_false_or_eq_true t139 with rfl | rfl
     ·replace H := iT rfl H
      replace H := bA H
      obtain ⟨t140, A13, H⟩ := H
      obtain rfl := Option.some.inj H
      go_enter Try.func87, Try.ntmps87
      go_wp2_with (first | ((with_reducible refine gD 1 ?_); refine bxE 1 70 #[.int .i64 a0_0, .int .i64 a0_1, .int .i64 a0_2, .int .i64 a0_3, .int .i64 a0_4] fun gb135 w14 hg hbox hb => ?_; have BK135 := Aside0.mk hbox; have GE135 := gB HB hg; replace HB := uB HB hb; clear hb hbox hg; have ⟨hcz15_0, hcz15_1, hcz15_2, hcz15_3, hcz15_4, hfz15_0⟩ := cz5 BK135) | ((with_reducible refine gC 57 ?_); refine lA (some 5) Try.func57 (impl_isStation.calls a0_0 true _ A2.out) ?_; rintro _ ⟨nd, rfl⟩) | (go_at_call 57; (with_reducible refine (impl_isStation.calls a0_1 true _ A4.out).mono ?_); rintro e w' ⟨rfl, ⟨nd, rfl⟩⟩) | (go_at_call 90; (with_reducible refine (impl_within.calls a0_2 1 500 true _ A9.out).mono ?_); rintro e w' ⟨rfl, ⟨nd, rfl⟩⟩) | (go_at_call 110; (with_reducible refine (impl_isBearing.calls a0_3 true _ A11.out).mono ?_); rintro e w' ⟨rfl, ⟨nd, rfl⟩⟩) | (go_at_call 90; (with_reducible refine (impl_within.calls a0_4 (-90) 90 t140 _ A13.out).mono ?_); rintro e w' ⟨rfl, ⟨nd, rfl⟩⟩))
      go_ret
      exact ⟨eB, (bW HB)⟩
     ·replace H := iF (by decide) H
      obtain rfl := Option.some.inj H
      go_enter Try.func87, Try.ntmps87
      go_wp2_with (first | ((with_reducible refine gD 1 ?_); refine bxE 1 70 #[.int .i64 a0_0, .int .i64 a0_1, .int .i64 a0_2, .int .i64 a0_3, .int .i64 a0_4] fun gb135 w16 hg hbox hb => ?_; have BK135 := Aside0.mk hbox; have GE135 := gB HB hg; replace HB := uB HB hb; clear hb hbox hg; have ⟨hcz17_0, hcz17_1, hcz17_2, hcz17_3, hcz17_4, hfz17_0⟩ := cz5 BK135) | ((with_reducible refine gC 57 ?_); refine lA (some 5) Try.func57 (impl_isStation.calls a0_0 true _ A2.out) ?_; rintro _ ⟨nd, rfl⟩) | (go_at_call 57; (with_reducible refine (impl_isStation.calls a0_1 true _ A4.out).mono ?_); rintro e w' ⟨rfl, ⟨nd, rfl⟩⟩) | (go_at_call 90; (with_reducible refine (impl_within.calls a0_2 1 500 true _ A9.out).mono ?_); rintro e w' ⟨rfl, ⟨nd, rfl⟩⟩) | (go_at_call 110; (with_reducible refine (impl_isBearing.calls a0_3 false _ A11.out).mono ?_); rintro e w' ⟨rfl, ⟨nd, rfl⟩⟩))
      go_ret
      exact ⟨eB, (bW HB)⟩
    ·replace H := iF (by decide) H
     obtain rfl := Option.some.inj H
     go_enter Try.func87, Try.ntmps87
     go_wp2_with (first | ((with_reducible refine gD 1 ?_); refine bxE 1 70 #[.int .i64 a0_0, .int .i64 a0_1, .int .i64 a0_2, .int .i64 a0_3, .int .i64 a0_4] fun gb135 w18 hg hbox hb => ?_; have BK135 := Aside0.mk hbox; have GE135 := gB HB hg; replace HB := uB HB hb; clear hb hbox hg; have ⟨hcz19_0, hcz19_1, hcz19_2, hcz19_3, hcz19_4, hfz19_0⟩ := cz5 BK135) | ((with_reducible refine gC 57 ?_); refine lA (some 5) Try.func57 (impl_isStation.calls a0_0 true _ A2.out) ?_; rintro _ ⟨nd, rfl⟩) | (go_at_call 57; (with_reducible refine (impl_isStation.calls a0_1 true _ A4.out).mono ?_); rintro e w' ⟨rfl, ⟨nd, rfl⟩⟩) | (go_at_call 90; (with_reducible refine (impl_within.calls a0_2 1 500 false _ A9.out).mono ?_); rintro e w' ⟨rfl, ⟨nd, rfl⟩⟩))
     go_ret
     exact ⟨eB, (bW HB)⟩
  ·replace H := iF (by decide) H
   obtain rfl := Option.some.inj H
   go_enter Try.func87, Try.ntmps87
   go_wp2_with (first | ((with_reducible refine gD 1 ?_); refine bxE 1 70 #[.int .i64 a0_0, .int .i64 a0_1, .int .i64 a0_2, .int .i64 a0_3, .int .i64 a0_4] fun gb135 w20 hg hbox hb => ?_; have BK135 := Aside0.mk hbox; have GE135 := gB HB hg; replace HB := uB HB hb; clear hb hbox hg; have ⟨hcz21_0, hcz21_1, hcz21_2, hcz21_3, hcz21_4, hfz21_0⟩ := cz5 BK135) | ((with_reducible refine gC 57 ?_); refine lA (some 5) Try.func57 (impl_isStation.calls a0_0 true _ A2.out) ?_; rintro _ ⟨nd, rfl⟩) | (go_at_call 57; (with_reducible refine (impl_isStation.calls a0_1 false _ A4.out).mono ?_); rintro e w' ⟨rfl, ⟨nd, rfl⟩⟩))
   go_ret
   exact ⟨eB, (bW HB)⟩
 ·replace H := iF (by decide) H
  obtain rfl := Option.some.inj H
  go_enter Try.func87, Try.ntmps87
  go_wp2_with (first | ((with_reducible refine gD 1 ?_); refine bxE 1 70 #[.int .i64 a0_0, .int .i64 a0_1, .int .i64 a0_2, .int .i64 a0_3, .int .i64 a0_4] fun gb135 w22 hg hbox hb => ?_; have BK135 := Aside0.mk hbox; have GE135 := gB HB hg; replace HB := uB HB hb; clear hb hbox hg; have ⟨hcz23_0, hcz23_1, hcz23_2, hcz23_3, hcz23_4, hfz23_0⟩ := cz5 BK135) | ((with_reducible refine gC 57 ?_); refine lA (some 5) Try.func57 (impl_isStation.calls a0_0 false _ A2.out) ?_; rintro _ ⟨nd, rfl⟩))
  go_ret
  exact ⟨eB, (bW HB)⟩

/-! ### impl_areLegs: function 62 -/
def impl_areLegs.l0 : Nat → List (S70) → List (S70) → Int → Int → Option (Bool)
 | 0, _, _, _, _ => none
 | k + 1, x0, x5, x6, x7 => if x7 < x6 then (if 0 ≤ x7 then (if x7 < (x5.length : Int) then ((impl_IsLeg.f ((rd_T70 x5 x7).f0) ((rd_T70 x5 x7).f1) ((rd_T70 x5 x7).f2) ((rd_T70 x5 x7).f3) ((rd_T70 x5 x7).f4)).bind fun t143 => (if t143 = true then (impl_areLegs.l0 k x0 x5 x6 (wrap64 (x7 + 1))) else (some false))) else (none)) else (none)) else (some (decide ((x0.length : Int) ≤ 12)))
def impl_areLegs.f (k : Nat) (l0 : List (S70)) : Option (Bool) := impl_areLegs.l0 k l0 l0 (l0.length : Int) 0
theorem impl_areLegs.mono_l : ∀ k, (∀ y0 y1 y2 y3, LeO (impl_areLegs.l0 k y0 y1 y2 y3) (impl_areLegs.l0 (k + 1) y0 y1 y2 y3))
 | 0 => fun _ _ _ _ r h => by simp [impl_areLegs.l0] at h
 | k + 1 => by
  have ih0 := impl_areLegs.mono_l k
  ·intro y0 y1 y2 y3
   unfold impl_areLegs.l0
   repeat' with_reducible first | apply ih0 | exact LeO.refl _ | exact LeO.none _ | refine LeO.ite ?_ ?_ | refine LeO.bind ?_ (fun _ => ?_)
theorem impl_areLegs.mono : ∀ a0 k, LeO (impl_areLegs.f k a0) (impl_areLegs.f (k + 1) a0) := by
 intro a0 k
 have ih0 := impl_areLegs.mono_l k
 unfold impl_areLegs.f
 repeat' with_reducible first | apply ih0 | exact LeO.refl _ | exact LeO.none _ | refine LeO.ite ?_ ?_ | refine LeO.bind ?_ (fun _ => ?_)
set_option maxHeartbeats 8000000 in
set_option maxRecDepth 100000 in
theorem impl_areLegs.calls (k : Nat) (A0 : Option Addr) (c0 : Nat) (l0 : List (S70)) (r : Bool) (w : World) (hr0 : Kd.C k70 w A0 l0.length l0) (hc0 : l0.length ≤ c0) (h : impl_areLegs.f k l0 = some r) :
  Calls Try.prog 62 #[.slice A0 l0.length c0] w fun e w' => e = .returned (.bool r) ∧ Below w.heap.size w w' := by
 have hu70 := Try.underlying70
 have HR0 := Aside0.mk hr0
 have HC0 := Aside0.mk hc0
 clear hr0 hc0
 have HB := Aside0.mk (Below.refl w.heap.size w)
 have H : (impl_areLegs.l0 k l0 l0 (l0.length : Int) 0) = some r := h
 clear h
 have H' := Aside0.mk H
 clear H
 go_enter Try.func62, Try.ntmps62
 go_wp2
 go_loopg [7] k (fun kq v7 w' => ∃ (x7_1 : Int), v7 = .int .i64 x7_1 ∧ Aside0 (impl_areLegs.l0 kq l0 l0 (l0.length : Int) x7_1 = some r) ∧ Aside0 (kq ≤ k) ∧ Aside0 (Below w.heap.size w w'))
 case atStart => exact ⟨(0), rB, H', ⟨Nat.le_refl _⟩, (aB HB)⟩
 case round =>
  clear H'
  obtain ⟨x7_1, rfl, HA, HK1, HB⟩ := hrel
  cases gk with
  | zero => exact absurd HA.out (by simp [impl_areLegs.l0])
  | succ k1 =>
   have H := HA.out
   clear HA
   simp only [impl_areLegs.l0] at H
   replace H := ifD H
   rcases H with ⟨H, -, c2b0⟩ | ⟨H, -, c2b0⟩
   ·by_cases c3 : 0 ≤ x7_1
    ·rw [if_pos c3] at H
     have c3b0 : decide (0 ≤ x7_1) = true := decide_eq_true c3
     clear c3
     by_cases c4 : x7_1 < (l0.length : Int)
     ·rw [if_pos c4] at H
      have c4b0 : decide (x7_1 < (l0.length : Int)) = true := decide_eq_true c4
      clear c4
      replace H := bA H
      obtain ⟨t143, A5, H⟩ := H
      rcases Bool.eq_false_or_eq_true t143 with rfl | rfl
      ·replace H := iT rfl H
       have H' := Aside0.mk H
       clear H
       have p141 : 0 ≤ (x7_1 : Int) := of_decide_eq_true asmB
       have q141 : x7_1 < (l0.length : Int) := of_decide_eq_true asmB
       obtain ⟨ad141, e141, hx141_0, hx141_1, hx141_2, hx141_3, hx141_4⟩ := at_T70 HR0.out x7_1 p141 q141
       cases e141
       replace hx141_0 := bx HB.out hx141_0
       replace hx141_1 := bx HB.out hx141_1
       replace hx141_2 := bx HB.out hx141_2
       replace hx141_3 := bx HB.out hx141_3
       replace hx141_4 := bx HB.out hx141_4
       replace p141 := eq_true p141
       replace q141 := eq_true q141
       go_wp2_with (first | ((with_reducible refine gD 4 ?_); refine bxE 4 70 #[.int .i64 0, .int .i64 0, .int .i64 0, .int .i64 0, .int .i64 0] fun gb142 w7 hg hbox hb => ?_; have BK142 := Aside0.mk hbox; have GE142 := gB HB hg; replace HB := uB HB hb; clear hb hbox hg; have ⟨hcz8_0, hcz8_1, hcz8_2, hcz8_3, hcz8_4, hfz8_0⟩ := cz5 BK142) | ((with_reducible refine gC 87 ?_); refine lA (some 12) Try.func87 (impl_IsLeg.calls ((rd_T70 l0 x7_1).f0) ((rd_T70 l0 x7_1).f1) ((rd_T70 l0 x7_1).f2) ((rd_T70 l0 x7_1).f3) ((rd_T70 l0 x7_1).f4) true _ A5.out) ?_; intro w9 hb; replace BK142 := uQ BK142 hb #[.int .i64 ((rd_T70 l0 x7_1).f0), .int .i64 ((rd_T70 l0 x7_1).f1), .int .i64 ((rd_T70 l0 x7_1).f2), .int .i64 ((rd_T70 l0 x7_1).f3), .int .i64 ((rd_T70 l0 x7_1).f4)]; replace HB := uB HB hb; (try clear hb)))
       go_roundg k1
       case measure => have := HK1.out; omega
       case rel => exact ⟨(wrap64 (x7_1 + 1)), rB, H', ⟨by have := HK1.out; omega⟩, (aB HB)⟩
      ·replace H := iF (by decide) H
       obtain rfl := Option.some.inj H
       have p141 : 0 ≤ (x7_1 : Int) := of_decide_eq_true asmB
       have q141 : x7_1 < (l0.length : Int) := of_decide_eq_true asmB
       obtain ⟨ad141, e141, hx141_0, hx141_1, hx141_2, hx141_3, hx141_4⟩ := at_T70 HR0.out x7_1 p141 q141
       cases e141
       replace hx141_0 := bx HB.out hx141_0
       replace hx141_1 := bx HB.out hx141_1
       replace hx141_2 := bx HB.out hx141_2
       replace hx141_3 := bx HB.out hx141_3
       replace hx141_4 := bx HB.out hx141_4
       replace p141 := eq_true p141
       replace q141 := eq_true q141
       go_wp2_with (first | ((with_reducible refine gD 4 ?_); refine bxE 4 70 #[.int .i64 0, .int .i64 0, .int .i64 0, .int .i64 0, .int .i64 0] fun gb142 w10 hg hbox hb => ?_; have BK142 := Aside0.mk hbox; have GE142 := gB HB hg; replace HB := uB HB hb; clear hb hbox hg; have ⟨hcz11_0, hcz11_1, hcz11_2, hcz11_3, hcz11_4, hfz11_0⟩ := cz5 BK142) | ((with_reducible refine gC 87 ?_); refine lA (some 12) Try.func87 (impl_IsLeg.calls ((rd_T70 l0 x7_1).f0) ((rd_T70 l0 x7_1).f1) ((rd_T70 l0 x7_1).f2) ((rd_T70 l0 x7_1).f3) ((rd_T70 l0 x7_1).f4) false _ A5.out) ?_; intro w12 hb; replace BK142 := uQ BK142 hb #[.int .i64 ((rd_T70 l0 x7_1).f0), .int .i64 ((rd_T70 l0 x7_1).f1), .int .i64 ((rd_T70 l0 x7_1).f2), .int .i64 ((rd_T70 l0 x7_1).f3), .int .i64 ((rd_T70 l0 x7_1).f4)]; replace HB := uB HB hb; (try clear hb)))
       go_ret
       exact ⟨eB, (bW HB)⟩
     ·rw [if_neg c4] at H
      exact absurd H (by simp)
    ·rw [if_neg c3] at H
     exact absurd H (by simp)
   ·obtain rfl := Option.some.inj H
    go_wp2
    go_ret
    exact ⟨eB, (bW HB)⟩

/-! ### impl_SharedLegs_1: function 64 -/
def impl_SharedLegs_1.f (a0_0 a0_1 a0_2 a0_3 a0_4 a1_0 a1_1 a1_2 a1_3 a1_4 : Int) : Option (Bool) := some true
set_option maxHeartbeats 8000000 in
set_option maxRecDepth 100000 in
theorem impl_SharedLegs_1.calls (a0_0 a0_1 a0_2 a0_3 a0_4 a1_0 a1_1 a1_2 a1_3 a1_4 : Int) (r : Bool) (w : World) (h : impl_SharedLegs_1.f a0_0 a0_1 a0_2 a0_3 a0_4 a1_0 a1_1 a1_2 a1_3 a1_4 = some r) :
  Calls Try.prog 64 #[.agg #[.int .i64 a0_0, .int .i64 a0_1, .int .i64 a0_2, .int .i64 a0_3, .int .i64 a0_4], .agg #[.int .i64 a1_0, .int .i64 a1_1, .int .i64 a1_2, .int .i64 a1_3, .int .i64 a1_4]] w fun e w' => e = .returned (.bool r) ∧ Below w.heap.size w w' := by
 have hu70 := Try.underlying70
 have HB := Aside0.mk (Below.refl w.heap.size w)
 have H : (some true) = some r := h
 clear h
 obtain rfl := Option.some.inj H
 go_enter Try.func64, Try.ntmps64
 go_wp2_with (first | ((with_reducible refine gD 2 ?_); refine bxE 2 70 #[.int .i64 a0_0, .int .i64 a0_1, .int .i64 a0_2, .int .i64 a0_3, .int .i64 a0_4] fun gb144 w3 hg hbox hb => ?_; have BK144 := Aside0.mk hbox; have GE144 := gB HB hg; replace HB := uB HB hb; clear hb hbox hg) | ((with_reducible refine gD 3 ?_); refine bxE 3 70 #[.int .i64 a1_0, .int .i64 a1_1, .int .i64 a1_2, .int .i64 a1_3, .int .i64 a1_4] fun gb145 w4 hg hbox hb => ?_; have BK145 := Aside0.mk hbox; have GE145 := gB HB hg; have ⟨NB144_145, NB145_144⟩ := nB BK144 hg; replace BK144 := uK BK144 hb; replace HB := uB HB hb; clear hb hbox hg))
 go_ret
 exact ⟨eB, (bW HB)⟩

/-! ### impl_joins: function 70 -/
def impl_joins.f (a0_0 a0_1 a0_2 a0_3 a0_4 a1_0 a1_1 a1_2 a1_3 a1_4 : Int) : Option (Bool) := if a0_0 = a1_0 then (if a0_1 = a1_1 then (some true) else (if a0_0 = a1_1 then (some (a0_1 == a1_0)) else (some false))) else (if a0_0 = a1_1 then (some (a0_1 == a1_0)) else (some false))
set_option maxHeartbeats 8000000 in
set_option maxRecDepth 100000 in
theorem impl_joins.calls (a0_0 a0_1 a0_2 a0_3 a0_4 a1_0 a1_1 a1_2 a1_3 a1_4 : Int) (r : Bool) (w : World) (h : impl_joins.f a0_0 a0_1 a0_2 a0_3 a0_4 a1_0 a1_1 a1_2 a1_3 a1_4 = some r) :
  Calls Try.prog 70 #[.agg #[.int .i64 a0_0, .int .i64 a0_1, .int .i64 a0_2, .int .i64 a0_3, .int .i64 a0_4], .agg #[.int .i64 a1_0, .int .i64 a1_1, .int .i64 a1_2, .int .i64 a1_3, .int .i64 a1_4]] w fun e w' => e = .returned (.bool r) ∧ Below w.heap.size w w' := by
 have hu70 := Try.underlying70
 have HB := Aside0.mk (Below.refl w.heap.size w)
 have H := h
 clear h
 unfold impl_joins.f at H
 replace H := ifI H
 rcases H with ⟨H, -, c3b0, c3b1⟩ | ⟨H, c3, c3b0, c3b1⟩
 ·replace H := ifI H
  rcases H with ⟨H, -, c4b0, c4b1⟩ | ⟨H, c4, c4b0, c4b1⟩
  ·obtain rfl := Option.some.inj H
   go_enter Try.func70, Try.ntmps70
   go_wp2_with (first | ((with_reducible refine gD 2 ?_); refine bxE 2 70 #[.int .i64 a0_0, .int .i64 a0_1, .int .i64 a0_2, .int .i64 a0_3, .int .i64 a0_4] fun gb146 w5 hg hbox hb => ?_; have BK146 := Aside0.mk hbox; have GE146 := gB HB hg; replace HB := uB HB hb; clear hb hbox hg) | ((with_reducible refine gD 3 ?_); refine bxE 3 70 #[.int .i64 a1_0, .int .i64 a1_1, .int .i64 a1_2, .int .i64 a1_3, .int .i64 a1_4] fun gb147 w6 hg hbox hb => ?_; have BK147 := Aside0.mk hbox; have GE147 := gB HB hg; have ⟨NB146_147, NB147_146⟩ := nB BK146 hg; replace BK146 := uK BK146 hb; replace HB := uB HB hb; clear hb hbox hg; have hnb7 := NB146_147.out; have hnc7 := NB147_146.out; have ⟨hcz8_0, hcz8_1, hcz8_2, hcz8_3, hcz8_4, hfz8_0⟩ := cz5 BK146; have ⟨hcz9_0, hcz9_1, hcz9_2, hcz9_3, hcz9_4, hfz9_0⟩ := cz5 BK147))
   go_ret
   exact ⟨eB, (bW HB)⟩
  ·replace H := ifI H
   rcases H with ⟨H, -, c10b0, c10b1⟩ | ⟨H, c10, c10b0, c10b1⟩
   ·obtain rfl := Option.some.inj H
    go_enter Try.func70, Try.ntmps70
    go_wp2_with (first | ((with_reducible refine gD 2 ?_); refine bxE 2 70 #[.int .i64 a0_0, .int .i64 a0_1, .int .i64 a0_2, .int .i64 a0_3, .int .i64 a0_4] fun gb146 w11 hg hbox hb => ?_; have BK146 := Aside0.mk hbox; have GE146 := gB HB hg; replace HB := uB HB hb; clear hb hbox hg) | ((with_reducible refine gD 3 ?_); refine bxE 3 70 #[.int .i64 a1_0, .int .i64 a1_1, .int .i64 a1_2, .int .i64 a1_3, .int .i64 a1_4] fun gb147 w12 hg hbox hb => ?_; have BK147 := Aside0.mk hbox; have GE147 := gB HB hg; have ⟨NB146_147, NB147_146⟩ := nB BK146 hg; replace BK146 := uK BK146 hb; replace HB := uB HB hb; clear hb hbox hg; have hnb13 := NB146_147.out; have hnc13 := NB147_146.out; have ⟨hcz14_0, hcz14_1, hcz14_2, hcz14_3, hcz14_4, hfz14_0⟩ := cz5 BK146; have ⟨hcz15_0, hcz15_1, hcz15_2, hcz15_3, hcz15_4, hfz15_0⟩ := cz5 BK147))
    go_ret
    exact ⟨eB, (bW HB)⟩
   ·obtain rfl := Option.some.inj H
    go_enter Try.func70, Try.ntmps70
    go_wp2_with (first | ((with_reducible refine gD 2 ?_); refine bxE 2 70 #[.int .i64 a0_0, .int .i64 a0_1, .int .i64 a0_2, .int .i64 a0_3, .int .i64 a0_4] fun gb146 w16 hg hbox hb => ?_; have BK146 := Aside0.mk hbox; have GE146 := gB HB hg; replace HB := uB HB hb; clear hb hbox hg) | ((with_reducible refine gD 3 ?_); refine bxE 3 70 #[.int .i64 a1_0, .int .i64 a1_1, .int .i64 a1_2, .int .i64 a1_3, .int .i64 a1_4] fun gb147 w17 hg hbox hb => ?_; have BK147 := Aside0.mk hbox; have GE147 := gB HB hg; have ⟨NB146_147, NB147_146⟩ := nB BK146 hg; replace BK146 := uK BK146 hb; replace HB := uB HB hb; clear hb hbox hg; have hnb18 := NB146_147.out; have hnc18 := NB147_146.out; have ⟨hcz19_0, hcz19_1, hcz19_2, hcz19_3, hcz19_4, hfz19_0⟩ := cz5 BK146; have ⟨hcz20_0, hcz20_1, hcz20_2, hcz20_3, hcz20_4, hfz20_0⟩ := cz5 BK147))
    go_ret
    exact ⟨eB, (bW HB)⟩
 ·replace H := ifI H
  rcases H with ⟨H, -, c21b0, c21b1⟩ | ⟨H, c21, c21b0, c21b1⟩
  ·obtain rfl := Option.some.inj H
   go_enter Try.func70, Try.ntmps70
   go_wp2_with (first | ((with_reducible refine gD 2 ?_); refine bxE 2 70 #[.int .i64 a0_0, .int .i64 a0_1, .int .i64 a0_2, .int .i64 a0_3, .int .i64 a0_4] fun gb146 w22 hg hbox hb => ?_; have BK146 := Aside0.mk hbox; have GE146 := gB HB hg; replace HB := uB HB hb; clear hb hbox hg) | ((with_reducible refine gD 3 ?_); refine bxE 3 70 #[.int .i64 a1_0, .int .i64 a1_1, .int .i64 a1_2, .int .i64 a1_3, .int .i64 a1_4] fun gb147 w23 hg hbox hb => ?_; have BK147 := Aside0.mk hbox; have GE147 := gB HB hg; have ⟨NB146_147, NB147_146⟩ := nB BK146 hg; replace BK146 := uK BK146 hb; replace HB := uB HB hb; clear hb hbox hg; have hnb24 := NB146_147.out; have hnc24 := NB147_146.out; have ⟨hcz25_0, hcz25_1, hcz25_2, hcz25_3, hcz25_4, hfz25_0⟩ := cz5 BK146; have ⟨hcz26_0, hcz26_1, hcz26_2, hcz26_3, hcz26_4, hfz26_0⟩ := cz5 BK147))
   go_ret
   exact ⟨eB, (bW HB)⟩
  ·obtain rfl := Option.some.inj H
   go_enter Try.func70, Try.ntmps70
   go_wp2_with (first | ((with_reducible refine gD 2 ?_); refine bxE 2 70 #[.int .i64 a0_0, .int .i64 a0_1, .int .i64 a0_2, .int .i64 a0_3, .int .i64 a0_4] fun gb146 w27 hg hbox hb => ?_; have BK146 := Aside0.mk hbox; have GE146 := gB HB hg; replace HB := uB HB hb; clear hb hbox hg) | ((with_reducible refine gD 3 ?_); refine bxE 3 70 #[.int .i64 a1_0, .int .i64 a1_1, .int .i64 a1_2, .int .i64 a1_3, .int .i64 a1_4] fun gb147 w28 hg hbox hb => ?_; have BK147 := Aside0.mk hbox; have GE147 := gB HB hg; have ⟨NB146_147, NB147_146⟩ := nB BK146 hg; replace BK146 := uK BK146 hb; replace HB := uB HB hb; clear hb hbox hg; have hnb29 := NB146_147.out; have hnc29 := NB147_146.out; have ⟨hcz30_0, hcz30_1, hcz30_2, hcz30_3, hcz30_4, hfz30_0⟩ := cz5 BK146; have ⟨hcz31_0, hcz31_1, hcz31_2, hcz31_3, hcz31_4, hfz31_0⟩ := cz5 BK147))
   go_ret
   exact ⟨eB, (bW HB)⟩

/-! ### impl_back: function 114 -/
def impl_back.f (a0 : Int) : Option (Int) := some (Int.tmod (wrap64 (a0 + 180)) 360)
set_option maxHeartbeats 8000000 in
set_option maxRecDepth 100000 in
theorem impl_back.calls (a0 r : Int) (w : World) (h : impl_back.f a0 = some r) :
  Calls Try.prog 114 #[.int .i64 a0] w fun e w' => e = .returned (.int .i64 r) ∧ Drawn0 w w' := by
 have H : (some (Int.tmod (wrap64 (a0 + 180)) 360)) = some r := h
 clear h
 obtain rfl := Option.some.inj H
 go_enter Try.func114, Try.ntmps114
 go_wp2
 go_ret
 exact ⟨rB, by repeat (first | exact Drawn0.refl _ | apply Drawn0.step)⟩

/-! ### impl_Leg_reverse: function 98 -/
def impl_Leg_reverse.f (a0_0 a0_1 a0_2 a0_3 a0_4 : Int) : Option (Int × Int × Int × Int × Int) := (impl_back.f a0_3).bind fun t150 => (some (a0_1, a0_0, a0_2, t150, wrap64 (-a0_4)))
def impl_Leg_reverse.T1 : Bool × List (List Nat × List Nat) := (true, [([], []), ([0], [0]), ([], []), ([2], [2]), ([], []), ([4], [4]), ([], []), ([6], [6]), ([7], [7]), ([], []), ([9], [9]), ([10], [10]), ([1, 3, 5, 8, 11], [1, 3, 5, 8, 11]), ([12, 8, 0, 1, 2, 3, 4, 5, 6, 7, 8, 9, 10, 11, 12], [12])])
def impl_Leg_reverse.B1 : List Nat := [0, 1, 0, 4, 0, 16, 0, 64, 192, 0, 512, 1536, 4095, 8191]
theorem impl_Leg_reverse.tab1 : rtab .any (opsOf Try.f98 1) = impl_Leg_reverse.T1 := by kernel_rfl
theorem impl_Leg_reverse.bits1 : waitsOk impl_Leg_reverse.T1.2 impl_Leg_reverse.B1 = true := by kernel_rfl
set_option maxHeartbeats 8000000 in
set_option maxRecDepth 100000 in
theorem impl_Leg_reverse.calls (a0_0 a0_1 a0_2 a0_3 a0_4 r1 r2 r3 r4 r5 : Int) (w : World) (h : impl_Leg_reverse.f a0_0 a0_1 a0_2 a0_3 a0_4 = some (r1, r2, r3, r4, r5)) :
  Calls Try.prog 98 #[.agg #[.int .i64 a0_0, .int .i64 a0_1, .int .i64 a0_2, .int .i64 a0_3, .int .i64 a0_4]] w fun e w' => e = .returned (.agg #[.int .i64 r1, .int .i64 r2, .int .i64 r3, .int .i64 r4, .int .i64 r5]) ∧ Below w.heap.size w w' := by
 have hu70 := Try.underlying70
 have HB := Aside0.mk (Below.refl w.heap.size w)
 have H := h
 clear h
 unfold impl_Leg_reverse.f at H
 replace H := bA H
 obtain ⟨t150, A2, H⟩ := H
 simp only [Option.some.injEq, Prod.mk.injEq] at H
 obtain ⟨rfl, rfl, rfl, rfl, rfl⟩ := H
 go_enter Try.func98, Try.ntmps98
 try go_wp2_with (first | ((with_reducible refine gD 1 ?_); refine bxE 1 70 #[.int .i64 a0_0, .int .i64 a0_1, .int .i64 a0_2, .int .i64 a0_3, .int .i64 a0_4] fun gb148 w3 hg hbox hb => ?_; have BK148 := Aside0.mk hbox; have GE148 := gB HB hg; replace HB := uB HB hb; clear hb hbox hg) | ((with_reducible refine gD 2 ?_); refine bxE 2 70 #[.int .i64 0, .int .i64 0, .int .i64 0, .int .i64 0, .int .i64 0] fun gb149 w4 hg hbox hb => ?_; have BK149 := Aside0.mk hbox; have GE149 := gB HB hg; have ⟨NB148_149, NB149_148⟩ := nB BK148 hg; replace BK148 := uK BK148 hb; replace HB := uB HB hb; clear hb hbox hg))
 replace BK148 := dK BK148
 replace BK149 := dK BK149
 replace HB := Aside0.mk (below_drew1 HB.out)
 refine sA (n := 14) (S := fun w' => w'.cell? ⟨gb148, 0, none⟩ = some (.int .i64 a0_0) ∧ w'.cell? ⟨gb148, 1, none⟩ = some (.int .i64 a0_1) ∧ w'.cell? ⟨gb148, 2, none⟩ = some (.int .i64 a0_2) ∧ w'.cell? ⟨gb148, 3, none⟩ = some (.int .i64 a0_3) ∧ w'.cell? ⟨gb148, 4, none⟩ = some (.int .i64 a0_4)) (ds := []) impl_Leg_reverse.tab1 impl_Leg_reverse.bits1 #[false, false, false, false, false, false, false, false, false, false, false, false, false, false] ⟨cb BK148 0, cb BK148 1, cb BK148 2, cb BK148 3, cb BK148 4⟩ fun hHeld HT_ HW_ => ?_
 generalize w4.drew = w5 at BK148 BK149 HB hHeld ⊢
 refine pA 0 3 HT_ ?_
 refine pA 2 5 HT_ ?_
 refine pA 4 7 HT_ ?_
 refine pA 6 9 HT_ ?_
 refine pA 9 12 HT_ ?_
 refine tA 1 4 HT_ HW_ hHeld ?_
 refine tA 3 6 HT_ HW_ hHeld ?_
 refine tA 5 8 HT_ HW_ hHeld ?_
 refine tA 7 10 HT_ HW_ hHeld ?_
 refine tA 10 13 HT_ HW_ hHeld ?_
 refine pA 11 14 HT_ ?_
 refine oA 8 (some 11) HT_ fun K hK => ?_
 refine rA Try.func114 (impl_back.calls a0_3 t150 _ A2.out) ?_
 rintro _ ⟨nd, rfl⟩
 refine hK.out _ _ ⟨cb BK148 0, cb BK148 1, cb BK148 2, cb BK148 3, cb BK148 4⟩ (fun hHeld => ?_)
 clear hK K
 refine nA ?_ (some 11)
 refine pA 12 15 HT_ ?_
 refine oA 13 none HT_ fun K hK => ?_
 have hs6 := ci BK149.out 0 0 rfl
 have hfs6 := blk_frozen BK149.out 0
 have hns6_0 := NB148_149.out
 have hms6_0 := NB149_148.out
 have hs7 := ci BK149.out 1 0 rfl
 have hfs7 := blk_frozen BK149.out 1
 have hs8 := ci BK149.out 2 0 rfl
 have hfs8 := blk_frozen BK149.out 2
 have hs9 := ci BK149.out 3 0 rfl
 have hfs9 := blk_frozen BK149.out 3
 have hs10 := ci BK149.out 4 0 rfl
 have hfs10 := blk_frozen BK149.out 4
 refine skip_ (w1 := ?_) (by rfl) rfl ?_ ?_
 rotate_left
 ·go_simp
  rfl
 refine hK.out _ _ (aF hHeld) (fun hHeld => ?_)
 clear hK K
 refine done_ (done_of HT_.out (by kernel_rfl)) ?_
 try go_wp2
 refine bodyPost_ret (results_cell_row rfl _ _ gb149 70 #[.int .i64 a0_1, .int .i64 a0_0, .int .i64 a0_2, .int .i64 t150, .int .i64 (wrap64 (-a0_4))] (0, 0) _ rfl (by exact pW BK149) Try.underlying70 rfl (by kernel_rfl)) rfl ?_
 exact ⟨eB, (bW HB)⟩

/-! ### impl_absolute: function 100 -/
def impl_absolute.f (a0 : Int) : Option (Int) := some (mx a0 (wrap64 (-a0)))
set_option maxHeartbeats 8000000 in
set_option maxRecDepth 100000 in
theorem impl_absolute.calls (a0 r : Int) (w : World) (h : impl_absolute.f a0 = some r) :
  Calls Try.prog 100 #[.int .i64 a0] w fun e w' => e = .returned (.int .i64 r) ∧ Below w.heap.size w w' := by
 have HB := Aside0.mk (Below.refl w.heap.size w)
 have H : (some (mx a0 (wrap64 (-a0)))) = some r := h
 clear h
 obtain ⟨ji2, hji2⟩ : ∃ j_ : Int, (mx a0 (wrap64 (-a0))) = j_ := ⟨_, rfl⟩
 replace H : (some ji2) = some r := by first | (rw [hji2] at H; exact H) | (simp only [hji2] at H ⊢; exact H)
 have hji2_ : (if a0 < (wrap64 (-a0)) then (wrap64 (-a0)) else a0) = ji2 := hji2
 obtain rfl := Option.some.inj H
 go_enter Try.func100, Try.ntmps100
 go_wp2
 go_ret
 exact ⟨by first | rfl | (simp [errW_none, errW_some] <;> rfl) | (simp only [← hji2]; first | rfl | (simp [errW_none, errW_some] <;> rfl)) | (simp [*, errW_none, errW_some] <;> rfl), (bW HB)⟩

/-! ### impl_turn: function 99 -/
def impl_turn.f (a0 a1 : Int) : Option (Int) := (impl_absolute.f (wrap64 (a0 - a1))).bind fun t151 => (some (mn t151 (wrap64 (360 - t151))))
set_option maxHeartbeats 8000000 in
set_option maxRecDepth 100000 in
theorem impl_turn.calls (a0 a1 r : Int) (w : World) (h : impl_turn.f a0 a1 = some r) :
  Calls Try.prog 99 #[.int .i64 a0, .int .i64 a1] w fun e w' => e = .returned (.int .i64 r) ∧ Below w.heap.size w w' := by
 have HB := Aside0.mk (Below.refl w.heap.size w)
 have H := h
 clear h
 unfold impl_turn.f at H
 replace H := bA H
 obtain ⟨t151, A3, H⟩ := H
 obtain ⟨ji4, hji4⟩ : ∃ j_ : Int, (mn t151 (wrap64 (360 - t151))) = j_ := ⟨_, rfl⟩
 replace H : (some ji4) = some r := by first | (rw [hji4] at H; exact H) | (simp only [hji4] at H ⊢; exact H)
 (try rw [hji4] at A3)
 have hji4_ : (if (wrap64 (360 - t151)) < t151 then (wrap64 (360 - t151)) else t151) = ji4 := hji4
 obtain rfl := Option.some.inj H
 go_enter Try.func99, Try.ntmps99
 go_wp2_with (first | ((with_reducible refine gC 100 ?_); refine lA (some 9) Try.func100 (impl_absolute.calls (wrap64 (a0 - a1)) t151 _ A3.out) ?_; intro w5 hb; replace HB := uB HB hb; (try clear hb)))
 go_ret
 exact ⟨by first | rfl | (simp [errW_none, errW_some] <;> rfl) | (simp only [← hji4]; first | rfl | (simp [errW_none, errW_some] <;> rfl)) | (simp [*, errW_none, errW_some] <;> rfl), (bW HB)⟩

/-! ### impl_agree: function 75 -/
def impl_agree.f (a0_0 a0_1 a0_2 a0_3 a0_4 a1_0 a1_1 a1_2 a1_3 a1_4 a2 a3 : Int) : Option (Bool) := if a1_0 = a0_0 then ((impl_turn.f a0_3 a1_3).bind fun t154 => (if t154 ≤ a2 then ((impl_absolute.f (wrap64 (a0_4 - a1_4))).bind fun t155 => (if t155 ≤ a2 then ((impl_absolute.f (wrap64 (a0_2 - a1_2))).bind fun t156 => (some (decide (t156 ≤ a3)))) else (some false))) else (some false))) else ((impl_Leg_reverse.f a1_0 a1_1 a1_2 a1_3 a1_4).bind fun bt157 => ((impl_turn.f a0_3 bt157.2.2.2.1).bind fun t162 => (if t162 ≤ a2 then ((impl_absolute.f (wrap64 (a0_4 - bt157.2.2.2.2))).bind fun t163 => (if t163 ≤ a2 then ((impl_absolute.f (wrap64 (a0_2 - bt157.2.2.1))).bind fun t164 => (some (decide (t164 ≤ a3)))) else (some false))) else (some false))))
set_option maxHeartbeats 8000000 in
set_option maxRecDepth 100000 in
theorem impl_agree.calls (a0_0 a0_1 a0_2 a0_3 a0_4 a1_0 a1_1 a1_2 a1_3 a1_4 a2 a3 : Int) (r : Bool) (w : World) (h : impl_agree.f a0_0 a0_1 a0_2 a0_3 a0_4 a1_0 a1_1 a1_2 a1_3 a1_4 a2 a3 = some r) :
  Calls Try.prog 75 #[.agg #[.int .i64 a0_0, .int .i64 a0_1, .int .i64 a0_2, .int .i64 a0_3, .int .i64 a0_4], .agg #[.int .i64 a1_0, .int .i64 a1_1, .int .i64 a1_2, .int .i64 a1_3, .int .i64 a1_4], .int .i64 a2, .int .i64 a3] w fun e w' => e = .returned (.bool r) ∧ Below w.heap.size w w' := by
 have hu70 := Try.underlying70
 have HB := Aside0.mk (Below.refl w.heap.size w)
 have H := h
 clear h
 unfold impl_agree.f at H
 replace H := ifI H
 rcases H with ⟨H, -, c5b0, c5b1⟩ | ⟨H, c5, c5b0, c5b1⟩
 ·replace H := bA H
  obtain ⟨t154, A6, H⟩ := H
  replace H := ifD H
  rcases H with ⟨H, -, c7b0⟩ | ⟨H, -, c7b0⟩
  ·replace H := bA H
   obtain ⟨t155, A8, H⟩ := H
   replace H := ifD H
   rcases H with ⟨H, -, c9b0⟩ | ⟨H, -, c9b0⟩
   ·replace H := bA H
    obtain ⟨t156, A10, H⟩ := H
    obtain rfl := Option.some.inj H
    go_enter Try.func75, Try.ntmps75
    go_wp2_with (first | ((with_reducible refine gD 4 ?_); refine bxE 4 70 #[.int .i64 a0_0, .int .i64 a0_1, .int .i64 a0_2, .int .i64 a0_3, .int .i64 a0_4] fun gb152 w11 hg hbox hb => ?_; have BK152 := Aside0.mk hbox; have GE152 := gB HB hg; replace HB := uB HB hb; clear hb hbox hg) | ((with_reducible refine gD 5 ?_); refine bxE 5 70 #[.int .i64 a1_0, .int .i64 a1_1, .int .i64 a1_2, .int .i64 a1_3, .int .i64 a1_4] fun gb153 w12 hg hbox hb => ?_; have BK153 := Aside0.mk hbox; have GE153 := gB HB hg; have ⟨NB152_153, NB153_152⟩ := nB BK152 hg; replace BK152 := uK BK152 hb; replace HB := uB HB hb; clear hb hbox hg; have hnb13 := NB153_152.out; have hnc13 := NB152_153.out; have ⟨hcz14_0, hcz14_1, hcz14_2, hcz14_3, hcz14_4, hfz14_0⟩ := cz5 BK153; have ⟨hcz15_0, hcz15_1, hcz15_2, hcz15_3, hcz15_4, hfz15_0⟩ := cz5 BK152) | ((with_reducible refine gC 99 ?_); refine lA (some 20) Try.func99 (impl_turn.calls a0_3 a1_3 t154 _ A6.out) ?_; intro w16 hb; replace BK152 := uK BK152 hb; replace BK153 := uK BK153 hb; replace HB := uB HB hb; (try clear hb); have ⟨hcz17_0, hcz17_1, hcz17_2, hcz17_3, hcz17_4, hfz17_0⟩ := cz5 BK152; have ⟨hcz18_0, hcz18_1, hcz18_2, hcz18_3, hcz18_4, hfz18_0⟩ := cz5 BK153) | (go_at_call 100; (with_reducible refine (impl_absolute.calls (wrap64 (a0_4 - a1_4)) t155 _ A8.out).mono ?_); rintro e w19 ⟨rfl, hb⟩; replace BK152 := uK BK152 hb; replace BK153 := uK BK153 hb; replace HB := uB HB hb; (try clear hb); have ⟨hcz20_0, hcz20_1, hcz20_2, hcz20_3, hcz20_4, hfz20_0⟩ := cz5 BK152; have ⟨hcz21_0, hcz21_1, hcz21_2, hcz21_3, hcz21_4, hfz21_0⟩ := cz5 BK153) | (go_at_call 100; (with_reducible refine (impl_absolute.calls (wrap64 (a0_2 - a1_2)) t156 _ A10.out).mono ?_); rintro e w22 ⟨rfl, hb⟩; replace BK152 := uK BK152 hb; replace BK153 := uK BK153 hb; replace HB := uB HB hb; (try clear hb)))
    go_ret
    exact ⟨eB, (bW HB)⟩
   ·obtain rfl := Option.some.inj H
    go_enter Try.func75, Try.ntmps75
    go_wp2_with (first | ((with_reducible refine gD 4 ?_); refine bxE 4 70 #[.int .i64 a0_0, .int .i64 a0_1, .int .i64 a0_2, .int .i64 a0_3, .int .i64 a0_4] fun gb152 w23 hg hbox hb => ?_; have BK152 := Aside0.mk hbox; have GE152 := gB HB hg; replace HB := uB HB hb; clear hb hbox hg) | ((with_reducible refine gD 5 ?_); refine bxE 5 70 #[.int .i64 a1_0, .int .i64 a1_1, .int .i64 a1_2, .int .i64 a1_3, .int .i64 a1_4] fun gb153 w24 hg hbox hb => ?_; have BK153 := Aside0.mk hbox; have GE153 := gB HB hg; have ⟨NB152_153, NB153_152⟩ := nB BK152 hg; replace BK152 := uK BK152 hb; replace HB := uB HB hb; clear hb hbox hg; have hnb25 := NB153_152.out; have hnc25 := NB152_153.out; have ⟨hcz26_0, hcz26_1, hcz26_2, hcz26_3, hcz26_4, hfz26_0⟩ := cz5 BK153; have ⟨hcz27_0, hcz27_1, hcz27_2, hcz27_3, hcz27_4, hfz27_0⟩ := cz5 BK152) | ((with_reducible refine gC 99 ?_); refine lA (some 20) Try.func99 (impl_turn.calls a0_3 a1_3 t154 _ A6.out) ?_; intro w28 hb; replace BK152 := uK BK152 hb; replace BK153 := uK BK153 hb; replace HB := uB HB hb; (try clear hb); have ⟨hcz29_0, hcz29_1, hcz29_2, hcz29_3, hcz29_4, hfz29_0⟩ := cz5 BK152; have ⟨hcz30_0, hcz30_1, hcz30_2, hcz30_3, hcz30_4, hfz30_0⟩ := cz5 BK153) | (go_at_call 100; (with_reducible refine (impl_absolute.calls (wrap64 (a0_4 - a1_4)) t155 _ A8.out).mono ?_); rintro e w31 ⟨rfl, hb⟩; replace BK152 := uK BK152 hb; replace BK153 := uK BK153 hb; replace HB := uB HB hb; (try clear hb)))
    go_ret
    exact ⟨eB, (bW HB)⟩
  ·obtain rfl := Option.some.inj H
   go_enter Try.func75, Try.ntmps75
   go_wp2_with (first | ((with_reducible refine gD 4 ?_); refine bxE 4 70 #[.int .i64 a0_0, .int .i64 a0_1, .int .i64 a0_2, .int .i64 a0_3, .int .i64 a0_4] fun gb152 w32 hg hbox hb => ?_; have BK152 := Aside0.mk hbox; have GE152 := gB HB hg; replace HB := uB HB hb; clear hb hbox hg) | ((with_reducible refine gD 5 ?_); refine bxE 5 70 #[.int .i64 a1_0, .int .i64 a1_1, .int .i64 a1_2, .int .i64 a1_3, .int .i64 a1_4] fun gb153 w33 hg hbox hb => ?_; have BK153 := Aside0.mk hbox; have GE153 := gB HB hg; have ⟨NB152_153, NB153_152⟩ := nB BK152 hg; replace BK152 := uK BK152 hb; replace HB := uB HB hb; clear hb hbox hg; have hnb34 := NB153_152.out; have hnc34 := NB152_153.out; have ⟨hcz35_0, hcz35_1, hcz35_2, hcz35_3, hcz35_4, hfz35_0⟩ := cz5 BK153; have ⟨hcz36_0, hcz36_1, hcz36_2, hcz36_3, hcz36_4, hfz36_0⟩ := cz5 BK152) | ((with_reducible refine gC 99 ?_); refine lA (some 20) Try.func99 (impl_turn.calls a0_3 a1_3 t154 _ A6.out) ?_; intro w37 hb; replace BK152 := uK BK152 hb; replace BK153 := uK BK153 hb; replace HB := uB HB hb; (try clear hb)))
   go_ret
   exact ⟨eB, (bW HB)⟩
 ·replace H := Option.bind_eq_some_iff.mp H
  obtain ⟨⟨t157, t158, t159, t160, t161⟩, A380, H⟩ := H
  replace H : ((impl_turn.f a0_3 t160).bind fun t162 => (if t162 ≤ a2 then ((impl_absolute.f (wrap64 (a0_4 - t161))).bind fun t163 => (if t163 ≤ a2 then ((impl_absolute.f (wrap64 (a0_2 - t159))).bind fun t164 => (some (decide (t164 ≤ a3)))) else (some false))) else (some false))) = some r := H
  have A38 := Aside0.mk A380
  clear A380
  replace H := bA H
  obtain ⟨t162, A39, H⟩ := H
  replace H := ifD H
  rcases H with ⟨H, -, c40b0⟩ | ⟨H, -, c40b0⟩
  ·replace H := bA H
   obtain ⟨t163, A41, H⟩ := H
   replace H := ifD H
   rcases H with ⟨H, -, c42b0⟩ | ⟨H, -, c42b0⟩
   ·replace H := bA H
    obtain ⟨t164, A43, H⟩ := H
    obtain rfl := Option.some.inj H
    go_enter Try.func75, Try.ntmps75
    go_wp2_with (first | ((with_reducible refine gD 4 ?_); refine bxE 4 70 #[.int .i64 a0_0, .int .i64 a0_1, .int .i64 a0_2, .int .i64 a0_3, .int .i64 a0_4] fun gb152 w44 hg hbox hb => ?_; have BK152 := Aside0.mk hbox; have GE152 := gB HB hg; replace HB := uB HB hb; clear hb hbox hg) | ((with_reducible refine gD 5 ?_); refine bxE 5 70 #[.int .i64 a1_0, .int .i64 a1_1, .int .i64 a1_2, .int .i64 a1_3, .int .i64 a1_4] fun gb153 w45 hg hbox hb => ?_; have BK153 := Aside0.mk hbox; have GE153 := gB HB hg; have ⟨NB152_153, NB153_152⟩ := nB BK152 hg; replace BK152 := uK BK152 hb; replace HB := uB HB hb; clear hb hbox hg; have hnb46 := NB153_152.out; have hnc46 := NB152_153.out; have ⟨hcz47_0, hcz47_1, hcz47_2, hcz47_3, hcz47_4, hfz47_0⟩ := cz5 BK153; have ⟨hcz48_0, hcz48_1, hcz48_2, hcz48_3, hcz48_4, hfz48_0⟩ := cz5 BK152) | ((with_reducible refine gC 98 ?_); refine lA (some 15) Try.func98 (impl_Leg_reverse.calls a1_0 a1_1 a1_2 a1_3 a1_4 t157 t158 t159 t160 t161 _ A38.out) ?_; intro w49 hb; replace BK152 := uK BK152 hb; replace BK153 := uK BK153 hb; replace HB := uB HB hb; (try clear hb); have ⟨hcz50_0, hcz50_1, hcz50_2, hcz50_3, hcz50_4, hfz50_0⟩ := cz5 BK153; have ⟨hcz51_0, hcz51_1, hcz51_2, hcz51_3, hcz51_4, hfz51_0⟩ := cz5 BK152) | ((with_reducible refine gC 99 ?_); refine lA (some 20) Try.func99 (impl_turn.calls a0_3 t160 t162 _ A39.out) ?_; intro w52 hb; replace BK152 := uQ BK152 hb #[.int .i64 a0_0, .int .i64 a0_1, .int .i64 a0_2, .int .i64 a0_3, .int .i64 a0_4]; replace BK153 := uQ BK153 hb #[.int .i64 t157, .int .i64 t158, .int .i64 t159, .int .i64 t160, .int .i64 t161]; replace HB := uB HB hb; (try clear hb); have ⟨hcz53_0, hcz53_1, hcz53_2, hcz53_3, hcz53_4, hfz53_0⟩ := cz5 BK152; have ⟨hcz54_0, hcz54_1, hcz54_2, hcz54_3, hcz54_4, hfz54_0⟩ := cz5 BK153) | (go_at_call 100; (with_reducible refine (impl_absolute.calls (wrap64 (a0_4 - t161)) t163 _ A41.out).mono ?_); rintro e w55 ⟨rfl, hb⟩; replace BK152 := uK BK152 hb; replace BK153 := uK BK153 hb; replace HB := uB HB hb; (try clear hb); have ⟨hcz56_0, hcz56_1, hcz56_2, hcz56_3, hcz56_4, hfz56_0⟩ := cz5 BK152; have ⟨hcz57_0, hcz57_1, hcz57_2, hcz57_3, hcz57_4, hfz57_0⟩ := cz5 BK153) | (go_at_call 100; (with_reducible refine (impl_absolute.calls (wrap64 (a0_2 - t159)) t164 _ A43.out).mono ?_); rintro e w58 ⟨rfl, hb⟩; replace BK152 := uK BK152 hb; replace BK153 := uK BK153 hb; replace HB := uB HB hb; (try clear hb)))
    go_ret
    exact ⟨eB, (bW HB)⟩
   ·obtain rfl := Option.some.inj H
    go_enter Try.func75, Try.ntmps75
    go_wp2_with (first | ((with_reducible refine gD 4 ?_); refine bxE 4 70 #[.int .i64 a0_0, .int .i64 a0_1, .int .i64 a0_2, .int .i64 a0_3, .int .i64 a0_4] fun gb152 w59 hg hbox hb => ?_; have BK152 := Aside0.mk hbox; have GE152 := gB HB hg; replace HB := uB HB hb; clear hb hbox hg) | ((with_reducible refine gD 5 ?_); refine bxE 5 70 #[.int .i64 a1_0, .int .i64 a1_1, .int .i64 a1_2, .int .i64 a1_3, .int .i64 a1_4] fun gb153 w60 hg hbox hb => ?_; have BK153 := Aside0.mk hbox; have GE153 := gB HB hg; have ⟨NB152_153, NB153_152⟩ := nB BK152 hg; replace BK152 := uK BK152 hb; replace HB := uB HB hb; clear hb hbox hg; have hnb61 := NB153_152.out; have hnc61 := NB152_153.out; have ⟨hcz62_0, hcz62_1, hcz62_2, hcz62_3, hcz62_4, hfz62_0⟩ := cz5 BK153; have ⟨hcz63_0, hcz63_1, hcz63_2, hcz63_3, hcz63_4, hfz63_0⟩ := cz5 BK152) | ((with_reducible refine gC 98 ?_); refine lA (some 15) Try.func98 (impl_Leg_reverse.calls a1_0 a1_1 a1_2 a1_3 a1_4 t157 t158 t159 t160 t161 _ A38.out) ?_; intro w64 hb; replace BK152 := uK BK152 hb; replace BK153 := uK BK153 hb; replace HB := uB HB hb; (try clear hb); have ⟨hcz65_0, hcz65_1, hcz65_2, hcz65_3, hcz65_4, hfz65_0⟩ := cz5 BK153; have ⟨hcz66_0, hcz66_1, hcz66_2, hcz66_3, hcz66_4, hfz66_0⟩ := cz5 BK152) | ((with_reducible refine gC 99 ?_); refine lA (some 20) Try.func99 (impl_turn.calls a0_3 t160 t162 _ A39.out) ?_; intro w67 hb; replace BK152 := uQ BK152 hb #[.int .i64 a0_0, .int .i64 a0_1, .int .i64 a0_2, .int .i64 a0_3, .int .i64 a0_4]; replace BK153 := uQ BK153 hb #[.int .i64 t157, .int .i64 t158, .int .i64 t159, .int .i64 t160, .int .i64 t161]; replace HB := uB HB hb; (try clear hb); have ⟨hcz68_0, hcz68_1, hcz68_2, hcz68_3, hcz68_4, hfz68_0⟩ := cz5 BK152; have ⟨hcz69_0, hcz69_1, hcz69_2, hcz69_3, hcz69_4, hfz69_0⟩ := cz5 BK153) | (go_at_call 100; (with_reducible refine (impl_absolute.calls (wrap64 (a0_4 - t161)) t163 _ A41.out).mono ?_); rintro e w70 ⟨rfl, hb⟩; replace BK152 := uK BK152 hb; replace BK153 := uK BK153 hb; replace HB := uB HB hb; (try clear hb)))
    go_ret
    exact ⟨eB, (bW HB)⟩
  ·obtain rfl := Option.some.inj H
   go_enter Try.func75, Try.ntmps75
   go_wp2_with (first | ((with_reducible refine gD 4 ?_); refine bxE 4 70 #[.int .i64 a0_0, .int .i64 a0_1, .int .i64 a0_2, .int .i64 a0_3, .int .i64 a0_4] fun gb152 w71 hg hbox hb => ?_; have BK152 := Aside0.mk hbox; have GE152 := gB HB hg; replace HB := uB HB hb; clear hb hbox hg) | ((with_reducible refine gD 5 ?_); refine bxE 5 70 #[.int .i64 a1_0, .int .i64 a1_1, .int .i64 a1_2, .int .i64 a1_3, .int .i64 a1_4] fun gb153 w72 hg hbox hb => ?_; have BK153 := Aside0.mk hbox; have GE153 := gB HB hg; have ⟨NB152_153, NB153_152⟩ := nB BK152 hg; replace BK152 := uK BK152 hb; replace HB := uB HB hb; clear hb hbox hg; have hnb73 := NB153_152.out; have hnc73 := NB152_153.out; have ⟨hcz74_0, hcz74_1, hcz74_2, hcz74_3, hcz74_4, hfz74_0⟩ := cz5 BK153; have ⟨hcz75_0, hcz75_1, hcz75_2, hcz75_3, hcz75_4, hfz75_0⟩ := cz5 BK152) | ((with_reducible refine gC 98 ?_); refine lA (some 15) Try.func98 (impl_Leg_reverse.calls a1_0 a1_1 a1_2 a1_3 a1_4 t157 t158 t159 t160 t161 _ A38.out) ?_; intro w76 hb; replace BK152 := uK BK152 hb; replace BK153 := uK BK153 hb; replace HB := uB HB hb; (try clear hb); have ⟨hcz77_0, hcz77_1, hcz77_2, hcz77_3, hcz77_4, hfz77_0⟩ := cz5 BK153; have ⟨hcz78_0, hcz78_1, hcz78_2, hcz78_3, hcz78_4, hfz78_0⟩ := cz5 BK152) | ((with_reducible refine gC 99 ?_); refine lA (some 20) Try.func99 (impl_turn.calls a0_3 t160 t162 _ A39.out) ?_; intro w79 hb; replace BK152 := uQ BK152 hb #[.int .i64 a0_0, .int .i64 a0_1, .int .i64 a0_2, .int .i64 a0_3, .int .i64 a0_4]; replace BK153 := uQ BK153 hb #[.int .i64 t157, .int .i64 t158, .int .i64 t159, .int .i64 t160, .int .i64 t161]; replace HB := uB HB hb; (try clear hb)))
   go_ret
   exact ⟨eB, (bW HB)⟩

/-! ### impl_xDisagree: function 138 -/
-- reaches: impl.agree
def impl_xDisagree.f (a0_0 a0_1 a0_2 a0_3 a0_4 a1_0 a1_1 a1_2 a1_3 a1_4 a2_0 a2_1 : Int) : Option Bool := (impl_agree.f a0_0 a0_1 a0_2 a0_3 a0_4 a1_0 a1_1 a1_2 a1_3 a1_4 a2_0 a2_1).map (!·)
theorem cell_of {w : World} {b : Nat} {v : Value} {t : TypeId} (h : w.heap[b]? = some (.cells #[v] t (0, 0))) : w.cell? ⟨b, 0, none⟩ = some v := (blk_cell h 0).trans rfl
theorem cell_later {w W : World} {b : Nat} {v : Value} {t : TypeId} (hB : Aside0 (Below w.heap.size w W)) (h : w.heap[b]? = some (.cells #[v] t (0, 0))) : W.heap[b]? = some (.cells #[v] t (0, 0)) := blk_below h hB.out
set_option maxHeartbeats 4000000 in
set_option maxRecDepth 100000 in
theorem impl_xDisagree.calls (a0_0 a0_1 a0_2 a0_3 a0_4 a1_0 a1_1 a1_2 a1_3 a1_4 a2_0 a2_1 : Int) (r : Bool) (w : World) (h : impl_xDisagree.f a0_0 a0_1 a0_2 a0_3 a0_4 a1_0 a1_1 a1_2 a1_3 a1_4 a2_0 a2_1 = some r) {b1 b2 : Nat} (hc1 : w.heap[b1]? = some (.cells #[.int .i64 a2_0] 3 (0, 0)) := by first | assumption | (apply cell_later <;> assumption)) (hc2 : w.heap[b2]? = some (.cells #[.int .i64 a2_1] 3 (0, 0)) := by first | assumption | (apply cell_later <;> assumption)) :
  Calls Try.prog 74 #[.agg #[.int .i64 a0_0, .int .i64 a0_1, .int .i64 a0_2, .int .i64 a0_3, .int .i64 a0_4], .agg #[.int .i64 a1_0, .int .i64 a1_1, .int .i64 a1_2, .int .i64 a1_3, .int .i64 a1_4], .pointer (some ⟨b1, 0, none⟩), .pointer (some ⟨b2, 0, none⟩)] w fun e w' => e = .returned (.bool r) ∧ Below w.heap.size w w' := by
 have hu := Try.underlying70
 unfold impl_xDisagree.f at h
 obtain ⟨q, hq, rfl⟩ := Option.map_eq_some_iff.1 h
 have hcon := fun V => impl_agree.calls a0_0 a0_1 a0_2 a0_3 a0_4 a1_0 a1_1 a1_2 a1_3 a1_4 a2_0 a2_1 q V hq
 have g1 := cell_of hc1
 have g2 := cell_of hc2
 have hl1 := World.block_lt_of_cell? w _ g1
 have hl2 := World.block_lt_of_cell? w _ g2
 clear hc1 hc2 h hq
 go_enter Try.func74, Try.ntmps74
 go_wp2_with (go_at_call 75; refine (hcon _).mono ?_; rintro e w1 ⟨rfl, hb1⟩)
 go_ret
 exact ⟨rfl, below_step (by repeat (first | exact Below.refl _ _ | apply below_alloc)) hb1⟩

end Go.Proofs.Ytfaojmabalplfaa.QFnClubs
