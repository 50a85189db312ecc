/- Contracts of Go functions that FnClubs reaches: the call computes what the plain function says. No condition. -/
import Derived.Test.YtfaojmabalplfaaQFnClubsx0
import Derived.Test.YtfaojmabalplfaaQFnClubsx2
import Derived.Test.YtfaojmabalplfaaQFnClubsx4
import Derived.Test.YtfaojmabalplfaaQFnClubsx5
namespace Go.Proofs.Ytfaojmabalplfaa.QFnClubs
open Go.RowKit Go.Proofs.YtfaojmabalplfaaW.PrintWords Go.Proofs.YtfaojmabalplfaaW.PrintLast Go.Proofs.YtfaojmabalplfaaW.PrintMore
attribute [local go_sem] max2_int min2_int max_two min_two max_three min_three max_four min_four   -- for this text's walks alone
set_option linter.unusedVariables false
set_option linter.unusedSimpArgs false

attribute [local go_sem high] eqA70
/-! ### impl_ConflictLegs: function 39 -/
-- reaches: impl.sharedLegs
def impl_ConflictLegs.f (k : Nat) (l0 : List (S70)) (l1 : List (S70)) (a2 a3 : Int) : Option ((List (S64)) × Bool) := (impl_areLegs.f k l0).bind fun t1 => (if t1 = true then ((impl_areLegs.f k l1).bind fun t2 => (if t2 = true then (if a2 < 0 then (some (([] : List (S64)), false)) else (if a3 < 0 then (some (([] : List (S64)), false)) else ((impl_xSharedC.f k l0 l1 a2 a3).bind fun t3 => (some (t3, true))))) else (some (([] : List (S64)), false)))) else (some (([] : List (S64)), false)))
theorem impl_ConflictLegs.mono : ∀ a0 a1 a2 a3 k, LeO (impl_ConflictLegs.f k a0 a1 a2 a3) (impl_ConflictLegs.f (k + 1) a0 a1 a2 a3) := by
 intro a0 a1 a2 a3 k
 unfold impl_ConflictLegs.f
 repeat' with_reducible first | apply impl_areLegs.mono | apply impl_xSharedC.mono | exact LeO.refl _ | exact LeO.none _ | refine LeO.ite ?_ ?_ | refine LeO.bind ?_ (fun _ => ?_)
theorem twoBoxes (w : World) (o1 o2 : Obj) : ((w.alloc o1).alloc o2).heap[w.heap.size]? = some o1 ∧ ((w.alloc o1).alloc o2).heap[w.heap.size + 1]? = some o2 ∧ Below w.heap.size w ((w.alloc o1).alloc o2) := by
 have h2 := blk_new (w.alloc o1) o2
 rw [alloc_size] at h2
 exact ⟨blk_alloc (blk_new w o1) _, h2, by repeat (first | exact Below.refl _ _ | apply below_alloc)⟩
set_option maxHeartbeats 8000000 in
set_option maxRecDepth 100000 in
theorem impl_ConflictLegs.calls (k : Nat) (A0 : Option Addr) (c0 : Nat) (l0 : List (S70)) (A1 : Option Addr) (c1 : Nat) (l1 : List (S70)) (a2 a3 : Int) (r1 : List (S64)) (r2 : Bool) (w : World) (hr0 : Kd.C k70 w A0 l0.length l0) (hc0 : l0.length ≤ c0) (hr1 : Kd.C k70 w A1 l1.length l1) (hc1 : l1.length ≤ c1) (h : impl_ConflictLegs.f k l0 l1 a2 a3 = some (r1, r2)) :
  Calls Try.prog 39 #[.slice A0 l0.length c0, .slice A1 l1.length c1, .int .i64 a2, .int .i64 a3] w fun e w' => ∃ v0_ : Value, e = .returned (.tuple #[v0_, .bool r2]) ∧ Kd.R k64 64 w' w.heap.size (fun _ => True) v0_ r1 ∧ Below w.heap.size w w' := by
 unfold impl_ConflictLegs.f at h
 obtain ⟨t1, ht1, h⟩ := Option.bind_eq_some_iff.1 h
 obtain ⟨d1, d2, hB0⟩ := twoBoxes w (.cells #[.int .i64 a2] 3) (.cells #[.int .i64 a3] 3)
 have D1 := Aside0.mk d1
 have D2 := Aside0.mk d2
 have HB0 := Aside0.mk hB0
 have HR0 := Aside0.mk hr0
 have HR1 := Aside0.mk hr1
 clear d1 d2 hB0 hr0 hr1
 cases t1 with
 | false =>
  rw [if_neg (by decide)] at h
  simp only [Option.some.injEq, Prod.mk.injEq] at h
  obtain ⟨rfl, rfl⟩ := h
  go_enter Try.func39, Try.ntmps39
  go_wp2_with (go_at_call 62; with_reducible refine (impl_areLegs.calls k _ _ l0 false _ ?s1 ?s2 ht1).mono ?_; (case s1 => exact Kd.C_below HR0.out HB0.out); (case s2 => exact hc0); rintro e w1 ⟨rfl, hb1⟩)
  go_ret2
  exact ⟨_, rfl, Kd.R_nil _ _ _ _ _, below_step HB0.out hb1⟩
 | true =>
  rw [if_pos rfl] at h
  obtain ⟨t2, ht2, h⟩ := Option.bind_eq_some_iff.1 h
  cases t2 with
  | false =>
   rw [if_neg (by decide)] at h
   simp only [Option.some.injEq, Prod.mk.injEq] at h
   obtain ⟨rfl, rfl⟩ := h
   go_enter Try.func39, Try.ntmps39
   go_wp2_with (first | (go_at_call 62; with_reducible refine (impl_areLegs.calls k _ _ l0 true _ ?s1 ?s2 ht1).mono ?_; (case s1 => exact Kd.C_below HR0.out HB0.out); (case s2 => exact hc0); rintro e w1 ⟨rfl, hb1⟩; have HB1 := Aside0.mk (below_step HB0.out hb1); clear hb1) | (go_at_call 62; with_reducible refine (impl_areLegs.calls k _ _ l1 false _ ?s1 ?s2 ht2).mono ?_; (case s1 => exact Kd.C_below HR1.out HB1.out); (case s2 => exact hc1); rintro e w2 ⟨rfl, hb2⟩))
   go_ret2
   exact ⟨_, rfl, Kd.R_nil _ _ _ _ _, below_step HB1.out hb2⟩
  | true =>
   rw [if_pos rfl] at h
   by_cases c1 : a2 < 0
   ·rw [if_pos c1] at h
    have c1b : decide (a2 < 0) = true := decide_eq_true c1
    clear c1
    simp only [Option.some.injEq, Prod.mk.injEq] at h
    obtain ⟨rfl, rfl⟩ := h
    go_enter Try.func39, Try.ntmps39
    go_wp2_with (first | (go_at_call 62; with_reducible refine (impl_areLegs.calls k _ _ l0 true _ ?s1 ?s2 ht1).mono ?_; (case s1 => exact Kd.C_below HR0.out HB0.out); (case s2 => exact hc0); rintro e w1 ⟨rfl, hb1⟩; have HB1 := Aside0.mk (below_step HB0.out hb1); have E1 := Aside0.mk (blk_below D1.out hb1); have E2 := Aside0.mk (blk_below D2.out hb1); clear hb1) | (go_at_call 62; with_reducible refine (impl_areLegs.calls k _ _ l1 true _ ?s1 ?s2 ht2).mono ?_; (case s1 => exact Kd.C_below HR1.out HB1.out); (case s2 => exact hc1); rintro e w2 ⟨rfl, hb2⟩; have HB2 := Aside0.mk (below_step HB1.out hb2); have x1 := cell_of (blk_below E1.out hb2); have x2 := cell_of (blk_below E2.out hb2); clear hb2))
    go_ret2
    exact ⟨_, rfl, Kd.R_nil _ _ _ _ _, HB2.out⟩
   ·rw [if_neg c1] at h
    have c1b : decide (a2 < 0) = false := decide_eq_false c1
    clear c1
    by_cases c2 : a3 < 0
    ·rw [if_pos c2] at h
     have c2b : decide (a3 < 0) = true := decide_eq_true c2
     clear c2
     simp only [Option.some.injEq, Prod.mk.injEq] at h
     obtain ⟨rfl, rfl⟩ := h
     go_enter Try.func39, Try.ntmps39
     go_wp2_with (first | (go_at_call 62; with_reducible refine (impl_areLegs.calls k _ _ l0 true _ ?s1 ?s2 ht1).mono ?_; (case s1 => exact Kd.C_below HR0.out HB0.out); (case s2 => exact hc0); rintro e w1 ⟨rfl, hb1⟩; have HB1 := Aside0.mk (below_step HB0.out hb1); have E1 := Aside0.mk (blk_below D1.out hb1); have E2 := Aside0.mk (blk_below D2.out hb1); clear hb1) | (go_at_call 62; with_reducible refine (impl_areLegs.calls k _ _ l1 true _ ?s1 ?s2 ht2).mono ?_; (case s1 => exact Kd.C_below HR1.out HB1.out); (case s2 => exact hc1); rintro e w2 ⟨rfl, hb2⟩; have HB2 := Aside0.mk (below_step HB1.out hb2); have x1 := cell_of (blk_below E1.out hb2); have x2 := cell_of (blk_below E2.out hb2); clear hb2))
     go_ret2
     exact ⟨_, rfl, Kd.R_nil _ _ _ _ _, HB2.out⟩
    ·rw [if_neg c2] at h
     have c2b : decide (a3 < 0) = false := decide_eq_false c2
     clear c2
     obtain ⟨t3, ht3, h⟩ := Option.bind_eq_some_iff.1 h
     simp only [Option.some.injEq, Prod.mk.injEq] at h
     obtain ⟨rfl, rfl⟩ := h
     go_enter Try.func39, Try.ntmps39
     go_wp2_with (first | (go_at_call 62; with_reducible refine (impl_areLegs.calls k _ _ l0 true _ ?s1 ?s2 ht1).mono ?_; (case s1 => exact Kd.C_below HR0.out HB0.out); (case s2 => exact hc0); rintro e w1 ⟨rfl, hb1⟩; have HB1 := Aside0.mk (below_step HB0.out hb1); have E1 := Aside0.mk (blk_below D1.out hb1); have E2 := Aside0.mk (blk_below D2.out hb1); clear hb1) | (go_at_call 62; with_reducible refine (impl_areLegs.calls k _ _ l1 true _ ?s1 ?s2 ht2).mono ?_; (case s1 => exact Kd.C_below HR1.out HB1.out); (case s2 => exact hc1); rintro e w2 ⟨rfl, hb2⟩; have HB2 := Aside0.mk (below_step HB1.out hb2); have G1 := Aside0.mk (blk_below E1.out hb2); have G2 := Aside0.mk (blk_below E2.out hb2); have x1 := cell_of G1.out; have x2 := cell_of G2.out; clear hb2) | (go_at_call 63; with_reducible refine (impl_xSharedC.calls k _ _ l0 _ _ l1 a2 a3 t3 _ ?s1 ?s2 ?s3 ?s4 ht3 (hcl1 := G1.out) (hcl2 := G2.out)).mono ?_; (case s1 => exact Kd.C_below HR0.out HB2.out); (case s2 => exact hc0); (case s3 => exact Kd.C_below HR1.out HB2.out); (case s4 => exact hc1); rintro e w3 ⟨v3, rfl, ho3, hb3⟩; have HB3 := Aside0.mk (below_step HB2.out hb3); have HO3 := Aside0.mk (Kd.R_lower ho3 (below_size HB2.out)); clear hb3 ho3))
     go_ret2
     exact ⟨_, rfl, HO3.out, HB3.out⟩

/-! ### laws_vBig: function 44 -/
def laws_vBig.f (l0 : List Int) : Option (Bool) := some (decide ((l0.length : Int) > 65536))
set_option maxHeartbeats 8000000 in
set_option maxRecDepth 100000 in
theorem laws_vBig.calls (A0 : Option Addr) (c0 : Nat) (l0 : List Int) (r : Bool) (w : World) (hr0 : Kd.C (Kd.int .u8) w A0 l0.length l0) (hc0 : l0.length ≤ c0) (h : laws_vBig.f l0 = some r) :
  Calls Try.prog 44 #[.slice A0 l0.length c0] w fun e w' => e = .returned (.bool r) ∧ Drawn0 w w' := by
 have HR0 := Aside0.mk hr0
 have HC0 := Aside0.mk hc0
 clear hr0 hc0
 have H : (some (decide ((l0.length : Int) > 65536))) = some r := h
 clear h
 obtain rfl := Option.some.inj H
 go_enter Try.func44, Try.ntmps44
 go_wp2
 go_ret
 exact ⟨rB, by repeat (first | exact Drawn0.refl _ | apply Drawn0.step)⟩

/-! ### laws_vLegs: function 46 -/
def laws_vLegs.l0 : Nat → List (S70) → List (S70) → Int → Option (Bool)
 | 0, _, _, _ => none
 | k + 1, x0, x1, x5 => if x5 < (x0.length : Int) then (if 0 ≤ x5 then (if x5 < (x1.length : Int) then (if (!(((rd_T70 x0 x5).f0) == ((rd_T70 x1 x5).f0)) || (!(((rd_T70 x0 x5).f1) == ((rd_T70 x1 x5).f1)) || (!(((rd_T70 x0 x5).f2) == ((rd_T70 x1 x5).f2)) || (!(((rd_T70 x0 x5).f3) == ((rd_T70 x1 x5).f3)) || (!(((rd_T70 x0 x5).f4) == ((rd_T70 x1 x5).f4))))))) = true then (some false) else (laws_vLegs.l0 k x0 x1 (wrap64 (x5 + 1)))) else (none)) else (none)) else (some true)
def laws_vLegs.f (k : Nat) (l0 : List (S70)) (l1 : List (S70)) : Option (Bool) := if (l0.length : Int) = (l1.length : Int) then (laws_vLegs.l0 k l0 l1 0) else (some false)
theorem laws_vLegs.mono_l : ∀ k, (∀ y0 y1 y2, LeO (laws_vLegs.l0 k y0 y1 y2) (laws_vLegs.l0 (k + 1) y0 y1 y2))
 | 0 => fun _ _ _ r h => by simp [laws_vLegs.l0] at h
 | k + 1 => by
  have ih0 := laws_vLegs.mono_l k
  ·intro y0 y1 y2
   unfold laws_vLegs.l0
   repeat' with_reducible first | apply ih0 | exact LeO.refl _ | exact LeO.none _ | refine LeO.ite ?_ ?_ | refine LeO.bind ?_ (fun _ => ?_)
theorem laws_vLegs.mono : ∀ a0 a1 k, LeO (laws_vLegs.f k a0 a1) (laws_vLegs.f (k + 1) a0 a1) := by
 intro a0 a1 k
 have ih0 := laws_vLegs.mono_l k
 unfold laws_vLegs.f
 repeat' with_reducible first | apply ih0 | exact LeO.refl _ | exact LeO.none _ | refine LeO.ite ?_ ?_ | refine LeO.bind ?_ (fun _ => ?_)
set_option maxHeartbeats 8000000 in
set_option maxRecDepth 100000 in
theorem laws_vLegs.calls (k : Nat) (A0 : Option Addr) (c0 : Nat) (l0 : List (S70)) (A1 : Option Addr) (c1 : Nat) (l1 : List (S70)) (r : Bool) (w : World) (hr0 : Kd.C k70 w A0 l0.length l0) (hc0 : l0.length ≤ c0) (hr1 : Kd.C k70 w A1 l1.length l1) (hc1 : l1.length ≤ c1) (h : laws_vLegs.f k l0 l1 = some r) :
  Calls Try.prog 46 #[.slice A0 l0.length c0, .slice A1 l1.length c1] w fun e w' => e = .returned (.bool r) ∧ Drawn0 w w' := by
 have hu70 := Try.underlying70
 have HR0 := Aside0.mk hr0
 have HC0 := Aside0.mk hc0
 clear hr0 hc0
 have HR1 := Aside0.mk hr1
 have HC1 := Aside0.mk hc1
 clear hr1 hc1
 have H := h
 clear h
 unfold laws_vLegs.f at H
 replace H := ifI H
 rcases H with ⟨H, c3, c3b0, c3b1⟩ | ⟨H, c3, c3b0, c3b1⟩
 ·have c3b2 : (l0.length == l1.length) = true := by first | simpa using c3 | (simp at c3 ⊢; omega)
  clear c3
  have H' := Aside0.mk H
  clear H
  go_enter Try.func46, Try.ntmps46
  go_wp2
  repeat (go_quiet (fail); try go_wp2)
  go_loopg [5] k (fun kq v5 w' => ∃ (x5_1 : Int), v5 = .int .i64 x5_1 ∧ Aside0 (laws_vLegs.l0 kq l0 l1 x5_1 = some r) ∧ Aside0 (kq ≤ k) ∧ Drawn0 w w')
  case atStart => exact ⟨(0), rB, H', ⟨Nat.le_refl _⟩, by repeat (first | exact Drawn0.refl _ | apply Drawn0.step)⟩
  case round =>
   clear H'
   try clear c1
   try clear c3
   try clear c3b0
   try clear c3b1
   try clear c3b2
   obtain ⟨x5_1, rfl, HA, HK1, ⟨m1, rfl⟩⟩ := hrel
   cases gk with
   | zero => exact absurd HA.out (by simp [laws_vLegs.l0])
   | succ k1 =>
    have H := HA.out
    clear HA
    simp only [laws_vLegs.l0] at H
    replace H := ifD H
    rcases H with ⟨H, -, c4b0⟩ | ⟨H, -, c4b0⟩
    ·by_cases c5 : 0 ≤ x5_1
     ·rw [if_pos c5] at H
      have c5b0 : decide (0 ≤ x5_1) = true := decide_eq_true c5
      clear c5
      by_cases c6 : x5_1 < (l1.length : Int)
      ·rw [if_pos c6] at H
       have c6b0 : decide (x5_1 < (l1.length : Int)) = true := decide_eq_true c6
       clear c6
       by_cases c7 : (!(((rd_T70 l0 x5_1).f0) == ((rd_T70 l1 x5_1).f0)) || (!(((rd_T70 l0 x5_1).f1) == ((rd_T70 l1 x5_1).f1)) || (!(((rd_T70 l0 x5_1).f2) == ((rd_T70 l1 x5_1).f2)) || (!(((rd_T70 l0 x5_1).f3) == ((rd_T70 l1 x5_1).f3)) || (!(((rd_T70 l0 x5_1).f4) == ((rd_T70 l1 x5_1).f4))))))) = true
       ·rw [if_pos c7] at H
        have c7b0 : (!(((rd_T70 l0 x5_1).f0) == ((rd_T70 l1 x5_1).f0)) || (!(((rd_T70 l0 x5_1).f1) == ((rd_T70 l1 x5_1).f1)) || (!(((rd_T70 l0 x5_1).f2) == ((rd_T70 l1 x5_1).f2)) || (!(((rd_T70 l0 x5_1).f3) == ((rd_T70 l1 x5_1).f3)) || (!(((rd_T70 l0 x5_1).f4) == ((rd_T70 l1 x5_1).f4))))))) = true := c7
        clear c7
        obtain rfl := Option.some.inj H
        have p262 : 0 ≤ (x5_1 : Int) := of_decide_eq_true asmB
        have q262 : x5_1 < (l0.length : Int) := of_decide_eq_true asmB
        obtain ⟨ad262, e262, hx262_0, hx262_1, hx262_2, hx262_3, hx262_4⟩ := at_T70 HR0.out x5_1 p262 q262
        cases e262
        replace p262 := eq_true p262
        replace q262 := eq_true q262
        have p263 : 0 ≤ (x5_1 : Int) := of_decide_eq_true asmB
        have q263 : x5_1 < (l1.length : Int) := of_decide_eq_true asmB
        obtain ⟨ad263, e263, hx263_0, hx263_1, hx263_2, hx263_3, hx263_4⟩ := at_T70 HR1.out x5_1 p263 q263
        cases e263
        replace p263 := eq_true p263
        replace q263 := eq_true q263
        go_wp2
        repeat (go_quiet (fail); try go_wp2)
        go_ret
        exact ⟨rB, by repeat (first | exact Drawn0.refl _ | apply Drawn0.step)⟩
       ·rw [if_neg c7] at H
        have c7b0 : (!(((rd_T70 l0 x5_1).f0) == ((rd_T70 l1 x5_1).f0)) || (!(((rd_T70 l0 x5_1).f1) == ((rd_T70 l1 x5_1).f1)) || (!(((rd_T70 l0 x5_1).f2) == ((rd_T70 l1 x5_1).f2)) || (!(((rd_T70 l0 x5_1).f3) == ((rd_T70 l1 x5_1).f3)) || (!(((rd_T70 l0 x5_1).f4) == ((rd_T70 l1 x5_1).f4))))))) = false := by simpa using c7
        clear c7
        have H' := Aside0.mk H
        clear H
        have p262 : 0 ≤ (x5_1 : Int) := of_decide_eq_true asmB
        have q262 : x5_1 < (l0.length : Int) := of_decide_eq_true asmB
        obtain ⟨ad262, e262, hx262_0, hx262_1, hx262_2, hx262_3, hx262_4⟩ := at_T70 HR0.out x5_1 p262 q262
        cases e262
        replace p262 := eq_true p262
        replace q262 := eq_true q262
        have p263 : 0 ≤ (x5_1 : Int) := of_decide_eq_true asmB
        have q263 : x5_1 < (l1.length : Int) := of_decide_eq_true asmB
        obtain ⟨ad263, e263, hx263_0, hx263_1, hx263_2, hx263_3, hx263_4⟩ := at_T70 HR1.out x5_1 p263 q263
        cases e263
        replace p263 := eq_true p263
        replace q263 := eq_true q263
        go_wp2
        repeat (go_quiet (fail); try go_wp2)
        go_roundg k1
        case measure => have := HK1.out; omega
        case rel => exact ⟨(wrap64 (x5_1 + 1)), rB, H', ⟨by have := HK1.out; omega⟩, by repeat (first | exact Drawn0.refl _ | apply Drawn0.step)⟩
      ·rw [if_neg c6] at H
       exact absurd H (by simp)
     ·rw [if_neg c5] at H
      exact absurd H (by simp)
    ·obtain rfl := Option.some.inj H
     go_wp2
     repeat (go_quiet (fail); try go_wp2)
     go_ret
     exact ⟨rB, by repeat (first | exact Drawn0.refl _ | apply Drawn0.step)⟩
 ·have c3b2 : (l0.length == l1.length) = false := by first | simpa using c3 | (simp at c3 ⊢; omega)
  obtain rfl := Option.some.inj H
  go_enter Try.func46, Try.ntmps46
  go_wp2
  repeat (go_quiet (fail); try go_wp2)
  go_ret
  exact ⟨rB, by repeat (first | exact Drawn0.refl _ | apply Drawn0.step)⟩

/-- A state of type 90 at block g of W; what its slices lead to came in by w0. -/
def IsS90 (w0 W : World) (g : Nat) (f0 : List Int) (f1 f2 : Int) : Prop := ∃ A0 c0, W.heap[g]? = some (.cells #[.slice A0 f0.length c0, .int .i64 f1, .int .u64 f2] 90 (0, 0)) ∧ w0.heap.size ≤ g ∧ Kd.C (Kd.int .u8) w0 A0 f0.length f0
theorem keepF_ {w0 W0 W : World} {g : Nat} {f0 : List Int} {f1 f2 : Int} (_ : Aside0 (IsS90 w0 W0 g f0 f1 f2)) (h : IsS90 w0 W g f0 f1 f2) : IsS90 w0 W g f0 f1 f2 := h
theorem IsS90.grown {w0 W : World} {g : Nat} {f0 : List Int} {f1 : Int} {f2 : Int} {W1 : World} {row : Option Nat} (h : IsS90 w0 W g f0 f1 f2) (hw : W.grownBy W1 row) (hne : some g ≠ row) : IsS90 w0 W1 g f0 f1 f2 := by
 obtain ⟨A0, c0, hb, hg, hr0⟩ := h
 exact ⟨A0, c0, blk_grown hb hw hne, hg, hr0⟩
theorem IsS90.own_neN {w0 W : World} {g : Nat} {f0 : List Int} {f1 : Int} {f2 : Int} {α : Type} {d : Kd α} {e : Nat} {base : Nat} {ok : Nat → Prop} {v : Value} {xs : List α} (h : IsS90 w0 W g f0 f1 f2) (ho : Kd.N d e W base ok v xs) (ht : e ≠ 90) : some g ≠ v.ownBlock := by
 obtain ⟨A0, c0, hb, hg, hr0⟩ := h
 exact Kd.N_ne ho hb ht
theorem IsS90.fresh {w0 W : World} {g : Nat} {f0 : List Int} {f1 : Int} {f2 : Int} (h : IsS90 w0 W g f0 f1 f2) : ∀ k, W.heap.size ≤ k → k ≠ g := by
 obtain ⟨A0, c0, hb, hg, hr0⟩ := h
 exact Kd.freshB hb
theorem IsS90.kept {w0 W : World} {g : Nat} {f0 : List Int} {f1 : Int} {f2 : Int} {W1 : World} {S : Nat → Prop} (h : IsS90 w0 W g f0 f1 f2) (hk : Kept W W1 S) (hne : ¬ S g) : IsS90 w0 W1 g f0 f1 f2 := by
 obtain ⟨A0, c0, hb, hg, hr0⟩ := h
 exact ⟨A0, c0, blk_kept hb hk hne, hg, hr0⟩
theorem IsS90.below {w0 W : World} {g : Nat} {f0 : List Int} {f1 : Int} {f2 : Int} {W1 : World} (h : IsS90 w0 W g f0 f1 f2) (hw : Below W.heap.size W W1) : IsS90 w0 W1 g f0 f1 f2 := h.grown (grown_of_below hw none) (by simp)
theorem IsS90.alloc {w0 W : World} {g : Nat} {f0 : List Int} {f1 : Int} {f2 : Int} (h : IsS90 w0 W g f0 f1 f2) (o : Obj) : IsS90 w0 (W.alloc o) g f0 f1 f2 := h.below (below_alloc (Below.refl _ _) o)
theorem IsS90.drewN {w0 W : World} {g : Nat} {f0 : List Int} {f1 : Int} {f2 : Int} (h : IsS90 w0 W g f0 f1 f2) (m : Nat) : IsS90 w0 (W.drewN m) g f0 f1 f2 := h
theorem IsS90.drew {w0 W : World} {g : Nat} {f0 : List Int} {f1 : Int} {f2 : Int} (h : IsS90 w0 W g f0 f1 f2) : IsS90 w0 W.drew g f0 f1 f2 := h
theorem IsS90.at_ {w0 W : World} {g : Nat} {f0 : List Int} {f1 : Int} {f2 : Int} {w' : World} {m : Nat} (hq : W.drewN m = w') (h : IsS90 w0 W g f0 f1 f2) : IsS90 w0 w' g f0 f1 f2 := by subst hq; exact IsS90.drewN h m
theorem IsS90.apart {w0 W : World} {g : Nat} {f0 : List Int} {f1 : Int} {f2 : Int} {α : Type} {d : Kd α} {e : Nat} {base : Nat} {ok : Nat → Prop} {v : Value} {xs : List α} (h : IsS90 w0 W g f0 f1 f2) (ho : d.R e W base ok v xs) (ht : ∀ q, q ∈ e :: d.E → q ≠ 90) : d.R e W base (fun k => ok k ∧ k ≠ g) v xs := by
 obtain ⟨A0, c0, hb, hg, hr0⟩ := h
 exact Kd.R_types ho hb ht
theorem IsS90.own_ne {w0 W : World} {g : Nat} {f0 : List Int} {f1 : Int} {f2 : Int} {α : Type} {d : Kd α} {e : Nat} {base : Nat} {ok : Nat → Prop} {v : Value} {xs : List α} (h : IsS90 w0 W g f0 f1 f2) (ho : d.R e W base ok v xs) (ht : e ≠ 90) : some g ≠ v.ownBlock := by
 obtain ⟨A0, c0, hb, hg, hr0⟩ := h
 exact Kd.R_ne ho hb ht
theorem IsS90.apartQ {w0 W : World} {g : Nat} {f0 : List Int} {f1 : Int} {f2 : Int} {α : Type} {d : Kd α} {e : Nat} {base : Nat} {ok : Nat → Prop} {v : Value} {xs : List α} (h : IsS90 w0 W g f0 f1 f2) (ho : d.Q e W base ok v xs) (ht : ∀ q, q ∈ e :: d.E → q ≠ 90) : d.Q e W base (fun k => ok k ∧ k ≠ g) v xs := by
 obtain ⟨A0, c0, hb, hg, hr0⟩ := h
 exact Kd.Q_types ho hb ht
theorem IsS90.own_neQ {w0 W : World} {g : Nat} {f0 : List Int} {f1 : Int} {f2 : Int} {α : Type} {d : Kd α} {e : Nat} {base : Nat} {ok : Nat → Prop} {v : Value} {xs : List α} (h : IsS90 w0 W g f0 f1 f2) (ho : d.Q e W base ok v xs) (ht : e ≠ 90) : some g ≠ v.ownBlock := by
 obtain ⟨A0, c0, hb, hg, hr0⟩ := h
 exact Kd.Q_ne ho hb ht
theorem IsS90.apartS {w0 W : World} {g : Nat} {f0 : List Int} {f1 : Int} {f2 : Int} {α : Type} {d : Kd α} {e : Nat} {base : Nat} {ok : Nat → Prop} {v : Value} {xs : List α} (h : IsS90 w0 W g f0 f1 f2) (ho : d.S e W base ok v xs) (ht : ∀ q, q ∈ e :: d.E → q ≠ 90) : d.S e W base (fun k => ok k ∧ k ≠ g) v xs := by
 obtain ⟨A0, c0, hb, hg, hr0⟩ := h
 exact Kd.S_types ho hb ht
theorem IsS90.own_neS {w0 W : World} {g : Nat} {f0 : List Int} {f1 : Int} {f2 : Int} {α : Type} {d : Kd α} {e : Nat} {base : Nat} {ok : Nat → Prop} {v : Value} {xs : List α} (h : IsS90 w0 W g f0 f1 f2) (ho : d.S e W base ok v xs) (ht : e ≠ 90) : some g ≠ v.ownBlock := by
 obtain ⟨A0, c0, hb, hg, hr0⟩ := h
 exact Kd.S_ne ho hb ht
theorem IsS90.lt {w0 W : World} {g : Nat} {f0 : List Int} {f1 : Int} {f2 : Int} (h : IsS90 w0 W g f0 f1 f2) : g < W.heap.size := by
 obtain ⟨A0, c0, hb, hg, hr0⟩ := h
 exact blk_lt hb
theorem IsS90.ge {w0 W : World} {g : Nat} {f0 : List Int} {f1 : Int} {f2 : Int} (h : IsS90 w0 W g f0 f1 f2) : w0.heap.size ≤ g := by
 obtain ⟨A0, c0, hb, hg, hr0⟩ := h
 exact hg
theorem IsS90.ne_blk {w0 W : World} {g : Nat} {f0 : List Int} {f1 : Int} {f2 : Int} {a : Nat} {cs : Array Value} {t : TypeId} {fr : Nat × Nat} (h : IsS90 w0 W g f0 f1 f2) (hb2 : W.heap[a]? = some (.cells cs t fr)) (ht : t ≠ 90) : g ≠ a := by
 obtain ⟨A0, c0, hb, hg, hr0⟩ := h
 rintro rfl
 rw [hb] at hb2
 injection hb2 with hb2
 injection hb2 with _ ht2
 exact ht ht2.symm
theorem IsS90.far {w0 W : World} {g : Nat} {f0 : List Int} {f1 : Int} {f2 : Int} {p : Addr} (h : IsS90 w0 W g f0 f1 f2) (hne : g ≠ p.block) (u : Value) : IsS90 w0 (W.setCell p u) g f0 f1 f2 := by
 obtain ⟨A0, c0, hb, hg, hr0⟩ := h
 exact ⟨A0, c0, blk_far hb hne u, hg, hr0⟩
theorem cellS90_0 {W : World} {g : Nat} {A0 : Option Addr} {c0 : Nat} {f0 : List Int} {f1 : Int} {f2 : Int} (h : W.heap[g]? = some (.cells #[.slice A0 f0.length c0, .int .i64 f1, .int .u64 f2] 90 (0, 0))) : W.cell? ⟨g, 0, none⟩ = some (.slice A0 f0.length c0) := (blk_cell h 0).trans rfl
theorem cellS90_1 {W : World} {g : Nat} {A0 : Option Addr} {c0 : Nat} {f0 : List Int} {f1 : Int} {f2 : Int} (h : W.heap[g]? = some (.cells #[.slice A0 f0.length c0, .int .i64 f1, .int .u64 f2] 90 (0, 0))) : W.cell? ⟨g, 1, none⟩ = some (.int .i64 f1) := (blk_cell h 1).trans rfl
theorem IsS90.set_1 {w0 W : World} {g : Nat} {f0 : List Int} {f1 : Int} {f2 : Int} (h : IsS90 w0 W g f0 f1 f2) (x : Int) : IsS90 w0 (W.setCell ⟨g, 1, none⟩ (.int .i64 x)) g f0 x f2 := by
 obtain ⟨A0, c0, hb, hg, hr0⟩ := h
 exact ⟨A0, c0, by simpa using blk_set hb 1 (.int .i64 x), hg, hr0⟩
theorem cellS90_2 {W : World} {g : Nat} {A0 : Option Addr} {c0 : Nat} {f0 : List Int} {f1 : Int} {f2 : Int} (h : W.heap[g]? = some (.cells #[.slice A0 f0.length c0, .int .i64 f1, .int .u64 f2] 90 (0, 0))) : W.cell? ⟨g, 2, none⟩ = some (.int .u64 f2) := (blk_cell h 2).trans rfl
theorem IsS90.set_2 {w0 W : World} {g : Nat} {f0 : List Int} {f1 : Int} {f2 : Int} (h : IsS90 w0 W g f0 f1 f2) (x : Int) : IsS90 w0 (W.setCell ⟨g, 2, none⟩ (.int .u64 x)) g f0 f1 x := by
 obtain ⟨A0, c0, hb, hg, hr0⟩ := h
 exact ⟨A0, c0, by simpa using blk_set hb 2 (.int .u64 x), hg, hr0⟩
theorem IsS90.new (w0 W : World) (A0 : Option Addr) (c0 : Nat) (f0 : List Int) (f1 f2 : Int) (hB : Below w0.heap.size w0 W) (hr0 : Kd.C (Kd.int .u8) w0 A0 f0.length f0) : IsS90 w0 (W.alloc (.cells #[.slice A0 f0.length c0, .int .i64 f1, .int .u64 f2] 90)) W.heap.size f0 f1 f2 := ⟨A0, c0, by simpa using heap_alloc_new W _, hB.size, hr0⟩

/-! ### spec_l1Cur_next: function 109 -/
def spec_l1Cur_next.f (s0_0 : List Int) (s0_1 s0_2 : Int) : Option (Int × Int × Int) := if s0_1 < (s0_0.length : Int) then (if 0 ≤ s0_1 then (if (wrap64 (s0_1 + 1)) ≤ (s0_0.length : Int) then (some (wrap64 (rd s0_0 s0_1), wrap64 (s0_1 + 1), IntKind.u64.wrap ((IntKind.u64.wrap ((IntKind.u64.wrap (s0_2 * 6364136223846793005)) + (IntKind.u64.wrap (wrap64 (rd s0_0 s0_1))))) + 933933))) else (some (wrap64 (Go.bits .and .u64 ((IntKind.u64.wrap ((IntKind.u64.wrap ((IntKind.u64.wrap (s0_2 * 6364136223846793005)) + (IntKind.u64.wrap (wrap64 (rd s0_0 s0_1))))) + 933933)) / 1099511627776) 255), wrap64 (s0_1 + 1), IntKind.u64.wrap ((IntKind.u64.wrap ((IntKind.u64.wrap (s0_2 * 6364136223846793005)) + (IntKind.u64.wrap (wrap64 (rd s0_0 s0_1))))) + 933933)))) else (none)) else (if (wrap64 (s0_1 + 1)) ≤ (s0_0.length : Int) then (some (0, wrap64 (s0_1 + 1), IntKind.u64.wrap ((IntKind.u64.wrap ((IntKind.u64.wrap (s0_2 * 6364136223846793005)) + 0)) + 933933))) else (some (wrap64 (Go.bits .and .u64 ((IntKind.u64.wrap ((IntKind.u64.wrap ((IntKind.u64.wrap (s0_2 * 6364136223846793005)) + 0)) + 933933)) / 1099511627776) 255), wrap64 (s0_1 + 1), IntKind.u64.wrap ((IntKind.u64.wrap ((IntKind.u64.wrap (s0_2 * 6364136223846793005)) + 0)) + 933933))))
set_option maxHeartbeats 8000000 in
set_option maxRecDepth 100000 in
theorem spec_l1Cur_next.calls (g : Nat) (s0_0 : List Int) (s0_1 s0_2 r1 r2 r3 : Int) (w0 w : World) (hI : IsS90 w0 w g s0_0 s0_1 s0_2) (hB : Below w0.heap.size w0 w) (h : spec_l1Cur_next.f s0_0 s0_1 s0_2 = some (r1, r2, r3)) :
  Calls Try.prog 109 #[.pointer (some ⟨g, 0, none⟩)] w fun e w' => e = .returned (.int .i64 r1) ∧ IsS90 w0 w' g s0_0 r2 r3 ∧ Below w0.heap.size w0 w' ∧ KeepBut w w' g none := by
 have HI0 := Aside0.mk hI
 have HK := Aside0.mk (KeepBut.refl w g none)
 have HL := Aside0.mk hB.size
 clear hI
 have HW0 := Aside0.mk hB.size
 have HB := Aside0.mk hB
 clear hB
 have H := h
 clear h
 unfold spec_l1Cur_next.f at H
 replace H := ifD H
 rcases H with ⟨H, -, c2b0⟩ | ⟨H, -, c2b0⟩
 ·by_cases c3 : 0 ≤ s0_1
  ·rw [if_pos c3] at H
   have c3b0 : decide (0 ≤ s0_1) = true := decide_eq_true c3
   clear c3
   replace H := ifD H
   rcases H with ⟨H, -, c4b0⟩ | ⟨H, -, c4b0⟩
   ·simp only [Option.some.injEq, Prod.mk.injEq] at H
    obtain ⟨rfl, rfl, rfl⟩ := H
    obtain ⟨ASz5_0, cSz5_0, HGz5, hgz5, HSz5_0⟩ := HI0.out
    have hcz5_0 := cellS90_0 HGz5
    have hcz5_1 := cellS90_1 HGz5
    have hcz5_2 := cellS90_2 HGz5
    have hfz5_1 := blk_frozen HGz5 1
    have hfz5_2 := blk_frozen HGz5 2
    clear HGz5 hgz5
    have p264 : 0 ≤ (s0_1 : Int) := of_decide_eq_true asmB
    have q264 : s0_1 < (s0_0.length : Int) := of_decide_eq_true asmB
    obtain ⟨ad264, e264, hx264_0⟩ := Kd.at_int HSz5_0 s0_1 p264 q264
    cases e264
    replace hx264_0 := pw_cell_below HB.out hx264_0
    replace p264 := eq_true p264
    replace q264 := eq_true q264
    go_enter Try.func109, Try.ntmps109
    go_wp2
    repeat (go_quiet (fail); try go_wp2)
    go_ret
    exact ⟨eB, by (try simp only [Int.add_zero]); repeat (first | (with_reducible first | exact HI0.out | apply IsS90.alloc | apply IsS90.drewN | apply IsS90.drew | apply IsS90.set_1 | apply IsS90.set_2) | exact HI0.out), by repeat (first | (with_reducible first | exact HB.out | apply below_alloc | apply pw_below_drewN | apply below_drew1 | refine below_set ?_ (IsS90.ge HI0.out)) | exact HB.out), by repeat (first | (with_reducible first | exact HK.out | apply KeepBut.set_ | apply keep_drewN | apply keep_drew | apply keep_alloc) | exact HK.out)⟩
   ·simp only [Option.some.injEq, Prod.mk.injEq] at H
    obtain ⟨rfl, rfl, rfl⟩ := H
    obtain ⟨ASz6_0, cSz6_0, HGz6, hgz6, HSz6_0⟩ := HI0.out
    have hcz6_0 := cellS90_0 HGz6
    have hcz6_1 := cellS90_1 HGz6
    have hcz6_2 := cellS90_2 HGz6
    have hfz6_1 := blk_frozen HGz6 1
    have hfz6_2 := blk_frozen HGz6 2
    clear HGz6 hgz6
    have p264 : 0 ≤ (s0_1 : Int) := of_decide_eq_true asmB
    have q264 : s0_1 < (s0_0.length : Int) := of_decide_eq_true asmB
    obtain ⟨ad264, e264, hx264_0⟩ := Kd.at_int HSz6_0 s0_1 p264 q264
    cases e264
    replace hx264_0 := pw_cell_below HB.out hx264_0
    replace p264 := eq_true p264
    replace q264 := eq_true q264
    go_enter Try.func109, Try.ntmps109
    go_wp2
    repeat (go_quiet (fail); try go_wp2)
    go_ret
    exact ⟨eB, by (try simp only [Int.add_zero]); repeat (first | (with_reducible first | exact HI0.out | apply IsS90.alloc | apply IsS90.drewN | apply IsS90.drew | apply IsS90.set_1 | apply IsS90.set_2) | exact HI0.out), by repeat (first | (with_reducible first | exact HB.out | apply below_alloc | apply pw_below_drewN | apply below_drew1 | refine below_set ?_ (IsS90.ge HI0.out)) | exact HB.out), by repeat (first | (with_reducible first | exact HK.out | apply KeepBut.set_ | apply keep_drewN | apply keep_drew | apply keep_alloc) | exact HK.out)⟩
  ·rw [if_neg c3] at H
   exact absurd H (by simp)
 ·replace H := ifD H
  rcases H with ⟨H, -, c7b0⟩ | ⟨H, -, c7b0⟩
  ·simp only [Option.some.injEq, Prod.mk.injEq] at H
   obtain ⟨rfl, rfl, rfl⟩ := H
   obtain ⟨ASz8_0, cSz8_0, HGz8, hgz8, HSz8_0⟩ := HI0.out
   have hcz8_0 := cellS90_0 HGz8
   have hcz8_1 := cellS90_1 HGz8
   have hcz8_2 := cellS90_2 HGz8
   have hfz8_1 := blk_frozen HGz8 1
   have hfz8_2 := blk_frozen HGz8 2
   clear HGz8 hgz8
   go_enter Try.func109, Try.ntmps109
   go_wp2
   repeat (go_quiet (fail); try go_wp2)
   go_ret
   exact ⟨eB, by (try simp only [Int.add_zero]); repeat (first | (with_reducible first | exact HI0.out | apply IsS90.alloc | apply IsS90.drewN | apply IsS90.drew | apply IsS90.set_1 | apply IsS90.set_2) | exact HI0.out), by repeat (first | (with_reducible first | exact HB.out | apply below_alloc | apply pw_below_drewN | apply below_drew1 | refine below_set ?_ (IsS90.ge HI0.out)) | exact HB.out), by repeat (first | (with_reducible first | exact HK.out | apply KeepBut.set_ | apply keep_drewN | apply keep_drew | apply keep_alloc) | exact HK.out)⟩
  ·simp only [Option.some.injEq, Prod.mk.injEq] at H
   obtain ⟨rfl, rfl, rfl⟩ := H
   obtain ⟨ASz9_0, cSz9_0, HGz9, hgz9, HSz9_0⟩ := HI0.out
   have hcz9_0 := cellS90_0 HGz9
   have hcz9_1 := cellS90_1 HGz9
   have hcz9_2 := cellS90_2 HGz9
   have hfz9_1 := blk_frozen HGz9 1
   have hfz9_2 := blk_frozen HGz9 2
   clear HGz9 hgz9
   go_enter Try.func109, Try.ntmps109
   go_wp2
   repeat (go_quiet (fail); try go_wp2)
   go_ret
   exact ⟨eB, by (try simp only [Int.add_zero]); repeat (first | (with_reducible first | exact HI0.out | apply IsS90.alloc | apply IsS90.drewN | apply IsS90.drew | apply IsS90.set_1 | apply IsS90.set_2) | exact HI0.out), by repeat (first | (with_reducible first | exact HB.out | apply below_alloc | apply pw_below_drewN | apply below_drew1 | refine below_set ?_ (IsS90.ge HI0.out)) | exact HB.out), by repeat (first | (with_reducible first | exact HK.out | apply KeepBut.set_ | apply keep_drewN | apply keep_drew | apply keep_alloc) | exact HK.out)⟩

/-! ### spec_l1Cur_pick: function 83 -/
def spec_l1Cur_pick.f (s0_0 : List Int) (s0_1 s0_2 a1 : Int) : Option (Int × Int × Int) := if a1 ≤ 1 then (some (0, s0_1, s0_2)) else ((spec_l1Cur_next.f s0_0 s0_1 s0_2).bind fun bt265 => (if a1 > 200 then ((spec_l1Cur_next.f s0_0 bt265.2.1 bt265.2.2).bind fun bt268 => (if a1 = 0 then (none) else (some (Int.tmod (wrap64 ((wrap64 (bt265.1 * 256)) + bt268.1)) a1, bt268.2.1, bt268.2.2)))) else (if a1 = 0 then (none) else (some (Int.tmod bt265.1 a1, bt265.2.1, bt265.2.2)))))
set_option maxHeartbeats 8000000 in
set_option maxRecDepth 100000 in
theorem spec_l1Cur_pick.calls (g : Nat) (s0_0 : List Int) (s0_1 s0_2 a1 r1 r2 r3 : Int) (w0 w : World) (hI : IsS90 w0 w g s0_0 s0_1 s0_2) (hB : Below w0.heap.size w0 w) (h : spec_l1Cur_pick.f s0_0 s0_1 s0_2 a1 = some (r1, r2, r3)) :
  Calls Try.prog 83 #[.pointer (some ⟨g, 0, none⟩), .int .i64 a1] w fun e w' => e = .returned (.int .i64 r1) ∧ IsS90 w0 w' g s0_0 r2 r3 ∧ Below w0.heap.size w0 w' ∧ KeepBut w w' g none := by
 have HI0 := Aside0.mk hI
 have HK := Aside0.mk (KeepBut.refl w g none)
 have HL := Aside0.mk hB.size
 clear hI
 have HW0 := Aside0.mk hB.size
 have HB := Aside0.mk hB
 clear hB
 have H := h
 clear h
 unfold spec_l1Cur_pick.f at H
 replace H := ifD H
 rcases H with ⟨H, -, c3b0⟩ | ⟨H, -, c3b0⟩
 ·simp only [Option.some.injEq, Prod.mk.injEq] at H
  obtain ⟨rfl, rfl, rfl⟩ := H
  go_enter Try.func83, Try.ntmps83
  go_wp2
  go_ret
  exact ⟨eB, by repeat (first | (with_reducible first | exact HI0.out | apply IsS90.alloc | apply IsS90.drewN | apply IsS90.drew | apply IsS90.set_1 | apply IsS90.set_2) | exact HI0.out), by repeat (first | (with_reducible first | exact HB.out | apply below_alloc | apply pw_below_drewN | apply below_drew1 | refine below_set ?_ (IsS90.ge HI0.out)) | exact HB.out), by repeat (first | (with_reducible first | exact HK.out | apply KeepBut.set_ | apply keep_drewN | apply keep_drew | apply keep_alloc) | exact HK.out)⟩
 ·replace H := Option.bind_eq_some_iff.mp H
  obtain ⟨⟨t265, t266, t267⟩, A40, H⟩ := H
  replace H : (if a1 > 200 then ((spec_l1Cur_next.f s0_0 t266 t267).bind fun bt268 => (if a1 = 0 then (none) else (some (Int.tmod (wrap64 ((wrap64 (t265 * 256)) + bt268.1)) a1, bt268.2.1, bt268.2.2)))) else (if a1 = 0 then (none) else (some (Int.tmod t265 a1, t266, t267)))) = some (r1, r2, r3) := H
  have A4 := Aside0.mk A40
  clear A40
  replace H := ifD H
  rcases H with ⟨H, -, c5b0⟩ | ⟨H, -, c5b0⟩
  ·replace H := Option.bind_eq_some_iff.mp H
   obtain ⟨⟨t268, t269, t270⟩, A60, H⟩ := H
   replace H : (if a1 = 0 then (none) else (some (Int.tmod (wrap64 ((wrap64 (t265 * 256)) + t268)) a1, t269, t270))) = some (r1, r2, r3) := H
   have A6 := Aside0.mk A60
   clear A60
   by_cases c7 : a1 = 0
   ·rw [if_pos c7] at H
    exact absurd H (by simp)
   ·rw [if_neg c7] at H
    have c7b0 : (a1 == 0) = false := beq_eq_false_iff_ne.mpr c7
    have c7b1 : (a1 != 0) = true := bne_iff_ne.mpr c7
    simp only [Option.some.injEq, Prod.mk.injEq] at H
    obtain ⟨rfl, rfl, rfl⟩ := H
    go_enter Try.func83, Try.ntmps83
    go_wp2_with (first | ((with_reducible refine gate_callee (f := 109) rfl ?_); refine goesL_ (some 9) rfl rfl Try.func109 (by kernel_rfl) rfl #[.pointer (some ⟨g, 0, none⟩)] rfl argsB ?_; (with_reducible refine (spec_l1Cur_next.calls g s0_0 s0_1 s0_2 t265 t266 t267 w0 _ ?side1 ?side2 A4.out).mono ?_); (case side1 => repeat (first | (with_reducible first | exact HI0.out | apply IsS90.alloc | apply IsS90.drewN | apply IsS90.drew | apply IsS90.set_1 | apply IsS90.set_2) | exact HI0.out)); (case side2 => repeat (first | (with_reducible first | exact HB.out | apply below_alloc | apply pw_below_drewN | apply below_drew1 | refine below_set ?_ (IsS90.ge HI0.out)) | exact HB.out)); rintro e w8 ⟨rfl, hi, hb, hk⟩; refine ⟨_, rfl, ?_⟩; replace HK := Aside0.mk (KeepBut.trans (by repeat (first | (with_reducible first | exact HK.out | apply KeepBut.set_ | apply keep_drewN | apply keep_drew | apply keep_alloc) | exact HK.out)) hk (.inl rfl)); replace HB := Aside0.mk (hb); replace HI0 := Aside0.mk (hi); (try clear hb); (try clear hk); (try clear hi)) | ((with_reducible refine gate_callee (f := 109) rfl ?_); refine goesL_ (some 15) rfl rfl Try.func109 (by kernel_rfl) rfl #[.pointer (some ⟨g, 0, none⟩)] rfl argsB ?_; (with_reducible refine (spec_l1Cur_next.calls g s0_0 t266 t267 t268 t269 t270 w0 _ ?side1 ?side2 A6.out).mono ?_); (case side1 => repeat (first | (with_reducible first | exact HI0.out | apply IsS90.alloc | apply IsS90.drewN | apply IsS90.drew | apply IsS90.set_1 | apply IsS90.set_2) | exact HI0.out)); (case side2 => repeat (first | (with_reducible first | exact HB.out | apply below_alloc | apply pw_below_drewN | apply below_drew1 | refine below_set ?_ (IsS90.ge HI0.out)) | exact HB.out)); rintro e w9 ⟨rfl, hi, hb, hk⟩; refine ⟨_, rfl, ?_⟩; replace HK := Aside0.mk (KeepBut.trans (by repeat (first | (with_reducible first | exact HK.out | apply KeepBut.set_ | apply keep_drewN | apply keep_drew | apply keep_alloc) | exact HK.out)) hk (.inl rfl)); replace HB := Aside0.mk (hb); replace HI0 := Aside0.mk (hi); (try clear hb); (try clear hk); (try clear hi)))
    go_ret
    exact ⟨eB, by repeat (first | (with_reducible first | exact HI0.out | apply IsS90.alloc | apply IsS90.drewN | apply IsS90.drew | apply IsS90.set_1 | apply IsS90.set_2) | exact HI0.out), by repeat (first | (with_reducible first | exact HB.out | apply below_alloc | apply pw_below_drewN | apply below_drew1 | refine below_set ?_ (IsS90.ge HI0.out)) | exact HB.out), by repeat (first | (with_reducible first | exact HK.out | apply KeepBut.set_ | apply keep_drewN | apply keep_drew | apply keep_alloc) | exact HK.out)⟩
  ·by_cases c10 : a1 = 0
   ·rw [if_pos c10] at H
    exact absurd H (by simp)
   ·rw [if_neg c10] at H
    have c10b0 : (a1 == 0) = false := beq_eq_false_iff_ne.mpr c10
    have c10b1 : (a1 != 0) = true := bne_iff_ne.mpr c10
    simp only [Option.some.injEq, Prod.mk.injEq] at H
    obtain ⟨rfl, rfl, rfl⟩ := H
    go_enter Try.func83, Try.ntmps83
    go_wp2_with (first | ((with_reducible refine gate_callee (f := 109) rfl ?_); refine goesL_ (some 9) rfl rfl Try.func109 (by kernel_rfl) rfl #[.pointer (some ⟨g, 0, none⟩)] rfl argsB ?_; (with_reducible refine (spec_l1Cur_next.calls g s0_0 s0_1 s0_2 t265 t266 t267 w0 _ ?side1 ?side2 A4.out).mono ?_); (case side1 => repeat (first | (with_reducible first | exact HI0.out | apply IsS90.alloc | apply IsS90.drewN | apply IsS90.drew | apply IsS90.set_1 | apply IsS90.set_2) | exact HI0.out)); (case side2 => repeat (first | (with_reducible first | exact HB.out | apply below_alloc | apply pw_below_drewN | apply below_drew1 | refine below_set ?_ (IsS90.ge HI0.out)) | exact HB.out)); rintro e w11 ⟨rfl, hi, hb, hk⟩; refine ⟨_, rfl, ?_⟩; replace HK := Aside0.mk (KeepBut.trans (by repeat (first | (with_reducible first | exact HK.out | apply KeepBut.set_ | apply keep_drewN | apply keep_drew | apply keep_alloc) | exact HK.out)) hk (.inl rfl)); replace HB := Aside0.mk (hb); replace HI0 := Aside0.mk (hi); (try clear hb); (try clear hk); (try clear hi)))
    go_ret
    exact ⟨eB, by repeat (first | (with_reducible first | exact HI0.out | apply IsS90.alloc | apply IsS90.drewN | apply IsS90.drew | apply IsS90.set_1 | apply IsS90.set_2) | exact HI0.out), by repeat (first | (with_reducible first | exact HB.out | apply below_alloc | apply pw_below_drewN | apply below_drew1 | refine below_set ?_ (IsS90.ge HI0.out)) | exact HB.out), by repeat (first | (with_reducible first | exact HK.out | apply KeepBut.set_ | apply keep_drewN | apply keep_drew | apply keep_alloc) | exact HK.out)⟩

/-! ### spec_l1Cur_one: function 82 -/
def spec_l1Cur_one.f (s0_0 : List Int) (s0_1 s0_2 a1 : Int) : Option (Bool × Int × Int) := (spec_l1Cur_pick.f s0_0 s0_1 s0_2 a1).bind fun bt271 => (some ((bt271.1 == 0), bt271.2.1, bt271.2.2))
set_option maxHeartbeats 8000000 in
set_option maxRecDepth 100000 in
theorem spec_l1Cur_one.calls (g : Nat) (s0_0 : List Int) (s0_1 s0_2 a1 : Int) (r1 : Bool) (r2 r3 : Int) (w0 w : World) (hI : IsS90 w0 w g s0_0 s0_1 s0_2) (hB : Below w0.heap.size w0 w) (h : spec_l1Cur_one.f s0_0 s0_1 s0_2 a1 = some (r1, r2, r3)) :
  Calls Try.prog 82 #[.pointer (some ⟨g, 0, none⟩), .int .i64 a1] w fun e w' => e = .returned (.bool r1) ∧ IsS90 w0 w' g s0_0 r2 r3 ∧ Below w0.heap.size w0 w' ∧ KeepBut w w' g none := by
 have HI0 := Aside0.mk hI
 have HK := Aside0.mk (KeepBut.refl w g none)
 have HL := Aside0.mk hB.size
 clear hI
 have HW0 := Aside0.mk hB.size
 have HB := Aside0.mk hB
 clear hB
 have H := h
 clear h
 unfold spec_l1Cur_one.f at H
 replace H := Option.bind_eq_some_iff.mp H
 obtain ⟨⟨t271, t272, t273⟩, A30, H⟩ := H
 replace H : (some ((t271 == 0), t272, t273)) = some (r1, r2, r3) := H
 have A3 := Aside0.mk A30
 clear A30
 simp only [Option.some.injEq, Prod.mk.injEq] at H
 obtain ⟨rfl, rfl, rfl⟩ := H
 go_enter Try.func82, Try.ntmps82
 go_wp2_with (first | ((with_reducible refine gate_callee (f := 83) rfl ?_); refine goesL_ (some 7) rfl rfl Try.func83 (by kernel_rfl) rfl #[.pointer (some ⟨g, 0, none⟩), .int .i64 a1] rfl argsB ?_; (with_reducible refine (spec_l1Cur_pick.calls g s0_0 s0_1 s0_2 a1 t271 t272 t273 w0 _ ?side1 ?side2 A3.out).mono ?_); (case side1 => repeat (first | (with_reducible first | exact HI0.out | apply IsS90.alloc | apply IsS90.drewN | apply IsS90.drew | apply IsS90.set_1 | apply IsS90.set_2) | exact HI0.out)); (case side2 => repeat (first | (with_reducible first | exact HB.out | apply below_alloc | apply pw_below_drewN | apply below_drew1 | refine below_set ?_ (IsS90.ge HI0.out)) | exact HB.out)); rintro e w4 ⟨rfl, hi, hb, hk⟩; refine ⟨_, rfl, ?_⟩; replace HK := Aside0.mk (KeepBut.trans (by repeat (first | (with_reducible first | exact HK.out | apply KeepBut.set_ | apply keep_drewN | apply keep_drew | apply keep_alloc) | exact HK.out)) hk (.inl rfl)); replace HB := Aside0.mk (hb); replace HI0 := Aside0.mk (hi); (try clear hb); (try clear hk); (try clear hi)))
 go_ret
 exact ⟨eB, by repeat (first | (with_reducible first | exact HI0.out | apply IsS90.alloc | apply IsS90.drewN | apply IsS90.drew | apply IsS90.set_1 | apply IsS90.set_2) | exact HI0.out), by repeat (first | (with_reducible first | exact HB.out | apply below_alloc | apply pw_below_drewN | apply below_drew1 | refine below_set ?_ (IsS90.ge HI0.out)) | exact HB.out), by repeat (first | (with_reducible first | exact HK.out | apply KeepBut.set_ | apply keep_drewN | apply keep_drew | apply keep_alloc) | exact HK.out)⟩

/-! ### spec_l1Cur_among: function 86 -/
def spec_l1Cur_among.f (s0_0 : List Int) (s0_1 s0_2 : Int) (l1 : List Int) : Option (Int × Int × Int) := (spec_l1Cur_pick.f s0_0 s0_1 s0_2 (l1.length : Int)).bind fun bt274 => (if 0 ≤ bt274.1 then (if bt274.1 < (l1.length : Int) then (some (rd l1 bt274.1, bt274.2.1, bt274.2.2)) else (none)) else (none))
set_option maxHeartbeats 8000000 in
set_option maxRecDepth 100000 in
theorem spec_l1Cur_among.calls (g : Nat) (s0_0 : List Int) (s0_1 s0_2 : Int) (A1 : Option Addr) (c1 : Nat) (l1 : List Int) (r1 r2 r3 : Int) (w0 w : World) (hI : IsS90 w0 w g s0_0 s0_1 s0_2) (hB : Below w0.heap.size w0 w) (hr1 : Kd.C (Kd.int .i64) w A1 l1.length l1) (hc1 : l1.length ≤ c1) (hf1 : ∀ ad, A1 = some ad → 0 < l1.length → ad.block ≠ g) (h : spec_l1Cur_among.f s0_0 s0_1 s0_2 l1 = some (r1, r2, r3)) :
  Calls Try.prog 86 #[.pointer (some ⟨g, 0, none⟩), .slice A1 l1.length c1] w fun e w' => e = .returned (.int .i64 r1) ∧ IsS90 w0 w' g s0_0 r2 r3 ∧ Below w0.heap.size w0 w' ∧ KeepBut w w' g none := by
 have HR1 := Aside0.mk hr1
 have HC1 := Aside0.mk hc1
 clear hr1 hc1
 have HI0 := Aside0.mk hI
 have HK := Aside0.mk (KeepBut.refl w g none)
 have HL := Aside0.mk hB.size
 clear hI
 have HW0 := Aside0.mk hB.size
 have HB := Aside0.mk hB
 clear hB
 have H := h
 clear h
 unfold spec_l1Cur_among.f at H
 replace H := Option.bind_eq_some_iff.mp H
 obtain ⟨⟨t274, t275, t276⟩, A30, H⟩ := H
 replace H : (if 0 ≤ t274 then (if t274 < (l1.length : Int) then (some (rd l1 t274, t275, t276)) else (none)) else (none)) = some (r1, r2, r3) := H
 have A3 := Aside0.mk A30
 clear A30
 by_cases c4 : 0 ≤ t274
 ·rw [if_pos c4] at H
  have c4b0 : decide (0 ≤ t274) = true := decide_eq_true c4
  clear c4
  by_cases c5 : t274 < (l1.length : Int)
  ·rw [if_pos c5] at H
   have c5b0 : decide (t274 < (l1.length : Int)) = true := decide_eq_true c5
   clear c5
   simp only [Option.some.injEq, Prod.mk.injEq] at H
   obtain ⟨rfl, rfl, rfl⟩ := H
   go_enter Try.func86, Try.ntmps86
   go_wp2_with (first | ((with_reducible refine gate_callee (f := 83) rfl ?_); refine goesL_ (some 9) rfl rfl Try.func83 (by kernel_rfl) rfl #[.pointer (some ⟨g, 0, none⟩), .int .i64 (l1.length : Int)] rfl argsB ?_; (with_reducible refine (spec_l1Cur_pick.calls g s0_0 s0_1 s0_2 (l1.length : Int) t274 t275 t276 w0 _ ?side1 ?side2 A3.out).mono ?_); (case side1 => repeat (first | (with_reducible first | exact HI0.out | apply IsS90.alloc | apply IsS90.drewN | apply IsS90.drew | apply IsS90.set_1 | apply IsS90.set_2) | exact HI0.out)); (case side2 => repeat (first | (with_reducible first | exact HB.out | apply below_alloc | apply pw_below_drewN | apply below_drew1 | refine below_set ?_ (IsS90.ge HI0.out)) | exact HB.out)); rintro e w6 ⟨rfl, hi, hb, hk⟩; refine ⟨_, rfl, ?_⟩; replace HK := Aside0.mk (KeepBut.trans (by repeat (first | (with_reducible first | exact HK.out | apply KeepBut.set_ | apply keep_drewN | apply keep_drew | apply keep_alloc) | exact HK.out)) hk (.inl rfl)); replace HB := Aside0.mk (hb); replace HI0 := Aside0.mk (hi); (try clear hb); (try clear hk); (try clear hi); have p277 : 0 ≤ (t274 : Int) := of_decide_eq_true asmB; have q277 : t274 < (l1.length : Int) := of_decide_eq_true asmB; obtain ⟨ad277, e277, hx277_0⟩ := Kd.at_int HR1.out t274 p277 q277; cases e277; replace hx277_0 := keep_cell HK.out hx277_0 (by first | (rw [add_block]; exact hf1 _ rfl (by omega)) | exact hf1 _ rfl (by omega) | exact hf1 ad277 rfl (by omega)); replace p277 := eq_true p277; replace q277 := eq_true q277))
   go_ret
   exact ⟨eB, by repeat (first | (with_reducible first | exact HI0.out | apply IsS90.alloc | apply IsS90.drewN | apply IsS90.drew | apply IsS90.set_1 | apply IsS90.set_2) | exact HI0.out), by repeat (first | (with_reducible first | exact HB.out | apply below_alloc | apply pw_below_drewN | apply below_drew1 | refine below_set ?_ (IsS90.ge HI0.out)) | exact HB.out), by repeat (first | (with_reducible first | exact HK.out | apply KeepBut.set_ | apply keep_drewN | apply keep_drew | apply keep_alloc) | exact HK.out)⟩
  ·rw [if_neg c5] at H
   exact absurd H (by simp)
 ·rw [if_neg c4] at H
  exact absurd H (by simp)

/-! ### spec_l4Plus: function 102 -/
def spec_l4Plus.f (a0_0 a0_1 a0_2 a1_0 a1_1 a1_2 a2 : Int) : Option (Int × Int × Int) := some (wrap64 (a0_0 + (wrap64 (a2 * a1_0))), wrap64 (a0_1 + (wrap64 (a2 * a1_1))), wrap64 (a0_2 + (wrap64 (a2 * a1_2))))
set_option maxHeartbeats 8000000 in
set_option maxRecDepth 100000 in
theorem spec_l4Plus.calls (a0_0 a0_1 a0_2 a1_0 a1_1 a1_2 a2 r1 r2 r3 : Int) (w : World) (h : spec_l4Plus.f a0_0 a0_1 a0_2 a1_0 a1_1 a1_2 a2 = some (r1, r2, r3)) :
  Calls Try.prog 102 #[.agg #[.int .i64 a0_0, .int .i64 a0_1, .int .i64 a0_2], .agg #[.int .i64 a1_0, .int .i64 a1_1, .int .i64 a1_2], .int .i64 a2] w fun e w' => e = .returned (.agg #[.int .i64 r1, .int .i64 r2, .int .i64 r3]) ∧ Below w.heap.size w w' := by
 have hu103 := Try.underlying103
 have HB := Aside0.mk (Below.refl w.heap.size w)
 have H := h
 clear h
 unfold spec_l4Plus.f at H
 simp only [Option.some.injEq, Prod.mk.injEq] at H
 obtain ⟨rfl, rfl, rfl⟩ := H
 go_enter Try.func102, Try.ntmps102
 go_wp2_with (first | ((with_reducible refine gD 3 ?_); refine bxE 3 103 #[.int .i64 a0_0, .int .i64 a0_1, .int .i64 a0_2] fun gb278 w4 hg hbox hb => ?_; have BK278 := Aside0.mk hbox; have GE278 := gB HB hg; replace HB := uB HB hb; clear hb hbox hg) | ((with_reducible refine gD 4 ?_); refine bxE 4 103 #[.int .i64 a1_0, .int .i64 a1_1, .int .i64 a1_2] fun gb279 w5 hg hbox hb => ?_; have BK279 := Aside0.mk hbox; have GE279 := gB HB hg; have ⟨NB278_279, NB279_278⟩ := nB BK278 hg; replace BK278 := uK BK278 hb; replace HB := uB HB hb; clear hb hbox hg) | ((with_reducible refine gD 6 ?_); refine bxE 6 103 #[.int .i64 0, .int .i64 0, .int .i64 0] fun gb280 w6 hg hbox hb => ?_; have BK280 := Aside0.mk hbox; have GE280 := gB HB hg; have ⟨NB278_280, NB280_278⟩ := nB BK278 hg; have ⟨NB279_280, NB280_279⟩ := nB BK279 hg; replace BK278 := uK BK278 hb; replace BK279 := uK BK279 hb; replace HB := uB HB hb; clear hb hbox hg; have hnb7 := NB278_279.out; have hnc7 := NB279_278.out; have hnb8 := NB278_280.out; have hnc8 := NB280_278.out; have ⟨hcz9_0, hcz9_1, hcz9_2, hfz9_0⟩ := cz3 BK278; have hnb10 := NB279_280.out; have hnc10 := NB280_279.out; have ⟨hcz11_0, hcz11_1, hcz11_2, hfz11_0⟩ := cz3 BK279; have ⟨hcz12_0, hcz12_1, hcz12_2, hfz12_0⟩ := cz3 BK280))
 refine bodyPost_ret (results_cell_row rfl _ _ gb280 103 #[.int .i64 (wrap64 (a0_0 + (wrap64 (a2 * a1_0)))), .int .i64 (wrap64 (a0_1 + (wrap64 (a2 * a1_1)))), .int .i64 (wrap64 (a0_2 + (wrap64 (a2 * a1_2))))] (0, 0) _ rfl (by exact pW BK280) Try.underlying103 rfl (by kernel_rfl)) rfl ?_
 exact ⟨eB, (bW HB)⟩

/-! ### spec_l2Div: function 115 -/
def spec_l2Div.f (a0 a1 : Int) : Option (Int) := if a0 < 0 then (if (wrap64 (2 * a1)) = 0 then (none) else (some (wrap64 (-(wrap64 (Int.tdiv (wrap64 ((wrap64 ((-2) * a0)) + a1)) (wrap64 (2 * a1)))))))) else (if (wrap64 (2 * a1)) = 0 then (none) else (some (wrap64 (Int.tdiv (wrap64 ((wrap64 (2 * a0)) + a1)) (wrap64 (2 * a1))))))
set_option maxHeartbeats 8000000 in
set_option maxRecDepth 100000 in
theorem spec_l2Div.calls (a0 a1 r : Int) (w : World) (h : spec_l2Div.f a0 a1 = some r) :
  Calls Try.prog 115 #[.int .i64 a0, .int .i64 a1] w fun e w' => e = .returned (.int .i64 r) ∧ Drawn0 w w' := by
 have H := h
 clear h
 unfold spec_l2Div.f at H
 replace H := ifD H
 rcases H with ⟨H, -, c3b0⟩ | ⟨H, -, c3b0⟩
 ·by_cases c4 : (wrap64 (2 * a1)) = 0
  ·rw [if_pos c4] at H
   exact absurd H (by simp)
  ·rw [if_neg c4] at H
   have c4b0 : ((wrap64 (2 * a1)) == 0) = false := beq_eq_false_iff_ne.mpr c4
   have c4b1 : ((wrap64 (2 * a1)) != 0) = true := bne_iff_ne.mpr c4
   obtain rfl := Option.some.inj H
   go_enter Try.func115, Try.ntmps115
   go_wp2
   go_ret
   exact ⟨rB, by repeat (first | exact Drawn0.refl _ | apply Drawn0.step)⟩
 ·by_cases c5 : (wrap64 (2 * a1)) = 0
  ·rw [if_pos c5] at H
   exact absurd H (by simp)
  ·rw [if_neg c5] at H
   have c5b0 : ((wrap64 (2 * a1)) == 0) = false := beq_eq_false_iff_ne.mpr c5
   have c5b1 : ((wrap64 (2 * a1)) != 0) = true := bne_iff_ne.mpr c5
   obtain rfl := Option.some.inj H
   go_enter Try.func115, Try.ntmps115
   go_wp2
   go_ret
   exact ⟨rB, by repeat (first | exact Drawn0.refl _ | apply Drawn0.step)⟩

/-! ### spec_l2Table: function 119 -/
def spec_l2Table.f  : Option (List Int) := some (([0, 17, 35, 52, 70, 87, 105, 122, 139, 156, 174, 191, 208, 225, 242, 259, 276, 292, 309, 326, 342, 358, 375, 391, 407, 423, 438, 454, 469, 485, 500, 515, 530, 545, 559, 574, 588, 602, 616, 629, 643, 656, 669, 682, 695, 707, 719, 731, 743, 755, 766, 777, 788, 799, 809, 819, 829, 839, 848, 857, 866, 875, 883, 891, 899, 906, 914, 921, 927, 934, 940, 946, 951, 956, 961, 966, 970, 974, 978, 982, 985, 988, 990, 993, 995, 996, 998, 999, 999, 1000, 1000] : List Int))
set_option maxHeartbeats 8000000 in
set_option maxRecDepth 100000 in
theorem spec_l2Table.calls  (r : List Int) (w : World) (h : spec_l2Table.f  = some r) :
  Calls Try.prog 119 #[] w fun e w' => ∃ v0_ : Value, e = .returned (v0_) ∧ Kd.R (Kd.int .i64) 3 w' w.heap.size (fun _ => True) v0_ r ∧ Below w.heap.size w w' := by
 have HB := Aside0.mk (Below.refl w.heap.size w)
 have H := h
 clear h
 unfold spec_l2Table.f at H
 obtain ⟨y281, hy281⟩ : ∃ y_ : List Int, y_ = (([0, 17, 35, 52, 70, 87, 105, 122, 139, 156, 174, 191, 208, 225, 242, 259, 276, 292, 309, 326, 342, 358, 375, 391, 407, 423, 438, 454, 469, 485, 500, 515, 530, 545, 559, 574, 588, 602, 616, 629, 643, 656, 669, 682, 695, 707, 719, 731, 743, 755, 766, 777, 788, 799, 809, 819, 829, 839, 848, 857, 866, 875, 883, 891, 899, 906, 914, 921, 927, 934, 940, 946, 951, 956, 961, 966, 970, 974, 978, 982, 985, 988, 990, 993, 995, 996, 998, 999, 999, 1000, 1000] : List Int)) := ⟨_, rfl⟩
 replace H : (some y281) = some r := by first | (rw [hy281]; with_reducible exact H) | (have H2_ := (Option.bind_some _ _).symm.trans H; rw [hy281]; with_reducible exact H2_) | (have H2_ := (Option.bind_some _ _).symm.trans H; with_reducible exact H2_) | with_reducible exact H | (rw [hy281]; exact H) | exact H
 have Ny281 := Aside0.mk hy281
 clear hy281
 obtain rfl := Option.some.inj H
 go_enter Try.func119, Try.ntmps119
 go_wp2_with (first | ((with_reducible refine gate_dst (N := 1) rfl ?_); refine Kd.R_lit (Kd.int .i64) _ 3 ?hg (N := 1) ?hd (xs := ([0, 17, 35, 52, 70, 87, 105, 122, 139, 156, 174, 191, 208, 225, 242, 259, 276, 292, 309, 326, 342, 358, 375, 391, 407, 423, 438, 454, 469, 485, 500, 515, 530, 545, 559, 574, 588, 602, 616, 629, 643, 656, 669, 682, 695, 707, 719, 731, 743, 755, 766, 777, 788, 799, 809, 819, 829, 839, 848, 857, 866, 875, 883, 891, 899, 906, 914, 921, 927, 934, 940, 946, 951, 956, 961, 966, 970, 974, 978, 982, 985, 988, 990, 993, 995, 996, 998, 999, 999, 1000, 1000] : List Int)) (inner := [.int .i64 0, .int .i64 17, .int .i64 35, .int .i64 52, .int .i64 70, .int .i64 87, .int .i64 105, .int .i64 122, .int .i64 139, .int .i64 156, .int .i64 174, .int .i64 191, .int .i64 208, .int .i64 225, .int .i64 242, .int .i64 259, .int .i64 276, .int .i64 292, .int .i64 309, .int .i64 326, .int .i64 342, .int .i64 358, .int .i64 375, .int .i64 391, .int .i64 407, .int .i64 423, .int .i64 438, .int .i64 454, .int .i64 469, .int .i64 485, .int .i64 500, .int .i64 515, .int .i64 530, .int .i64 545, .int .i64 559, .int .i64 574, .int .i64 588, .int .i64 602, .int .i64 616, .int .i64 629, .int .i64 643, .int .i64 656, .int .i64 669, .int .i64 682, .int .i64 695, .int .i64 707, .int .i64 719, .int .i64 731, .int .i64 743, .int .i64 755, .int .i64 766, .int .i64 777, .int .i64 788, .int .i64 799, .int .i64 809, .int .i64 819, .int .i64 829, .int .i64 839, .int .i64 848, .int .i64 857, .int .i64 866, .int .i64 875, .int .i64 883, .int .i64 891, .int .i64 899, .int .i64 906, .int .i64 914, .int .i64 921, .int .i64 927, .int .i64 934, .int .i64 940, .int .i64 946, .int .i64 951, .int .i64 956, .int .i64 961, .int .i64 966, .int .i64 970, .int .i64 974, .int .i64 978, .int .i64 982, .int .i64 985, .int .i64 988, .int .i64 990, .int .i64 993, .int .i64 995, .int .i64 996, .int .i64 998, .int .i64 999, .int .i64 999, .int .i64 1000, .int .i64 1000]) (ok := fun _ => True) (okp := fun _ => True) ?hr ?hp (fun _ hk => hk) trivial (Below.refl _ _) (Nat.le_refl _) (by simp) ?_; (case hd => rfl); (case hg => rfl); (case hr => first | (go_simp; done) | (go_simp; rfl)); (case hp => exact (Reps.one (show Kd.M (Kd.int .i64) _ _ _ 0 [.int .i64 0] from rfl) (Reps.one (show Kd.M (Kd.int .i64) _ _ _ 17 [.int .i64 17] from rfl) (Reps.one (show Kd.M (Kd.int .i64) _ _ _ 35 [.int .i64 35] from rfl) (Reps.one (show Kd.M (Kd.int .i64) _ _ _ 52 [.int .i64 52] from rfl) (Reps.one (show Kd.M (Kd.int .i64) _ _ _ 70 [.int .i64 70] from rfl) (Reps.one (show Kd.M (Kd.int .i64) _ _ _ 87 [.int .i64 87] from rfl) (Reps.one (show Kd.M (Kd.int .i64) _ _ _ 105 [.int .i64 105] from rfl) (Reps.one (show Kd.M (Kd.int .i64) _ _ _ 122 [.int .i64 122] from rfl) (Reps.one (show Kd.M (Kd.int .i64) _ _ _ 139 [.int .i64 139] from rfl) (Reps.one (show Kd.M (Kd.int .i64) _ _ _ 156 [.int .i64 156] from rfl) (Reps.one (show Kd.M (Kd.int .i64) _ _ _ 174 [.int .i64 174] from rfl) (Reps.one (show Kd.M (Kd.int .i64) _ _ _ 191 [.int .i64 191] from rfl) (Reps.one (show Kd.M (Kd.int .i64) _ _ _ 208 [.int .i64 208] from rfl) (Reps.one (show Kd.M (Kd.int .i64) _ _ _ 225 [.int .i64 225] from rfl) (Reps.one (show Kd.M (Kd.int .i64) _ _ _ 242 [.int .i64 242] from rfl) (Reps.one (show Kd.M (Kd.int .i64) _ _ _ 259 [.int .i64 259] from rfl) (Reps.one (show Kd.M (Kd.int .i64) _ _ _ 276 [.int .i64 276] from rfl) (Reps.one (show Kd.M (Kd.int .i64) _ _ _ 292 [.int .i64 292] from rfl) (Reps.one (show Kd.M (Kd.int .i64) _ _ _ 309 [.int .i64 309] from rfl) (Reps.one (show Kd.M (Kd.int .i64) _ _ _ 326 [.int .i64 326] from rfl) (Reps.one (show Kd.M (Kd.int .i64) _ _ _ 342 [.int .i64 342] from rfl) (Reps.one (show Kd.M (Kd.int .i64) _ _ _ 358 [.int .i64 358] from rfl) (Reps.one (show Kd.M (Kd.int .i64) _ _ _ 375 [.int .i64 375] from rfl) (Reps.one (show Kd.M (Kd.int .i64) _ _ _ 391 [.int .i64 391] from rfl) (Reps.one (show Kd.M (Kd.int .i64) _ _ _ 407 [.int .i64 407] from rfl) (Reps.one (show Kd.M (Kd.int .i64) _ _ _ 423 [.int .i64 423] from rfl) (Reps.one (show Kd.M (Kd.int .i64) _ _ _ 438 [.int .i64 438] from rfl) (Reps.one (show Kd.M (Kd.int .i64) _ _ _ 454 [.int .i64 454] from rfl) (Reps.one (show Kd.M (Kd.int .i64) _ _ _ 469 [.int .i64 469] from rfl) (Reps.one (show Kd.M (Kd.int .i64) _ _ _ 485 [.int .i64 485] from rfl) (Reps.one (show Kd.M (Kd.int .i64) _ _ _ 500 [.int .i64 500] from rfl) (Reps.one (show Kd.M (Kd.int .i64) _ _ _ 515 [.int .i64 515] from rfl) (Reps.one (show Kd.M (Kd.int .i64) _ _ _ 530 [.int .i64 530] from rfl) (Reps.one (show Kd.M (Kd.int .i64) _ _ _ 545 [.int .i64 545] from rfl) (Reps.one (show Kd.M (Kd.int .i64) _ _ _ 559 [.int .i64 559] from rfl) (Reps.one (show Kd.M (Kd.int .i64) _ _ _ 574 [.int .i64 574] from rfl) (Reps.one (show Kd.M (Kd.int .i64) _ _ _ 588 [.int .i64 588] from rfl) (Reps.one (show Kd.M (Kd.int .i64) _ _ _ 602 [.int .i64 602] from rfl) (Reps.one (show Kd.M (Kd.int .i64) _ _ _ 616 [.int .i64 616] from rfl) (Reps.one (show Kd.M (Kd.int .i64) _ _ _ 629 [.int .i64 629] from rfl) (Reps.one (show Kd.M (Kd.int .i64) _ _ _ 643 [.int .i64 643] from rfl) (Reps.one (show Kd.M (Kd.int .i64) _ _ _ 656 [.int .i64 656] from rfl) (Reps.one (show Kd.M (Kd.int .i64) _ _ _ 669 [.int .i64 669] from rfl) (Reps.one (show Kd.M (Kd.int .i64) _ _ _ 682 [.int .i64 682] from rfl) (Reps.one (show Kd.M (Kd.int .i64) _ _ _ 695 [.int .i64 695] from rfl) (Reps.one (show Kd.M (Kd.int .i64) _ _ _ 707 [.int .i64 707] from rfl) (Reps.one (show Kd.M (Kd.int .i64) _ _ _ 719 [.int .i64 719] from rfl) (Reps.one (show Kd.M (Kd.int .i64) _ _ _ 731 [.int .i64 731] from rfl) (Reps.one (show Kd.M (Kd.int .i64) _ _ _ 743 [.int .i64 743] from rfl) (Reps.one (show Kd.M (Kd.int .i64) _ _ _ 755 [.int .i64 755] from rfl) (Reps.one (show Kd.M (Kd.int .i64) _ _ _ 766 [.int .i64 766] from rfl) (Reps.one (show Kd.M (Kd.int .i64) _ _ _ 777 [.int .i64 777] from rfl) (Reps.one (show Kd.M (Kd.int .i64) _ _ _ 788 [.int .i64 788] from rfl) (Reps.one (show Kd.M (Kd.int .i64) _ _ _ 799 [.int .i64 799] from rfl) (Reps.one (show Kd.M (Kd.int .i64) _ _ _ 809 [.int .i64 809] from rfl) (Reps.one (show Kd.M (Kd.int .i64) _ _ _ 819 [.int .i64 819] from rfl) (Reps.one (show Kd.M (Kd.int .i64) _ _ _ 829 [.int .i64 829] from rfl) (Reps.one (show Kd.M (Kd.int .i64) _ _ _ 839 [.int .i64 839] from rfl) (Reps.one (show Kd.M (Kd.int .i64) _ _ _ 848 [.int .i64 848] from rfl) (Reps.one (show Kd.M (Kd.int .i64) _ _ _ 857 [.int .i64 857] from rfl) (Reps.one (show Kd.M (Kd.int .i64) _ _ _ 866 [.int .i64 866] from rfl) (Reps.one (show Kd.M (Kd.int .i64) _ _ _ 875 [.int .i64 875] from rfl) (Reps.one (show Kd.M (Kd.int .i64) _ _ _ 883 [.int .i64 883] from rfl) (Reps.one (show Kd.M (Kd.int .i64) _ _ _ 891 [.int .i64 891] from rfl) (Reps.one (show Kd.M (Kd.int .i64) _ _ _ 899 [.int .i64 899] from rfl) (Reps.one (show Kd.M (Kd.int .i64) _ _ _ 906 [.int .i64 906] from rfl) (Reps.one (show Kd.M (Kd.int .i64) _ _ _ 914 [.int .i64 914] from rfl) (Reps.one (show Kd.M (Kd.int .i64) _ _ _ 921 [.int .i64 921] from rfl) (Reps.one (show Kd.M (Kd.int .i64) _ _ _ 927 [.int .i64 927] from rfl) (Reps.one (show Kd.M (Kd.int .i64) _ _ _ 934 [.int .i64 934] from rfl) (Reps.one (show Kd.M (Kd.int .i64) _ _ _ 940 [.int .i64 940] from rfl) (Reps.one (show Kd.M (Kd.int .i64) _ _ _ 946 [.int .i64 946] from rfl) (Reps.one (show Kd.M (Kd.int .i64) _ _ _ 951 [.int .i64 951] from rfl) (Reps.one (show Kd.M (Kd.int .i64) _ _ _ 956 [.int .i64 956] from rfl) (Reps.one (show Kd.M (Kd.int .i64) _ _ _ 961 [.int .i64 961] from rfl) (Reps.one (show Kd.M (Kd.int .i64) _ _ _ 966 [.int .i64 966] from rfl) (Reps.one (show Kd.M (Kd.int .i64) _ _ _ 970 [.int .i64 970] from rfl) (Reps.one (show Kd.M (Kd.int .i64) _ _ _ 974 [.int .i64 974] from rfl) (Reps.one (show Kd.M (Kd.int .i64) _ _ _ 978 [.int .i64 978] from rfl) (Reps.one (show Kd.M (Kd.int .i64) _ _ _ 982 [.int .i64 982] from rfl) (Reps.one (show Kd.M (Kd.int .i64) _ _ _ 985 [.int .i64 985] from rfl) (Reps.one (show Kd.M (Kd.int .i64) _ _ _ 988 [.int .i64 988] from rfl) (Reps.one (show Kd.M (Kd.int .i64) _ _ _ 990 [.int .i64 990] from rfl) (Reps.one (show Kd.M (Kd.int .i64) _ _ _ 993 [.int .i64 993] from rfl) (Reps.one (show Kd.M (Kd.int .i64) _ _ _ 995 [.int .i64 995] from rfl) (Reps.one (show Kd.M (Kd.int .i64) _ _ _ 996 [.int .i64 996] from rfl) (Reps.one (show Kd.M (Kd.int .i64) _ _ _ 998 [.int .i64 998] from rfl) (Reps.one (show Kd.M (Kd.int .i64) _ _ _ 999 [.int .i64 999] from rfl) (Reps.one (show Kd.M (Kd.int .i64) _ _ _ 999 [.int .i64 999] from rfl) (Reps.one (show Kd.M (Kd.int .i64) _ _ _ 1000 [.int .i64 1000] from rfl) (Reps.one (show Kd.M (Kd.int .i64) _ _ _ 1000 [.int .i64 1000] from rfl) (Reps.none _ _))))))))))))))))))))))))))))))))))))))))))))))))))))))))))))))))))))))))))))))))))))))))))))); intro v282 w1 ho2 hb hg_ hnew_; clear hg_ hnew_; (first | rw [← Ny281.out] at ho2 | (simp only [Int.reduceToNat] at ho2; rw [← Ny281.out] at ho2)); have HO283 := Aside0.mk (Kd.R_lower ho2 (below_size (bW HB))); replace HB := uB HB hb; clear hb ho2))
 go_ret
 exact ⟨_, eB, upR HO283.out, (bW HB)⟩

/-! ### spec_l2Sine: function 117 -/
def spec_l2Sine.f (a0 : Int) : Option (Int) := if (Int.tmod (wrap64 ((Int.tmod a0 360) + 360)) 360) ≤ 90 then ((spec_l2Table.f).bind fun t284 => (if 0 ≤ (Int.tmod (wrap64 ((Int.tmod a0 360) + 360)) 360) then (if (Int.tmod (wrap64 ((Int.tmod a0 360) + 360)) 360) < (t284.length : Int) then (some (rd t284 (Int.tmod (wrap64 ((Int.tmod a0 360) + 360)) 360))) else (none)) else (none))) else (if (Int.tmod (wrap64 ((Int.tmod a0 360) + 360)) 360) ≤ 180 then ((spec_l2Table.f).bind fun t288 => (if 0 ≤ (wrap64 (180 - (Int.tmod (wrap64 ((Int.tmod a0 360) + 360)) 360))) then (if (wrap64 (180 - (Int.tmod (wrap64 ((Int.tmod a0 360) + 360)) 360))) < (t288.length : Int) then (some (rd t288 (wrap64 (180 - (Int.tmod (wrap64 ((Int.tmod a0 360) + 360)) 360))))) else (none)) else (none))) else (if (Int.tmod (wrap64 ((Int.tmod a0 360) + 360)) 360) ≤ 270 then ((spec_l2Table.f).bind fun t292 => (if 0 ≤ (wrap64 ((Int.tmod (wrap64 ((Int.tmod a0 360) + 360)) 360) - 180)) then (if (wrap64 ((Int.tmod (wrap64 ((Int.tmod a0 360) + 360)) 360) - 180)) < (t292.length : Int) then (some (wrap64 (-(rd t292 (wrap64 ((Int.tmod (wrap64 ((Int.tmod a0 360) + 360)) 360) - 180)))))) else (none)) else (none))) else ((spec_l2Table.f).bind fun t296 => (if 0 ≤ (wrap64 (360 - (Int.tmod (wrap64 ((Int.tmod a0 360) + 360)) 360))) then (if (wrap64 (360 - (Int.tmod (wrap64 ((Int.tmod a0 360) + 360)) 360))) < (t296.length : Int) then (some (wrap64 (-(rd t296 (wrap64 (360 - (Int.tmod (wrap64 ((Int.tmod a0 360) + 360)) 360))))))) else (none)) else (none)))))
set_option maxHeartbeats 8000000 in
set_option maxRecDepth 100000 in
theorem spec_l2Sine.calls (a0 r : Int) (w : World) (h : spec_l2Sine.f a0 = some r) :
  Calls Try.prog 117 #[.int .i64 a0] w fun e w' => e = .returned (.int .i64 r) ∧ Below w.heap.size w w' := by
 have HB := Aside0.mk (Below.refl w.heap.size w)
 have H := h
 clear h
 unfold spec_l2Sine.f at H
 replace H := ifD H
 rcases H with ⟨H, -, c2b0⟩ | ⟨H, -, c2b0⟩
 ·replace H := bA H
  obtain ⟨t284, A3, H⟩ := H
  obtain ⟨ji4, hji4⟩ : ∃ j_ : Int, (Int.tmod (wrap64 ((Int.tmod a0 360) + 360)) 360) = j_ := ⟨_, rfl⟩
  replace H : (if 0 ≤ (ji4) then (if (ji4) < (t284.length : Int) then (some (rd t284 (ji4))) else (none)) else (none)) = some r := by first | (rw [hji4] at H; exact H) | (simp only [hji4] at H ⊢; exact H)
  (try rw [hji4] at c2b0)
  (try rw [hji4] at A3)
  by_cases c5 : 0 ≤ (ji4)
  ·rw [if_pos c5] at H
   have c5b0 : decide (0 ≤ (ji4)) = true := decide_eq_true c5
   clear c5
   by_cases c6 : (ji4) < (t284.length : Int)
   ·rw [if_pos c6] at H
    have c6b0 : decide ((ji4) < (t284.length : Int)) = true := decide_eq_true c6
    clear c6
    obtain rfl := Option.some.inj H
    go_enter Try.func117, Try.ntmps117
    go_wp2_with (first | ((with_reducible refine gate_callee (f := 119) rfl ?_); refine goesL_ (some 11) rfl rfl Try.func119 (by kernel_rfl) rfl #[] rfl argsB ?_; (with_reducible refine (spec_l2Table.calls  t284 _ A3.out).mono ?_); rintro e w7 ⟨v285, rfl, ho0, hb⟩; refine ⟨_, rfl, ?_⟩; have HO286 := Aside0.mk (Kd.R_lower ho0 (below_size (bW HB))); replace HB := uB HB hb; (try clear hb); (try clear ho0); obtain ⟨Ao8, co8, eo8⟩ := Kd.R_slice HO286.out; subst eo8; have p287 : 0 ≤ ((ji4) : Int) := of_decide_eq_true asmB; have q287 : (ji4) < (t284.length : Int) := of_decide_eq_true asmB; obtain ⟨ad287, e287, hx287_0⟩ := Kd.at_int (Kd.R_reads' HO286.out).2.2 (ji4) p287 q287; cases e287; replace p287 := eq_true p287; replace q287 := eq_true q287))
    go_ret
    exact ⟨by first | rfl | (simp [errW_none, errW_some] <;> rfl) | (simp only [← hji4]; first | rfl | (simp [errW_none, errW_some] <;> rfl)) | (simp [*, errW_none, errW_some] <;> rfl), (bW HB)⟩
   ·rw [if_neg c6] at H
    exact absurd H (by simp)
  ·rw [if_neg c5] at H
   exact absurd H (by simp)
 ·replace H := ifD H
  rcases H with ⟨H, -, c9b0⟩ | ⟨H, -, c9b0⟩
  ·replace H := bA H
   obtain ⟨t288, A10, H⟩ := H
   obtain ⟨ji11, hji11⟩ : ∃ j_ : Int, (wrap64 (180 - (Int.tmod (wrap64 ((Int.tmod a0 360) + 360)) 360))) = j_ := ⟨_, rfl⟩
   replace H : (if 0 ≤ (ji11) then (if (ji11) < (t288.length : Int) then (some (rd t288 (ji11))) else (none)) else (none)) = some r := by first | (rw [hji11] at H; exact H) | (simp only [hji11] at H ⊢; exact H)
   (try rw [hji11] at A10)
   have hji11w : (IntKind.i64.wrap (180 - (Int.tmod (wrap64 ((Int.tmod a0 360) + 360)) 360))) = ji11 := (i64_w _).trans hji11
   by_cases c12 : 0 ≤ (ji11)
   ·rw [if_pos c12] at H
    have c12b0 : decide (0 ≤ (ji11)) = true := decide_eq_true c12
    clear c12
    by_cases c13 : (ji11) < (t288.length : Int)
    ·rw [if_pos c13] at H
     have c13b0 : decide ((ji11) < (t288.length : Int)) = true := decide_eq_true c13
     clear c13
     obtain rfl := Option.some.inj H
     go_enter Try.func117, Try.ntmps117
     go_wp2_with (first | ((with_reducible refine gate_callee (f := 119) rfl ?_); refine goesL_ (some 18) rfl rfl Try.func119 (by kernel_rfl) rfl #[] rfl argsB ?_; (with_reducible refine (spec_l2Table.calls  t288 _ A10.out).mono ?_); rintro e w14 ⟨v289, rfl, ho0, hb⟩; refine ⟨_, rfl, ?_⟩; have HO290 := Aside0.mk (Kd.R_lower ho0 (below_size (bW HB))); replace HB := uB HB hb; (try clear hb); (try clear ho0); obtain ⟨Ao15, co15, eo15⟩ := Kd.R_slice HO290.out; subst eo15; have p291 : 0 ≤ ((ji11) : Int) := of_decide_eq_true asmB; have q291 : (ji11) < (t288.length : Int) := of_decide_eq_true asmB; obtain ⟨ad291, e291, hx291_0⟩ := Kd.at_int (Kd.R_reads' HO290.out).2.2 (ji11) p291 q291; cases e291; replace p291 := eq_true p291; replace q291 := eq_true q291))
     go_ret
     exact ⟨by first | rfl | (simp [errW_none, errW_some] <;> rfl) | (simp only [← hji11]; first | rfl | (simp [errW_none, errW_some] <;> rfl)) | (simp [*, errW_none, errW_some] <;> rfl), (bW HB)⟩
    ·rw [if_neg c13] at H
     exact absurd H (by simp)
   ·rw [if_neg c12] at H
    exact absurd H (by simp)
  ·replace H := ifD H
   rcases H with ⟨H, -, c16b0⟩ | ⟨H, -, c16b0⟩
   ·replace H := bA H
    obtain ⟨t292, A17, H⟩ := H
    obtain ⟨ji18, hji18⟩ : ∃ j_ : Int, (wrap64 ((Int.tmod (wrap64 ((Int.tmod a0 360) + 360)) 360) - 180)) = j_ := ⟨_, rfl⟩
    replace H : (if 0 ≤ (ji18) then (if (ji18) < (t292.length : Int) then (some (wrap64 (-(rd t292 (ji18))))) else (none)) else (none)) = some r := by first | (rw [hji18] at H; exact H) | (simp only [hji18] at H ⊢; exact H)
    (try rw [hji18] at A17)
    have hji18w : (IntKind.i64.wrap ((Int.tmod (wrap64 ((Int.tmod a0 360) + 360)) 360) - 180)) = ji18 := (i64_w _).trans hji18
    by_cases c19 : 0 ≤ (ji18)
    ·rw [if_pos c19] at H
     have c19b0 : decide (0 ≤ (ji18)) = true := decide_eq_true c19
     clear c19
     by_cases c20 : (ji18) < (t292.length : Int)
     ·rw [if_pos c20] at H
      have c20b0 : decide ((ji18) < (t292.length : Int)) = true := decide_eq_true c20
      clear c20
      obtain rfl := Option.some.inj H
      go_enter Try.func117, Try.ntmps117
      go_wp2_with (first | ((with_reducible refine gate_callee (f := 119) rfl ?_); refine goesL_ (some 26) rfl rfl Try.func119 (by kernel_rfl) rfl #[] rfl argsB ?_; (with_reducible refine (spec_l2Table.calls  t292 _ A17.out).mono ?_); rintro e w21 ⟨v293, rfl, ho0, hb⟩; refine ⟨_, rfl, ?_⟩; have HO294 := Aside0.mk (Kd.R_lower ho0 (below_size (bW HB))); replace HB := uB HB hb; (try clear hb); (try clear ho0); obtain ⟨Ao22, co22, eo22⟩ := Kd.R_slice HO294.out; subst eo22; have p295 : 0 ≤ ((ji18) : Int) := of_decide_eq_true asmB; have q295 : (ji18) < (t292.length : Int) := of_decide_eq_true asmB; obtain ⟨ad295, e295, hx295_0⟩ := Kd.at_int (Kd.R_reads' HO294.out).2.2 (ji18) p295 q295; cases e295; replace p295 := eq_true p295; replace q295 := eq_true q295))
      go_ret
      exact ⟨by first | rfl | (simp [errW_none, errW_some] <;> rfl) | (simp only [← hji18]; first | rfl | (simp [errW_none, errW_some] <;> rfl)) | (simp [*, errW_none, errW_some] <;> rfl), (bW HB)⟩
     ·rw [if_neg c20] at H
      exact absurd H (by simp)
    ·rw [if_neg c19] at H
     exact absurd H (by simp)
   ·replace H := bA H
    obtain ⟨t296, A23, H⟩ := H
    obtain ⟨ji24, hji24⟩ : ∃ j_ : Int, (wrap64 (360 - (Int.tmod (wrap64 ((Int.tmod a0 360) + 360)) 360))) = j_ := ⟨_, rfl⟩
    replace H : (if 0 ≤ (ji24) then (if (ji24) < (t296.length : Int) then (some (wrap64 (-(rd t296 (ji24))))) else (none)) else (none)) = some r := by first | (rw [hji24] at H; exact H) | (simp only [hji24] at H ⊢; exact H)
    (try rw [hji24] at A23)
    have hji24w : (IntKind.i64.wrap (360 - (Int.tmod (wrap64 ((Int.tmod a0 360) + 360)) 360))) = ji24 := (i64_w _).trans hji24
    by_cases c25 : 0 ≤ (ji24)
    ·rw [if_pos c25] at H
     have c25b0 : decide (0 ≤ (ji24)) = true := decide_eq_true c25
     clear c25
     by_cases c26 : (ji24) < (t296.length : Int)
     ·rw [if_pos c26] at H
      have c26b0 : decide ((ji24) < (t296.length : Int)) = true := decide_eq_true c26
      clear c26
      obtain rfl := Option.some.inj H
      go_enter Try.func117, Try.ntmps117
      go_wp2_with (first | ((with_reducible refine gate_callee (f := 119) rfl ?_); refine goesL_ (some 32) rfl rfl Try.func119 (by kernel_rfl) rfl #[] rfl argsB ?_; (with_reducible refine (spec_l2Table.calls  t296 _ A23.out).mono ?_); rintro e w27 ⟨v297, rfl, ho0, hb⟩; refine ⟨_, rfl, ?_⟩; have HO298 := Aside0.mk (Kd.R_lower ho0 (below_size (bW HB))); replace HB := uB HB hb; (try clear hb); (try clear ho0); obtain ⟨Ao28, co28, eo28⟩ := Kd.R_slice HO298.out; subst eo28; have p299 : 0 ≤ ((ji24) : Int) := of_decide_eq_true asmB; have q299 : (ji24) < (t296.length : Int) := of_decide_eq_true asmB; obtain ⟨ad299, e299, hx299_0⟩ := Kd.at_int (Kd.R_reads' HO298.out).2.2 (ji24) p299 q299; cases e299; replace p299 := eq_true p299; replace q299 := eq_true q299))
      go_ret
      exact ⟨by first | rfl | (simp [errW_none, errW_some] <;> rfl) | (simp only [← hji24]; first | rfl | (simp [errW_none, errW_some] <;> rfl)) | (simp [*, errW_none, errW_some] <;> rfl), (bW HB)⟩
     ·rw [if_neg c26] at H
      exact absurd H (by simp)
    ·rw [if_neg c25] at H
     exact absurd H (by simp)

/-! ### spec_l2Cosine: function 116 -/
def spec_l2Cosine.f (a0 : Int) : Option (Int) := (spec_l2Sine.f (wrap64 (a0 + 90))).bind fun t300 => (some t300)
set_option maxHeartbeats 8000000 in
set_option maxRecDepth 100000 in
theorem spec_l2Cosine.calls (a0 r : Int) (w : World) (h : spec_l2Cosine.f a0 = some r) :
  Calls Try.prog 116 #[.int .i64 a0] w fun e w' => e = .returned (.int .i64 r) ∧ Below w.heap.size w w' := by
 have HB := Aside0.mk (Below.refl w.heap.size w)
 have H := h
 clear h
 unfold spec_l2Cosine.f at H
 replace H := bA H
 obtain ⟨t300, A2, H⟩ := H
 obtain rfl := Option.some.inj H
 go_enter Try.func116, Try.ntmps116
 go_wp2_with (first | ((with_reducible refine gC 117 ?_); refine lA (some 5) Try.func117 (spec_l2Sine.calls (wrap64 (a0 + 90)) t300 _ A2.out) ?_; intro w3 hb; replace HB := uB HB hb; (try clear hb)))
 go_ret
 exact ⟨eB, (bW HB)⟩

end Go.Proofs.Ytfaojmabalplfaa.QFnClubs
