/- Contracts of Go functions that FnVersions reaches: the call computes what the plain function says. No condition. -/
import Derived.Test.YtinelmmnajelaaaQFnVersionsx0
import Derived.Test.YtinelmmnajelaaaQFnVersionsx1
import Derived.Test.YtinelmmnajelaaaQFnVersionsx10
import Derived.Test.YtinelmmnajelaaaQFnVersionsx11
import Derived.Test.YtinelmmnajelaaaQFnVersionsx12
namespace Go.Proofs.Ytinelmmnajelaaa.QFnVersions
open Go.RowKit Go.Proofs.YtinelmmnajelaaaW.PrintWords Go.Proofs.YtinelmmnajelaaaW.PrintLast Go.Proofs.YtinelmmnajelaaaW.PrintMore
attribute [local go_sem] max2_int min2_int max_two min_two max_three min_three max_four min_four   -- for this text's walks alone
set_option linter.unusedVariables false
set_option linter.unusedSimpArgs false

attribute [local go_sem high] eqA26
/-! ### laws_vLegs: function 50 -/
def laws_vLegs.l0 : Nat → List (S26) → List (S26) → Int → Option (Bool)
 | 0, _, _, _ => none
 | k + 1, x0, x1, x5 => if x5 < (x0.length : Int) then (if 0 ≤ x5 then (if x5 < (x1.length : Int) then (if (!(((rd_T26 x0 x5).f0) == ((rd_T26 x1 x5).f0)) || (!(((rd_T26 x0 x5).f1) == ((rd_T26 x1 x5).f1)) || (!(((rd_T26 x0 x5).f2) == ((rd_T26 x1 x5).f2)) || (!(((rd_T26 x0 x5).f3) == ((rd_T26 x1 x5).f3)) || (!(((rd_T26 x0 x5).f4) == ((rd_T26 x1 x5).f4))))))) = true then (some false) else (laws_vLegs.l0 k x0 x1 (wrap64 (x5 + 1)))) else (none)) else (none)) else (some true)
def laws_vLegs.f (k : Nat) (l0 : List (S26)) (l1 : List (S26)) : Option (Bool) := if (l0.length : Int) = (l1.length : Int) then (laws_vLegs.l0 k l0 l1 0) else (some false)
theorem laws_vLegs.mono_l : ∀ k, (∀ y0 y1 y2, LeO (laws_vLegs.l0 k y0 y1 y2) (laws_vLegs.l0 (k + 1) y0 y1 y2))
 | 0 => fun _ _ _ r h => by simp [laws_vLegs.l0] at h
 | k + 1 => by
  have ih0 := laws_vLegs.mono_l k
  ·intro y0 y1 y2
   unfold laws_vLegs.l0
   repeat' with_reducible first | apply ih0 | exact LeO.refl _ | exact LeO.none _ | refine LeO.ite ?_ ?_ | refine LeO.bind ?_ (fun _ => ?_)
theorem laws_vLegs.mono : ∀ a0 a1 k, LeO (laws_vLegs.f k a0 a1) (laws_vLegs.f (k + 1) a0 a1) := by
 intro a0 a1 k
 have ih0 := laws_vLegs.mono_l k
 unfold laws_vLegs.f
 repeat' with_reducible first | apply ih0 | exact LeO.refl _ | exact LeO.none _ | refine LeO.ite ?_ ?_ | refine LeO.bind ?_ (fun _ => ?_)
set_option maxHeartbeats 8000000 in
set_option maxRecDepth 100000 in
theorem laws_vLegs.calls (k : Nat) (A0 : Option Addr) (c0 : Nat) (l0 : List (S26)) (A1 : Option Addr) (c1 : Nat) (l1 : List (S26)) (r : Bool) (w : World) (hr0 : Kd.C k26 w A0 l0.length l0) (hc0 : l0.length ≤ c0) (hr1 : Kd.C k26 w A1 l1.length l1) (hc1 : l1.length ≤ c1) (h : laws_vLegs.f k l0 l1 = some r) :
  Calls Try.prog 50 #[.slice A0 l0.length c0, .slice A1 l1.length c1] w fun e w' => e = .returned (.bool r) ∧ Drawn0 w w' := by
 have hu26 := Try.underlying26
 have HR0 := Aside0.mk hr0
 have HC0 := Aside0.mk hc0
 clear hr0 hc0
 have HR1 := Aside0.mk hr1
 have HC1 := Aside0.mk hc1
 clear hr1 hc1
 have H := h
 clear h
 unfold laws_vLegs.f at H
 replace H := ifI H
 rcases H with ⟨H, c3, c3b0, c3b1⟩ | ⟨H, c3, c3b0, c3b1⟩
 ·have c3b2 : (l0.length == l1.length) = true := by first | simpa using c3 | (simp at c3 ⊢; omega)
  clear c3
  have H' := Aside0.mk H
  clear H
  go_enter Try.func50, Try.ntmps50
  go_wp2
  repeat (go_quiet (fail); try go_wp2)
  go_loopg [5] k (fun kq v5 w' => ∃ (x5_1 : Int), v5 = .int .i64 x5_1 ∧ Aside0 (laws_vLegs.l0 kq l0 l1 x5_1 = some r) ∧ Aside0 (kq ≤ k) ∧ Drawn0 w w')
  case atStart => exact ⟨(0), rB, H', ⟨Nat.le_refl _⟩, by repeat (first | exact Drawn0.refl _ | apply Drawn0.step)⟩
  case round =>
   clear H'
   try clear c1
   try clear c3
   try clear c3b0
   try clear c3b1
   try clear c3b2
   obtain ⟨x5_1, rfl, HA, HK1, ⟨m1, rfl⟩⟩ := hrel
   cases gk with
   | zero => exact absurd HA.out (by simp [laws_vLegs.l0])
   | succ k1 =>
    have H := HA.out
    clear HA
    simp only [laws_vLegs.l0] at H
    replace H := ifD H
    rcases H with ⟨H, -, c4b0⟩ | ⟨H, -, c4b0⟩
    ·by_cases c5 : 0 ≤ x5_1
     ·rw [if_pos c5] at H
      have c5b0 : decide (0 ≤ x5_1) = true := decide_eq_true c5
      clear c5
      by_cases c6 : x5_1 < (l1.length : Int)
      ·rw [if_pos c6] at H
       have c6b0 : decide (x5_1 < (l1.length : Int)) = true := decide_eq_true c6
       clear c6
       by_cases c7 : (!(((rd_T26 l0 x5_1).f0) == ((rd_T26 l1 x5_1).f0)) || (!(((rd_T26 l0 x5_1).f1) == ((rd_T26 l1 x5_1).f1)) || (!(((rd_T26 l0 x5_1).f2) == ((rd_T26 l1 x5_1).f2)) || (!(((rd_T26 l0 x5_1).f3) == ((rd_T26 l1 x5_1).f3)) || (!(((rd_T26 l0 x5_1).f4) == ((rd_T26 l1 x5_1).f4))))))) = true
       ·rw [if_pos c7] at H
        have c7b0 : (!(((rd_T26 l0 x5_1).f0) == ((rd_T26 l1 x5_1).f0)) || (!(((rd_T26 l0 x5_1).f1) == ((rd_T26 l1 x5_1).f1)) || (!(((rd_T26 l0 x5_1).f2) == ((rd_T26 l1 x5_1).f2)) || (!(((rd_T26 l0 x5_1).f3) == ((rd_T26 l1 x5_1).f3)) || (!(((rd_T26 l0 x5_1).f4) == ((rd_T26 l1 x5_1).f4))))))) = true := c7
        clear c7
        obtain rfl := Option.some.inj H
        have p536 : 0 ≤ (x5_1 : Int) := of_decide_eq_true asmB
        have q536 : x5_1 < (l0.length : Int) := of_decide_eq_true asmB
        obtain ⟨ad536, e536, hx536_0, hx536_1, hx536_2, hx536_3, hx536_4⟩ := at_T26 HR0.out x5_1 p536 q536
        cases e536
        replace p536 := eq_true p536
        replace q536 := eq_true q536
        have p537 : 0 ≤ (x5_1 : Int) := of_decide_eq_true asmB
        have q537 : x5_1 < (l1.length : Int) := of_decide_eq_true asmB
        obtain ⟨ad537, e537, hx537_0, hx537_1, hx537_2, hx537_3, hx537_4⟩ := at_T26 HR1.out x5_1 p537 q537
        cases e537
        replace p537 := eq_true p537
        replace q537 := eq_true q537
        go_wp2
        repeat (go_quiet (fail); try go_wp2)
        go_ret
        exact ⟨rB, by repeat (first | exact Drawn0.refl _ | apply Drawn0.step)⟩
       ·rw [if_neg c7] at H
        have c7b0 : (!(((rd_T26 l0 x5_1).f0) == ((rd_T26 l1 x5_1).f0)) || (!(((rd_T26 l0 x5_1).f1) == ((rd_T26 l1 x5_1).f1)) || (!(((rd_T26 l0 x5_1).f2) == ((rd_T26 l1 x5_1).f2)) || (!(((rd_T26 l0 x5_1).f3) == ((rd_T26 l1 x5_1).f3)) || (!(((rd_T26 l0 x5_1).f4) == ((rd_T26 l1 x5_1).f4))))))) = false := by simpa using c7
        clear c7
        have H' := Aside0.mk H
        clear H
        have p536 : 0 ≤ (x5_1 : Int) := of_decide_eq_true asmB
        have q536 : x5_1 < (l0.length : Int) := of_decide_eq_true asmB
        obtain ⟨ad536, e536, hx536_0, hx536_1, hx536_2, hx536_3, hx536_4⟩ := at_T26 HR0.out x5_1 p536 q536
        cases e536
        replace p536 := eq_true p536
        replace q536 := eq_true q536
        have p537 : 0 ≤ (x5_1 : Int) := of_decide_eq_true asmB
        have q537 : x5_1 < (l1.length : Int) := of_decide_eq_true asmB
        obtain ⟨ad537, e537, hx537_0, hx537_1, hx537_2, hx537_3, hx537_4⟩ := at_T26 HR1.out x5_1 p537 q537
        cases e537
        replace p537 := eq_true p537
        replace q537 := eq_true q537
        go_wp2
        repeat (go_quiet (fail); try go_wp2)
        go_roundg k1
        case measure => have := HK1.out; omega
        case rel => exact ⟨(wrap64 (x5_1 + 1)), rB, H', ⟨by have := HK1.out; omega⟩, by repeat (first | exact Drawn0.refl _ | apply Drawn0.step)⟩
      ·rw [if_neg c6] at H
       exact absurd H (by simp)
     ·rw [if_neg c5] at H
      exact absurd H (by simp)
    ·obtain rfl := Option.some.inj H
     go_wp2
     repeat (go_quiet (fail); try go_wp2)
     go_ret
     exact ⟨rB, by repeat (first | exact Drawn0.refl _ | apply Drawn0.step)⟩
 ·have c3b2 : (l0.length == l1.length) = false := by first | simpa using c3 | (simp at c3 ⊢; omega)
  obtain rfl := Option.some.inj H
  go_enter Try.func50, Try.ntmps50
  go_wp2
  repeat (go_quiet (fail); try go_wp2)
  go_ret
  exact ⟨rB, by repeat (first | exact Drawn0.refl _ | apply Drawn0.step)⟩

/-! ### spec_DrawApplyEdit: function 51 -/
def spec_DrawApplyEdit.f (k : Nat) (l0 : List Int) : Option ((List (S26)) × Int × Int × Int × Int × Int × Int × Int × Int × Int × Int × Int × Int) := (spec_l1Cur_legs.f k l0 0 0).bind fun bt540 => ((spec_l1Cur_edit.f k l0 bt540.2.1 bt540.2.2 bt540.1).bind fun bt545 => (some (bt540.1, bt545.1, bt545.2.1, bt545.2.2.1, bt545.2.2.2.1, bt545.2.2.2.2.1, bt545.2.2.2.2.2.1, bt545.2.2.2.2.2.2.1, bt545.2.2.2.2.2.2.2.1, bt545.2.2.2.2.2.2.2.2.1, bt545.2.2.2.2.2.2.2.2.2.1, bt545.2.2.2.2.2.2.2.2.2.2.1, bt545.2.2.2.2.2.2.2.2.2.2.2.1)))
theorem spec_DrawApplyEdit.mono : ∀ a0 k, LeO (spec_DrawApplyEdit.f k a0) (spec_DrawApplyEdit.f (k + 1) a0) := by
 intro a0 k
 unfold spec_DrawApplyEdit.f
 repeat' with_reducible first | apply spec_l1Cur_edit.mono | apply spec_l1Cur_legs.mono | exact LeO.refl _ | exact LeO.none _ | refine LeO.ite ?_ ?_ | refine LeO.bind ?_ (fun _ => ?_)
set_option maxHeartbeats 8000000 in
set_option maxRecDepth 100000 in
theorem spec_DrawApplyEdit.calls (k : Nat) (A0 : Option Addr) (c0 : Nat) (l0 : List Int) (r1 : List (S26)) (r2 r3 r4 r5 r6 r7 r8 r9 r10 r11 r12 r13 : Int) (w : World) (hr0 : Kd.C (Kd.int .u8) w A0 l0.length l0) (hc0 : l0.length ≤ c0) (h : spec_DrawApplyEdit.f k l0 = some (r1, r2, r3, r4, r5, r6, r7, r8, r9, r10, r11, r12, r13)) :
  Calls Try.prog 51 #[.slice A0 l0.length c0] w fun e w' => ∃ v0_ : Value, e = .returned (.tuple #[v0_, .agg #[.int .i64 r2, .int .i64 r3, .int .i64 r4, .int .i64 r5, .int .i64 r6, .int .i64 r7, .int .i64 r8, .int .i64 r9, .int .i64 r10, .int .i64 r11, .int .i64 r12, .int .i64 r13]]) ∧ Kd.R k26 26 w' w.heap.size (fun _ => True) v0_ r1 ∧ Below w.heap.size w w' := by
 have hu28 := Try.underlying28
 have hu97 := Try.underlying97
 have HR0 := Aside0.mk hr0
 have HC0 := Aside0.mk hc0
 clear hr0 hc0
 have HB := Aside0.mk (Below.refl w.heap.size w)
 have H := h
 clear h
 unfold spec_DrawApplyEdit.f at H
 replace H := Option.bind_eq_some_iff.mp H
 obtain ⟨⟨t540, t543, t544⟩, A20, H⟩ := H
 replace H : ((spec_l1Cur_edit.f k l0 t543 t544 t540).bind fun bt545 => (some (t540, bt545.1, bt545.2.1, bt545.2.2.1, bt545.2.2.2.1, bt545.2.2.2.2.1, bt545.2.2.2.2.2.1, bt545.2.2.2.2.2.2.1, bt545.2.2.2.2.2.2.2.1, bt545.2.2.2.2.2.2.2.2.1, bt545.2.2.2.2.2.2.2.2.2.1, bt545.2.2.2.2.2.2.2.2.2.2.1, bt545.2.2.2.2.2.2.2.2.2.2.2.1))) = some (r1, r2, r3, r4, r5, r6, r7, r8, r9, r10, r11, r12, r13) := H
 have A2 := Aside0.mk A20
 clear A20
 replace H := Option.bind_eq_some_iff.mp H
 obtain ⟨⟨t545, t546, t547, t548, t549, t550, t551, t552, t553, t554, t555, t556, t557, t558⟩, A30, H⟩ := H
 replace H : (some (t540, t545, t546, t547, t548, t549, t550, t551, t552, t553, t554, t555, t556)) = some (r1, r2, r3, r4, r5, r6, r7, r8, r9, r10, r11, r12, r13) := H
 have A3 := Aside0.mk A30
 clear A30
 simp only [Option.some.injEq, Prod.mk.injEq] at H
 obtain ⟨rfl, rfl, rfl, rfl, rfl, rfl, rfl, rfl, rfl, rfl, rfl, rfl, rfl⟩ := H
 go_enter Try.func51, Try.ntmps51
 go_wp2_with (first | ((with_reducible refine gD 3 ?_); refine bxE 3 28 #[.int .i64 0, .int .i64 0, .int .i64 0, .int .i64 0, .int .i64 0, .int .i64 0, .int .i64 0, .int .i64 0, .int .i64 0, .int .i64 0, .int .i64 0, .int .i64 0] fun gb538 w4 hg hbox hb => ?_; have BK538 := Aside0.mk hbox; have GE538 := gB HB hg; replace HB := uB HB hb; clear hb hbox hg) | ((with_reducible refine gD 8 ?_); refine bxE 8 97 #[.slice A0 l0.length c0, .int .i64 0, .int .u64 0] fun gb539 w5 hg hbox hb => ?_; have GE539 := gB HB hg; have ⟨NB538_539, NB539_538⟩ := nB BK538 hg; have HI539 := Aside0.mk ((⟨_, _, hbox, (by rw [hg]; exact (below_size (bW HB)) : w.heap.size ≤ gb539), HR0.out⟩ : IsS97 w w5 gb539 l0 0 0)); replace BK538 := uK BK538 hb; replace HB := uB HB hb; clear hb hbox hg) | ((with_reducible refine gate_callee (f := 81) rfl ?_); refine goesL_ (some 10) rfl rfl Try.func81 (by kernel_rfl) rfl #[.pointer (some ⟨gb539, 0, none⟩)] rfl argsB ?_; (with_reducible refine (spec_l1Cur_legs.calls k gb539 l0 0 0 t540 t543 t544 w _ ?side1 ?side2 A2.out).mono ?_); (case side1 => repeat (first | (with_reducible first | exact HI539.out | apply IsS97.alloc | apply IsS97.drewN | apply IsS97.drew | apply IsS97.set_1 | apply IsS97.set_2 | refine IsS97.far ?_ NB539_538.out _) | exact HI539.out)); (case side2 => repeat (first | (with_reducible first | exact HB.out | apply below_alloc | apply pw_below_drewN | apply below_drew1 | refine below_set ?_ (IsS97.ge HI539.out) | refine below_set ?_ GE538.out) | exact HB.out)); rintro e w6 ⟨v541, rfl, ho0, hi, hb, hk⟩; refine ⟨_, rfl, ?_⟩; have HO542 := Aside0.mk (Kd.R_lower ho0 (below_size (by repeat (first | (with_reducible first | exact HB.out | apply below_alloc | apply pw_below_drewN | apply below_drew1 | refine below_set ?_ (IsS97.ge HI539.out) | refine below_set ?_ GE538.out) | exact HB.out)))); replace BK538 := Aside0.mk (KeepBut.blk hk (g' := gb538) (o := .cells #[.int .i64 0, .int .i64 0, .int .i64 0, .int .i64 0, .int .i64 0, .int .i64 0, .int .i64 0, .int .i64 0, .int .i64 0, .int .i64 0, .int .i64 0, .int .i64 0] 28 (0, 0)) (upK BK538.out) NB538_539.out (by simp)); replace HB := Aside0.mk (hb); replace HI539 := Aside0.mk (hi); (try clear hb); (try clear hk); (try clear hi); (try clear ho0); obtain ⟨Ao7, co7, eo7⟩ := Kd.R_slice HO542.out; subst eo7) | ((with_reducible refine gate_callee (f := 82) rfl ?_); refine goesL_ (some 14) rfl rfl Try.func82 (by kernel_rfl) rfl #[.pointer (some ⟨gb539, 0, none⟩), .slice Ao7 t540.length co7] rfl argsB ?_; (with_reducible refine (spec_l1Cur_edit.calls k gb539 l0 t543 t544 _ _ t540 t545 t546 t547 t548 t549 t550 t551 t552 t553 t554 t555 t556 t557 t558 w _ ?side1 ?side2 ?side3 ?side4 A3.out).mono ?_); (case side1 => repeat (first | (with_reducible first | exact HI539.out | apply IsS97.alloc | apply IsS97.drewN | apply IsS97.drew | apply IsS97.set_1 | apply IsS97.set_2 | refine IsS97.far ?_ NB539_538.out _) | exact HI539.out)); (case side2 => repeat (first | (with_reducible first | exact HB.out | apply below_alloc | apply pw_below_drewN | apply below_drew1 | refine below_set ?_ (IsS97.ge HI539.out) | refine below_set ?_ GE538.out) | exact HB.out)); (case side3 => exact Kd.C_foot_own (IsS97.apart (show IsS97 w _ gb539 l0 t543 t544 from by repeat (first | (with_reducible first | exact HI539.out | apply IsS97.alloc | apply IsS97.drewN | apply IsS97.drew | apply IsS97.set_1 | apply IsS97.set_2 | refine IsS97.far ?_ NB539_538.out _) | exact HI539.out)) (upR HO542.out) (by decide)) (fun _ h_ => h_.2)); (case side4 => exact (Kd.R_reads' HO542.out).2.1); rintro e w8 ⟨rfl, hi, hb, hk⟩; refine ⟨_, rfl, ?_⟩; replace BK538 := Aside0.mk (KeepBut.blk hk (g' := gb538) (o := .cells #[.int .i64 0, .int .i64 0, .int .i64 0, .int .i64 0, .int .i64 0, .int .i64 0, .int .i64 0, .int .i64 0, .int .i64 0, .int .i64 0, .int .i64 0, .int .i64 0] 28 (0, 0)) (upK BK538.out) NB538_539.out (by simp)); replace HO542 := Aside0.mk (Kd.R_mono (Kd.R_keep (IsS97.apart (show IsS97 w _ gb539 l0 t543 t544 from by repeat (first | (with_reducible first | exact HI539.out | apply IsS97.alloc | apply IsS97.drewN | apply IsS97.drew | apply IsS97.set_1 | apply IsS97.set_2 | refine IsS97.far ?_ NB539_538.out _) | exact HI539.out)) (upR HO542.out) (by decide)) hk (fun _ h => h.2)) (fun _ h => h.1)); replace HB := Aside0.mk (hb); replace HI539 := Aside0.mk (hi); (try clear hb); (try clear hk); (try clear hi); have hnb9 := NB538_539.out; have hnc9 := NB539_538.out; have ⟨hcz10_0, hcz10_1, hcz10_2, hcz10_3, hcz10_4, hcz10_5, hcz10_6, hcz10_7, hcz10_8, hcz10_9, hcz10_10, hcz10_11, hfz10_0⟩ := cz12 BK538))
 refine bodyPost_ret (results_tc rfl _ _ gb538 28 #[.int .i64 t545, .int .i64 t546, .int .i64 t547, .int .i64 t548, .int .i64 t549, .int .i64 t550, .int .i64 t551, .int .i64 t552, .int .i64 t553, .int .i64 t554, .int .i64 t555, .int .i64 t556] (0, 0) _ rfl (by exact pW BK538) Try.underlying28 rfl (by kernel_rfl)) rfl ?_
 exact ⟨_, eB, by (with_reducible repeat (first | apply Kd.R_alloc | apply Kd.R_drewN | apply Kd.R_drew)); exact Kd.R_mono (Kd.R_far (p := ⟨gb538, 11, none⟩) (Kd.R_far (p := ⟨gb538, 10, none⟩) (Kd.R_far (p := ⟨gb538, 9, none⟩) (Kd.R_far (p := ⟨gb538, 8, none⟩) (Kd.R_far (p := ⟨gb538, 7, none⟩) (Kd.R_far (p := ⟨gb538, 6, none⟩) (Kd.R_far (p := ⟨gb538, 5, none⟩) (Kd.R_far (p := ⟨gb538, 4, none⟩) (Kd.R_far (p := ⟨gb538, 3, none⟩) (Kd.R_far (p := ⟨gb538, 2, none⟩) (Kd.R_far (p := ⟨gb538, 1, none⟩) (Kd.R_far (p := ⟨gb538, 0, none⟩) (Kd.R_types HO542.out BK538.out (by decide)) (fun _ hk => hk.2) (.int .i64 t545)) (fun _ hk => hk.2) (.int .i64 t546)) (fun _ hk => hk.2) (.int .i64 t547)) (fun _ hk => hk.2) (.int .i64 t548)) (fun _ hk => hk.2) (.int .i64 t549)) (fun _ hk => hk.2) (.int .i64 t550)) (fun _ hk => hk.2) (.int .i64 t551)) (fun _ hk => hk.2) (.int .i64 t552)) (fun _ hk => hk.2) (.int .i64 t553)) (fun _ hk => hk.2) (.int .i64 t554)) (fun _ hk => hk.2) (.int .i64 t555)) (fun _ hk => hk.2) (.int .i64 t556)) (fun _ hk => trivial), by repeat (first | (with_reducible first | exact HB.out | apply below_alloc | apply pw_below_drewN | apply below_drew1 | refine below_set ?_ (IsS97.ge HI539.out) | refine below_set ?_ GE538.out) | exact HB.out)⟩

end Go.Proofs.Ytinelmmnajelaaa.QFnVersions
