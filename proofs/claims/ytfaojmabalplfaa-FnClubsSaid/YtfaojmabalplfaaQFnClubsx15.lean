/- Contracts of Go functions that FnClubs reaches: the call computes what the plain function says. No condition. -/
import Derived.Test.YtfaojmabalplfaaQFnClubsx0
import Derived.Test.YtfaojmabalplfaaQFnClubsx4
import Derived.Test.YtfaojmabalplfaaQFnClubsx10
import Derived.Test.YtfaojmabalplfaaQFnClubsx14
namespace Go.Proofs.Ytfaojmabalplfaa.QFnClubs
open Go.RowKit Go.Proofs.YtfaojmabalplfaaW.PrintWords Go.Proofs.YtfaojmabalplfaaW.PrintLast Go.Proofs.YtfaojmabalplfaaW.PrintMore
attribute [local go_sem] max2_int min2_int max_two min_two max_three min_three max_four min_four   -- for this text's walks alone
set_option linter.unusedVariables false
set_option linter.unusedSimpArgs false

/-! ### laws_vHas: function 53 -/
def laws_vHas.l0 : Nat → List Int → Int → Int → Option (Bool)
 | 0, _, _, _ => none
 | k + 1, x0, x1, x5 => if x5 < (x0.length : Int) then (if 0 ≤ x5 then (if (rd x0 x5) = x1 then (some true) else (laws_vHas.l0 k x0 x1 (wrap64 (x5 + 1)))) else (none)) else (some false)
def laws_vHas.f (k : Nat) (l0 : List Int) (a1 : Int) : Option (Bool) := laws_vHas.l0 k l0 a1 0
theorem laws_vHas.mono_l : ∀ k, (∀ y0 y1 y2, LeO (laws_vHas.l0 k y0 y1 y2) (laws_vHas.l0 (k + 1) y0 y1 y2))
 | 0 => fun _ _ _ r h => by simp [laws_vHas.l0] at h
 | k + 1 => by
  have ih0 := laws_vHas.mono_l k
  ·intro y0 y1 y2
   unfold laws_vHas.l0
   repeat' with_reducible first | apply ih0 | exact LeO.refl _ | exact LeO.none _ | refine LeO.ite ?_ ?_ | refine LeO.bind ?_ (fun _ => ?_)
theorem laws_vHas.mono : ∀ a0 a1 k, LeO (laws_vHas.f k a0 a1) (laws_vHas.f (k + 1) a0 a1) := by
 intro a0 a1 k
 have ih0 := laws_vHas.mono_l k
 unfold laws_vHas.f
 repeat' with_reducible first | apply ih0 | exact LeO.refl _ | exact LeO.none _ | refine LeO.ite ?_ ?_ | refine LeO.bind ?_ (fun _ => ?_)
set_option maxHeartbeats 8000000 in
set_option maxRecDepth 100000 in
theorem laws_vHas.calls (k : Nat) (A0 : Option Addr) (c0 : Nat) (l0 : List Int) (a1 : Int) (r : Bool) (w : World) (hr0 : Kd.C (Kd.int .i64) w A0 l0.length l0) (hc0 : l0.length ≤ c0) (h : laws_vHas.f k l0 a1 = some r) :
  Calls Try.prog 53 #[.slice A0 l0.length c0, .int .i64 a1] w fun e w' => e = .returned (.bool r) ∧ Drawn0 w w' := by
 have HR0 := Aside0.mk hr0
 have HC0 := Aside0.mk hc0
 clear hr0 hc0
 have H : (laws_vHas.l0 k l0 a1 0) = some r := h
 clear h
 have H' := Aside0.mk H
 clear H
 go_enter Try.func53, Try.ntmps53
 go_wp2
 go_loopg [5] k (fun kq v5 w' => ∃ (x5_1 : Int), v5 = .int .i64 x5_1 ∧ Aside0 (laws_vHas.l0 kq l0 a1 x5_1 = some r) ∧ Aside0 (kq ≤ k) ∧ Drawn0 w w')
 case atStart => exact ⟨(0), rB, H', ⟨Nat.le_refl _⟩, by repeat (first | exact Drawn0.refl _ | apply Drawn0.step)⟩
 case round =>
  clear H'
  obtain ⟨x5_1, rfl, HA, HK1, ⟨m1, rfl⟩⟩ := hrel
  cases gk with
  | zero => exact absurd HA.out (by simp [laws_vHas.l0])
  | succ k1 =>
   have H := HA.out
   clear HA
   simp only [laws_vHas.l0] at H
   replace H := ifD H
   rcases H with ⟨H, -, c3b0⟩ | ⟨H, -, c3b0⟩
   ·by_cases c4 : 0 ≤ x5_1
    ·rw [if_pos c4] at H
     have c4b0 : decide (0 ≤ x5_1) = true := decide_eq_true c4
     clear c4
     replace H := ifI H
     rcases H with ⟨H, -, c5b0, c5b1⟩ | ⟨H, c5, c5b0, c5b1⟩
     ·obtain rfl := Option.some.inj H
      have p561 : 0 ≤ (x5_1 : Int) := of_decide_eq_true asmB
      have q561 : x5_1 < (l0.length : Int) := of_decide_eq_true asmB
      obtain ⟨ad561, e561, hx561_0⟩ := Kd.at_int HR0.out x5_1 p561 q561
      cases e561
      replace p561 := eq_true p561
      replace q561 := eq_true q561
      go_wp2
      go_ret
      exact ⟨rB, by repeat (first | exact Drawn0.refl _ | apply Drawn0.step)⟩
     ·have H' := Aside0.mk H
      clear H
      have p561 : 0 ≤ (x5_1 : Int) := of_decide_eq_true asmB
      have q561 : x5_1 < (l0.length : Int) := of_decide_eq_true asmB
      obtain ⟨ad561, e561, hx561_0⟩ := Kd.at_int HR0.out x5_1 p561 q561
      cases e561
      replace p561 := eq_true p561
      replace q561 := eq_true q561
      go_wp2
      go_roundg k1
      case measure => have := HK1.out; omega
      case rel => exact ⟨(wrap64 (x5_1 + 1)), rB, H', ⟨by have := HK1.out; omega⟩, by repeat (first | exact Drawn0.refl _ | apply Drawn0.step)⟩
    ·rw [if_neg c4] at H
     exact absurd H (by simp)
   ·obtain rfl := Option.some.inj H
    go_wp2
    go_ret
    exact ⟨rB, by repeat (first | exact Drawn0.refl _ | apply Drawn0.step)⟩

/-! ### spec_DrawConflictLegs: function 54 -/
def spec_DrawConflictLegs.f (k : Nat) (l0 : List Int) : Option ((List (S70)) × (List (S70)) × Int × Int) := (spec_l1Cur_twoClubs.f k l0 0 0).bind fun bt563 => ((spec_l1Cur_among.f l0 bt563.2.2.1 bt563.2.2.2 (([0, 1, 5, (-1)] : List Int))).bind fun bt574 => ((spec_l1Cur_among.f l0 bt574.2.1 bt574.2.2 (([0, 1, 2, 5, (-1)] : List Int))).bind fun bt580 => (some (bt563.1, bt563.2.1, bt574.1, bt580.1))))
theorem spec_DrawConflictLegs.mono : ∀ a0 k, LeO (spec_DrawConflictLegs.f k a0) (spec_DrawConflictLegs.f (k + 1) a0) := by
 intro a0 k
 unfold spec_DrawConflictLegs.f
 repeat' with_reducible first | apply spec_l1Cur_twoClubs.mono | exact LeO.refl _ | exact LeO.none _ | refine LeO.ite ?_ ?_ | refine LeO.bind ?_ (fun _ => ?_)
set_option maxHeartbeats 8000000 in
set_option maxRecDepth 100000 in
theorem spec_DrawConflictLegs.calls (k : Nat) (A0 : Option Addr) (c0 : Nat) (l0 : List Int) (r1 : List (S70)) (r2 : List (S70)) (r3 r4 : Int) (w : World) (hr0 : Kd.C (Kd.int .u8) w A0 l0.length l0) (hc0 : l0.length ≤ c0) (h : spec_DrawConflictLegs.f k l0 = some (r1, r2, r3, r4)) :
  Calls Try.prog 54 #[.slice A0 l0.length c0] w fun e w' => ∃ v0_ v1_ : Value, e = .returned (.tuple #[v0_, v1_, .int .i64 r3, .int .i64 r4]) ∧ Kd.R k70 70 w' w.heap.size (fun k_ => some k_ ≠ (v1_ : Value).ownBlock) v0_ r1 ∧ Kd.R k70 70 w' w.heap.size (fun k_ => some k_ ≠ (v0_ : Value).ownBlock) v1_ r2 ∧ Below w.heap.size w w' := by
 have hu90 := Try.underlying90
 have HR0 := Aside0.mk hr0
 have HC0 := Aside0.mk hc0
 clear hr0 hc0
 have HB := Aside0.mk (Below.refl w.heap.size w)
 have H := h
 clear h
 unfold spec_DrawConflictLegs.f at H
 replace H := Option.bind_eq_some_iff.mp H
 obtain ⟨⟨t563, t566, t569, t570⟩, A20, H⟩ := H
 replace H : ((spec_l1Cur_among.f l0 t569 t570 (([0, 1, 5, (-1)] : List Int))).bind fun bt574 => ((spec_l1Cur_among.f l0 bt574.2.1 bt574.2.2 (([0, 1, 2, 5, (-1)] : List Int))).bind fun bt580 => (some (t563, t566, bt574.1, bt580.1)))) = some (r1, r2, r3, r4) := H
 have A2 := Aside0.mk A20
 clear A20
 obtain ⟨y571, hy571⟩ : ∃ y_ : List Int, y_ = (([0, 1, 5, (-1)] : List Int)) := ⟨_, rfl⟩
 replace H : ((spec_l1Cur_among.f l0 t569 t570 y571).bind fun bt574 => ((spec_l1Cur_among.f l0 bt574.2.1 bt574.2.2 (([0, 1, 2, 5, (-1)] : List Int))).bind fun bt580 => (some (t563, t566, bt574.1, bt580.1)))) = some (r1, r2, r3, r4) := by first | (rw [hy571]; with_reducible exact H) | (have H2_ := (Option.bind_some _ _).symm.trans H; rw [hy571]; with_reducible exact H2_) | (have H2_ := (Option.bind_some _ _).symm.trans H; with_reducible exact H2_) | with_reducible exact H | (rw [hy571]; exact H) | exact H
 have Ny571 := Aside0.mk hy571
 clear hy571
 replace H := Option.bind_eq_some_iff.mp H
 obtain ⟨⟨t574, t575, t576⟩, A30, H⟩ := H
 replace H : ((spec_l1Cur_among.f l0 t575 t576 (([0, 1, 2, 5, (-1)] : List Int))).bind fun bt580 => (some (t563, t566, t574, bt580.1))) = some (r1, r2, r3, r4) := H
 have A3 := Aside0.mk A30
 clear A30
 obtain ⟨y577, hy577⟩ : ∃ y_ : List Int, y_ = (([0, 1, 2, 5, (-1)] : List Int)) := ⟨_, rfl⟩
 replace H : ((spec_l1Cur_among.f l0 t575 t576 y577).bind fun bt580 => (some (t563, t566, t574, bt580.1))) = some (r1, r2, r3, r4) := by first | (rw [hy577]; with_reducible exact H) | (have H2_ := (Option.bind_some _ _).symm.trans H; rw [hy577]; with_reducible exact H2_) | (have H2_ := (Option.bind_some _ _).symm.trans H; with_reducible exact H2_) | with_reducible exact H | (rw [hy577]; exact H) | exact H
 have Ny577 := Aside0.mk hy577
 clear hy577
 replace H := Option.bind_eq_some_iff.mp H
 obtain ⟨⟨t580, t581, t582⟩, A40, H⟩ := H
 replace H : (some (t563, t566, t574, t580)) = some (r1, r2, r3, r4) := H
 have A4 := Aside0.mk A40
 clear A40
 simp only [Option.some.injEq, Prod.mk.injEq] at H
 obtain ⟨rfl, rfl, rfl, rfl⟩ := H
 go_enter Try.func54, Try.ntmps54
 go_wp2_with (first | ((with_reducible refine gD 11 ?_); refine bxE 11 90 #[.slice A0 l0.length c0, .int .i64 0, .int .u64 0] fun gb562 w5 hg hbox hb => ?_; have GE562 := gB HB hg; have HI562 := Aside0.mk ((⟨_, _, hbox, (by rw [hg]; exact (below_size (bW HB)) : w.heap.size ≤ gb562), HR0.out⟩ : IsS90 w w5 gb562 l0 0 0)); replace HB := uB HB hb; clear hb hbox hg) | ((with_reducible refine gate_callee (f := 84) rfl ?_); refine goesL_ (some 14) rfl rfl Try.func84 (by kernel_rfl) rfl #[.pointer (some ⟨gb562, 0, none⟩)] rfl argsB ?_; (with_reducible refine (spec_l1Cur_twoClubs.calls k gb562 l0 0 0 t563 t566 t569 t570 w _ ?side1 ?side2 A2.out).mono ?_); (case side1 => repeat (first | (with_reducible first | exact HI562.out | apply IsS90.alloc | apply IsS90.drewN | apply IsS90.drew | apply IsS90.set_1 | apply IsS90.set_2) | exact HI562.out)); (case side2 => repeat (first | (with_reducible first | exact HB.out | apply below_alloc | apply pw_below_drewN | apply below_drew1 | refine below_set ?_ (IsS90.ge HI562.out)) | exact HB.out)); rintro e w6 ⟨v564, v567, rfl, ho0, ho1, hi, hb, hk⟩; refine ⟨_, rfl, ?_⟩; have HO565 := Aside0.mk (Kd.R_lower ho0 (below_size (by repeat (first | (with_reducible first | exact HB.out | apply below_alloc | apply pw_below_drewN | apply below_drew1 | refine below_set ?_ (IsS90.ge HI562.out)) | exact HB.out)))); have HO568 := Aside0.mk (Kd.R_lower ho1 (below_size (by repeat (first | (with_reducible first | exact HB.out | apply below_alloc | apply pw_below_drewN | apply below_drew1 | refine below_set ?_ (IsS90.ge HI562.out)) | exact HB.out)))); replace HB := Aside0.mk (hb); replace HI562 := Aside0.mk (hi); (try clear hb); (try clear hk); (try clear hi); (try clear ho0); (try clear ho1)) | ((with_reducible refine gate_dst (N := 20) rfl ?_); refine Kd.R_lit (Kd.int .i64) _ 3 ?hg (N := 20) ?hd (xs := ([0, 1, 5, (-1)] : List Int)) (inner := [.int .i64 0, .int .i64 1, .int .i64 5, .int .i64 (-1)]) (ok := fun _ => True) (okp := fun _ => True) ?hr ?hp (fun _ hk => hk) trivial (Below.refl _ _) (Nat.le_refl _) (by simp) ?_; (case hd => rfl); (case hg => rfl); (case hr => first | (go_simp; done) | (go_simp; rfl)); (case hp => exact (Reps.one (show Kd.M (Kd.int .i64) _ _ _ 0 [.int .i64 0] from rfl) (Reps.one (show Kd.M (Kd.int .i64) _ _ _ 1 [.int .i64 1] from rfl) (Reps.one (show Kd.M (Kd.int .i64) _ _ _ 5 [.int .i64 5] from rfl) (Reps.one (show Kd.M (Kd.int .i64) _ _ _ (-1) [.int .i64 (-1)] from rfl) (Reps.none _ _)))))); intro v572 w7 ho8 hb hg_ hnew_; clear hg_ hnew_; (first | rw [← Ny571.out] at ho8 | (simp only [Int.reduceToNat] at ho8; rw [← Ny571.out] at ho8)); have HO573 := Aside0.mk (Kd.R_lower ho8 (below_size (by repeat (first | (with_reducible first | exact HB.out | apply below_alloc | apply pw_below_drewN | apply below_drew1 | refine below_set ?_ (IsS90.ge HI562.out)) | exact HB.out)))); replace HO565 := uR HO565 hb; replace HO568 := uR HO568 hb; replace HB := Aside0.mk (below_step (by repeat (first | (with_reducible first | exact HB.out | apply below_alloc | apply pw_below_drewN | apply below_drew1 | refine below_set ?_ (IsS90.ge HI562.out)) | exact HB.out)) hb); replace HI562 := Aside0.mk (IsS90.below (keepF_ HI562 <| by repeat (first | (with_reducible first | exact HI562.out | apply IsS90.alloc | apply IsS90.drewN | apply IsS90.drew | apply IsS90.set_1 | apply IsS90.set_2) | exact HI562.out)) hb); clear hb ho8; obtain ⟨Ao9, co9, eo9⟩ := Kd.R_slice HO573.out; subst eo9) | ((with_reducible refine gate_callee (f := 86) rfl ?_); refine goesL_ (some 21) rfl rfl Try.func86 (by kernel_rfl) rfl #[.pointer (some ⟨gb562, 0, none⟩), .slice Ao9 y571.length co9] rfl argsB ?_; (with_reducible refine (spec_l1Cur_among.calls gb562 l0 t569 t570 _ _ y571 t574 t575 t576 w _ ?side1 ?side2 ?side3 ?side4 ?side5 A3.out).mono ?_); (case side1 => repeat (first | (with_reducible first | exact HI562.out | apply IsS90.alloc | apply IsS90.drewN | apply IsS90.drew | apply IsS90.set_1 | apply IsS90.set_2) | exact HI562.out)); (case side2 => repeat (first | (with_reducible first | exact HB.out | apply below_alloc | apply pw_below_drewN | apply below_drew1 | refine below_set ?_ (IsS90.ge HI562.out)) | exact HB.out)); (case side3 => repeat (first | exact (Kd.R_reads' HO573.out).2.2 | (with_reducible refine Kd.C_alloc ?_ _) | (with_reducible refine Kd.C_drewN ?_ _) | (with_reducible refine Kd.C_drew ?_))); (case side4 => exact (Kd.R_reads' HO573.out).2.1); (case side5 => exact far_slice (IsS90.own_ne HI562.out HO573.out (by decide))); rintro e w10 ⟨rfl, hi, hb, hk⟩; refine ⟨_, rfl, ?_⟩; replace HO565 := Aside0.mk (Kd.R_mono (Kd.R_keep (IsS90.apart (show IsS90 w _ gb562 l0 t569 t570 from by repeat (first | (with_reducible first | exact HI562.out | apply IsS90.alloc | apply IsS90.drewN | apply IsS90.drew | apply IsS90.set_1 | apply IsS90.set_2) | exact HI562.out)) (upR HO565.out) (by decide)) hk (fun _ h => h.2)) (fun _ h => h.1)); replace HO568 := Aside0.mk (Kd.R_mono (Kd.R_keep (IsS90.apart (show IsS90 w _ gb562 l0 t569 t570 from by repeat (first | (with_reducible first | exact HI562.out | apply IsS90.alloc | apply IsS90.drewN | apply IsS90.drew | apply IsS90.set_1 | apply IsS90.set_2) | exact HI562.out)) (upR HO568.out) (by decide)) hk (fun _ h => h.2)) (fun _ h => h.1)); replace HO573 := Aside0.mk (Kd.R_mono (Kd.R_keep (IsS90.apart (show IsS90 w _ gb562 l0 t569 t570 from by repeat (first | (with_reducible first | exact HI562.out | apply IsS90.alloc | apply IsS90.drewN | apply IsS90.drew | apply IsS90.set_1 | apply IsS90.set_2) | exact HI562.out)) (upR HO573.out) (by decide)) hk (fun _ h => h.2)) (fun _ h => h.1)); replace HB := Aside0.mk (hb); replace HI562 := Aside0.mk (hi); (try clear hb); (try clear hk); (try clear hi)) | ((with_reducible refine gate_dst (N := 23) rfl ?_); refine Kd.R_lit (Kd.int .i64) _ 3 ?hg (N := 23) ?hd (xs := ([0, 1, 2, 5, (-1)] : List Int)) (inner := [.int .i64 0, .int .i64 1, .int .i64 2, .int .i64 5, .int .i64 (-1)]) (ok := fun _ => True) (okp := fun _ => True) ?hr ?hp (fun _ hk => hk) trivial (Below.refl _ _) (Nat.le_refl _) (by simp) ?_; (case hd => rfl); (case hg => rfl); (case hr => first | (go_simp; done) | (go_simp; rfl)); (case hp => exact (Reps.one (show Kd.M (Kd.int .i64) _ _ _ 0 [.int .i64 0] from rfl) (Reps.one (show Kd.M (Kd.int .i64) _ _ _ 1 [.int .i64 1] from rfl) (Reps.one (show Kd.M (Kd.int .i64) _ _ _ 2 [.int .i64 2] from rfl) (Reps.one (show Kd.M (Kd.int .i64) _ _ _ 5 [.int .i64 5] from rfl) (Reps.one (show Kd.M (Kd.int .i64) _ _ _ (-1) [.int .i64 (-1)] from rfl) (Reps.none _ _))))))); intro v578 w11 ho12 hb hg_ hnew_; clear hg_ hnew_; (first | rw [← Ny577.out] at ho12 | (simp only [Int.reduceToNat] at ho12; rw [← Ny577.out] at ho12)); have HO579 := Aside0.mk (Kd.R_lower (Kd.R_new' ho12 (Kd.R_lt (upR HO573.out))) (below_size (by repeat (first | (with_reducible first | exact HB.out | apply below_alloc | apply pw_below_drewN | apply below_drew1 | refine below_set ?_ (IsS90.ge HI562.out)) | exact HB.out)))); replace HO565 := uR HO565 hb; replace HO568 := uR HO568 hb; replace HO573 := Aside0.mk (Kd.R_elder' (upR HO573.out) (Kd.R_base ho12) hb); replace HB := Aside0.mk (below_step (by repeat (first | (with_reducible first | exact HB.out | apply below_alloc | apply pw_below_drewN | apply below_drew1 | refine below_set ?_ (IsS90.ge HI562.out)) | exact HB.out)) hb); replace HI562 := Aside0.mk (IsS90.below (keepF_ HI562 <| by repeat (first | (with_reducible first | exact HI562.out | apply IsS90.alloc | apply IsS90.drewN | apply IsS90.drew | apply IsS90.set_1 | apply IsS90.set_2) | exact HI562.out)) hb); clear hb ho12; obtain ⟨Ao13, co13, eo13⟩ := Kd.R_slice HO579.out; subst eo13) | ((with_reducible refine gate_callee (f := 86) rfl ?_); refine goesL_ (some 24) rfl rfl Try.func86 (by kernel_rfl) rfl #[.pointer (some ⟨gb562, 0, none⟩), .slice Ao13 y577.length co13] rfl argsB ?_; (with_reducible refine (spec_l1Cur_among.calls gb562 l0 t575 t576 _ _ y577 t580 t581 t582 w _ ?side1 ?side2 ?side3 ?side4 ?side5 A4.out).mono ?_); (case side1 => repeat (first | (with_reducible first | exact HI562.out | apply IsS90.alloc | apply IsS90.drewN | apply IsS90.drew | apply IsS90.set_1 | apply IsS90.set_2) | exact HI562.out)); (case side2 => repeat (first | (with_reducible first | exact HB.out | apply below_alloc | apply pw_below_drewN | apply below_drew1 | refine below_set ?_ (IsS90.ge HI562.out)) | exact HB.out)); (case side3 => repeat (first | exact (Kd.R_reads' HO579.out).2.2 | (with_reducible refine Kd.C_alloc ?_ _) | (with_reducible refine Kd.C_drewN ?_ _) | (with_reducible refine Kd.C_drew ?_))); (case side4 => exact (Kd.R_reads' HO579.out).2.1); (case side5 => exact far_slice (IsS90.own_ne HI562.out HO579.out (by decide))); rintro e w14 ⟨rfl, hi, hb, hk⟩; refine ⟨_, rfl, ?_⟩; replace HO565 := Aside0.mk (Kd.R_mono (Kd.R_keep (IsS90.apart (show IsS90 w _ gb562 l0 t575 t576 from by repeat (first | (with_reducible first | exact HI562.out | apply IsS90.alloc | apply IsS90.drewN | apply IsS90.drew | apply IsS90.set_1 | apply IsS90.set_2) | exact HI562.out)) (upR HO565.out) (by decide)) hk (fun _ h => h.2)) (fun _ h => h.1)); replace HO568 := Aside0.mk (Kd.R_mono (Kd.R_keep (IsS90.apart (show IsS90 w _ gb562 l0 t575 t576 from by repeat (first | (with_reducible first | exact HI562.out | apply IsS90.alloc | apply IsS90.drewN | apply IsS90.drew | apply IsS90.set_1 | apply IsS90.set_2) | exact HI562.out)) (upR HO568.out) (by decide)) hk (fun _ h => h.2)) (fun _ h => h.1)); replace HO573 := Aside0.mk (Kd.R_mono (Kd.R_keep (IsS90.apart (show IsS90 w _ gb562 l0 t575 t576 from by repeat (first | (with_reducible first | exact HI562.out | apply IsS90.alloc | apply IsS90.drewN | apply IsS90.drew | apply IsS90.set_1 | apply IsS90.set_2) | exact HI562.out)) (upR HO573.out) (by decide)) hk (fun _ h => h.2)) (fun _ h => h.1)); replace HO579 := Aside0.mk (Kd.R_mono (Kd.R_keep (IsS90.apart (show IsS90 w _ gb562 l0 t575 t576 from by repeat (first | (with_reducible first | exact HI562.out | apply IsS90.alloc | apply IsS90.drewN | apply IsS90.drew | apply IsS90.set_1 | apply IsS90.set_2) | exact HI562.out)) (upR HO579.out) (by decide)) hk (fun _ h => h.2)) (fun _ h => h.1)); replace HB := Aside0.mk (hb); replace HI562 := Aside0.mk (hi); (try clear hb); (try clear hk); (try clear hi)))
 refine bodyPost_ret (results_list (rs := [.tmp 2, .tmp 3, .tmp 4, .tmp 5]) rfl (by simp) (.tmp (.tmp (.tmp (.tmp .nil))))) rfl ?_
 exact ⟨_, _, eB, upR HO565.out, upR HO568.out, by repeat (first | (with_reducible first | exact HB.out | apply below_alloc | apply pw_below_drewN | apply below_drew1 | refine below_set ?_ (IsS90.ge HI562.out)) | exact HB.out)⟩

/-! ### impl_DoAgree: function 55 -/
def impl_DoAgree.f (a0_0 a0_1 a0_2 a0_3 a0_4 a1_0 a1_1 a1_2 a1_3 a1_4 a2 a3 : Int) : Option (Bool × Bool) := (impl_IsLeg.f a0_0 a0_1 a0_2 a0_3 a0_4).bind fun t585 => (if t585 = true then ((impl_IsLeg.f a1_0 a1_1 a1_2 a1_3 a1_4).bind fun t586 => (if t586 = true then (if a2 < 0 then (some (false, false)) else (if a3 < 0 then (some (false, false)) else ((impl_joins.f a0_0 a0_1 a0_2 a0_3 a0_4 a1_0 a1_1 a1_2 a1_3 a1_4).bind fun t587 => (if t587 = true then ((impl_agree.f a0_0 a0_1 a0_2 a0_3 a0_4 a1_0 a1_1 a1_2 a1_3 a1_4 a2 a3).bind fun t588 => (some (t588, true))) else (some (false, false)))))) else (some (false, false)))) else (some (false, false)))
set_option maxHeartbeats 8000000 in
set_option maxRecDepth 100000 in
theorem impl_DoAgree.calls (a0_0 a0_1 a0_2 a0_3 a0_4 a1_0 a1_1 a1_2 a1_3 a1_4 a2 a3 : Int) (r1 r2 : Bool) (w : World) (h : impl_DoAgree.f a0_0 a0_1 a0_2 a0_3 a0_4 a1_0 a1_1 a1_2 a1_3 a1_4 a2 a3 = some (r1, r2)) :
  Calls Try.prog 55 #[.agg #[.int .i64 a0_0, .int .i64 a0_1, .int .i64 a0_2, .int .i64 a0_3, .int .i64 a0_4], .agg #[.int .i64 a1_0, .int .i64 a1_1, .int .i64 a1_2, .int .i64 a1_3, .int .i64 a1_4], .int .i64 a2, .int .i64 a3] w fun e w' => e = .returned (.tuple #[.bool r1, .bool r2]) ∧ Below w.heap.size w w' := by
 have hu70 := Try.underlying70
 have HB := Aside0.mk (Below.refl w.heap.size w)
 have H := h
 clear h
 unfold impl_DoAgree.f at H
 replace H := bA H
 obtain ⟨t585, A5, H⟩ := H
 rcases Bool.eq_false_or_eq_true t585 with rfl | rfl
 ·replace H := iT rfl H
  replace H := bA H
  obtain ⟨t586, A7, H⟩ := H
  rcases Bool.eq_false_or_eq_true t586 with rfl | rfl
  ·replace H := iT rfl H
   replace H := ifD H
   rcases H with ⟨H, -, c9b0⟩ | ⟨H, -, c9b0⟩
   ·simp only [Option.some.injEq, Prod.mk.injEq] at H
    obtain ⟨rfl, rfl⟩ := H
    go_enter Try.func55, Try.ntmps55
    go_wp2_with (first | ((with_reducible refine gD 4 ?_); refine bxE 4 70 #[.int .i64 a0_0, .int .i64 a0_1, .int .i64 a0_2, .int .i64 a0_3, .int .i64 a0_4] fun gb583 w10 hg hbox hb => ?_; have BK583 := Aside0.mk hbox; have GE583 := gB HB hg; replace HB := uB HB hb; clear hb hbox hg) | ((with_reducible refine gD 5 ?_); refine bxE 5 70 #[.int .i64 a1_0, .int .i64 a1_1, .int .i64 a1_2, .int .i64 a1_3, .int .i64 a1_4] fun gb584 w11 hg hbox hb => ?_; have BK584 := Aside0.mk hbox; have GE584 := gB HB hg; have ⟨NB583_584, NB584_583⟩ := nB BK583 hg; replace BK583 := uK BK583 hb; replace HB := uB HB hb; clear hb hbox hg; have hnb12 := NB583_584.out; have hnc12 := NB584_583.out; have ⟨hcz13_0, hcz13_1, hcz13_2, hcz13_3, hcz13_4, hfz13_0⟩ := cz5 BK583) | ((with_reducible refine gC 87 ?_); refine lA (some 11) Try.func87 (impl_IsLeg.calls a0_0 a0_1 a0_2 a0_3 a0_4 true _ A5.out) ?_; intro w14 hb; replace BK583 := uK BK583 hb; replace BK584 := uK BK584 hb; replace HB := uB HB hb; (try clear hb); have ⟨hcz15_0, hcz15_1, hcz15_2, hcz15_3, hcz15_4, hfz15_0⟩ := cz5 BK584) | (go_at_call 87; (with_reducible refine (impl_IsLeg.calls a1_0 a1_1 a1_2 a1_3 a1_4 true _ A7.out).mono ?_); rintro e w16 ⟨rfl, hb⟩; replace BK583 := uK BK583 hb; replace BK584 := uK BK584 hb; replace HB := uB HB hb; (try clear hb)))
    go_ret2
    exact ⟨eB, (bW HB)⟩
   ·replace H := ifD H
    rcases H with ⟨H, -, c17b0⟩ | ⟨H, -, c17b0⟩
    ·simp only [Option.some.injEq, Prod.mk.injEq] at H
     obtain ⟨rfl, rfl⟩ := H
     go_enter Try.func55, Try.ntmps55
     go_wp2_with (first | ((with_reducible refine gD 4 ?_); refine bxE 4 70 #[.int .i64 a0_0, .int .i64 a0_1, .int .i64 a0_2, .int .i64 a0_3, .int .i64 a0_4] fun gb583 w18 hg hbox hb => ?_; have BK583 := Aside0.mk hbox; have GE583 := gB HB hg; replace HB := uB HB hb; clear hb hbox hg) | ((with_reducible refine gD 5 ?_); refine bxE 5 70 #[.int .i64 a1_0, .int .i64 a1_1, .int .i64 a1_2, .int .i64 a1_3, .int .i64 a1_4] fun gb584 w19 hg hbox hb => ?_; have BK584 := Aside0.mk hbox; have GE584 := gB HB hg; have ⟨NB583_584, NB584_583⟩ := nB BK583 hg; replace BK583 := uK BK583 hb; replace HB := uB HB hb; clear hb hbox hg; have hnb20 := NB583_584.out; have hnc20 := NB584_583.out; have ⟨hcz21_0, hcz21_1, hcz21_2, hcz21_3, hcz21_4, hfz21_0⟩ := cz5 BK583) | ((with_reducible refine gC 87 ?_); refine lA (some 11) Try.func87 (impl_IsLeg.calls a0_0 a0_1 a0_2 a0_3 a0_4 true _ A5.out) ?_; intro w22 hb; replace BK583 := uK BK583 hb; replace BK584 := uK BK584 hb; replace HB := uB HB hb; (try clear hb); have ⟨hcz23_0, hcz23_1, hcz23_2, hcz23_3, hcz23_4, hfz23_0⟩ := cz5 BK584) | (go_at_call 87; (with_reducible refine (impl_IsLeg.calls a1_0 a1_1 a1_2 a1_3 a1_4 true _ A7.out).mono ?_); rintro e w24 ⟨rfl, hb⟩; replace BK583 := uK BK583 hb; replace BK584 := uK BK584 hb; replace HB := uB HB hb; (try clear hb)))
     go_ret2
     exact ⟨eB, (bW HB)⟩
    ·replace H := bA H
     obtain ⟨t587, A25, H⟩ := H
     rcases Bool.eq_false_or_eq_true t587 with rfl | rfl
     ·replace H := iT rfl H
      replace H := bA H
      obtain ⟨t588, A27, H⟩ := H
      simp only [Option.some.injEq, Prod.mk.injEq] at H
      obtain ⟨rfl, rfl⟩ := H
      go_enter Try.func55, Try.ntmps55
      go_wp2_with (first | ((with_reducible refine gD 4 ?_); refine bxE 4 70 #[.int .i64 a0_0, .int .i64 a0_1, .int .i64 a0_2, .int .i64 a0_3, .int .i64 a0_4] fun gb583 w28 hg hbox hb => ?_; have BK583 := Aside0.mk hbox; have GE583 := gB HB hg; replace HB := uB HB hb; clear hb hbox hg) | ((with_reducible refine gD 5 ?_); refine bxE 5 70 #[.int .i64 a1_0, .int .i64 a1_1, .int .i64 a1_2, .int .i64 a1_3, .int .i64 a1_4] fun gb584 w29 hg hbox hb => ?_; have BK584 := Aside0.mk hbox; have GE584 := gB HB hg; have ⟨NB583_584, NB584_583⟩ := nB BK583 hg; replace BK583 := uK BK583 hb; replace HB := uB HB hb; clear hb hbox hg; have hnb30 := NB583_584.out; have hnc30 := NB584_583.out; have ⟨hcz31_0, hcz31_1, hcz31_2, hcz31_3, hcz31_4, hfz31_0⟩ := cz5 BK583) | ((with_reducible refine gC 87 ?_); refine lA (some 11) Try.func87 (impl_IsLeg.calls a0_0 a0_1 a0_2 a0_3 a0_4 true _ A5.out) ?_; intro w32 hb; replace BK583 := uK BK583 hb; replace BK584 := uK BK584 hb; replace HB := uB HB hb; (try clear hb); have ⟨hcz33_0, hcz33_1, hcz33_2, hcz33_3, hcz33_4, hfz33_0⟩ := cz5 BK584) | (go_at_call 87; (with_reducible refine (impl_IsLeg.calls a1_0 a1_1 a1_2 a1_3 a1_4 true _ A7.out).mono ?_); rintro e w34 ⟨rfl, hb⟩; replace BK583 := uK BK583 hb; replace BK584 := uK BK584 hb; replace HB := uB HB hb; (try clear hb); have ⟨hcz35_0, hcz35_1, hcz35_2, hcz35_3, hcz35_4, hfz35_0⟩ := cz5 BK583; have ⟨hcz36_0, hcz36_1, hcz36_2, hcz36_3, hcz36_4, hfz36_0⟩ := cz5 BK584) | (go_at_call 70; (with_reducible refine (impl_joins.calls a0_0 a0_1 a0_2 a0_3 a0_4 a1_0 a1_1 a1_2 a1_3 a1_4 true _ A25.out).mono ?_); rintro e w37 ⟨rfl, hb⟩; replace BK583 := uK BK583 hb; replace BK584 := uK BK584 hb; replace HB := uB HB hb; (try clear hb); have ⟨hcz38_0, hcz38_1, hcz38_2, hcz38_3, hcz38_4, hfz38_0⟩ := cz5 BK583; have ⟨hcz39_0, hcz39_1, hcz39_2, hcz39_3, hcz39_4, hfz39_0⟩ := cz5 BK584) | ((with_reducible refine gC 75 ?_); refine lA (some 36) Try.func75 (impl_agree.calls a0_0 a0_1 a0_2 a0_3 a0_4 a1_0 a1_1 a1_2 a1_3 a1_4 a2 a3 t588 _ A27.out) ?_; intro w40 hb; replace BK583 := uK BK583 hb; replace BK584 := uK BK584 hb; replace HB := uB HB hb; (try clear hb)))
      go_ret2
      exact ⟨eB, (bW HB)⟩
     ·replace H := iF (by decide) H
      simp only [Option.some.injEq, Prod.mk.injEq] at H
      obtain ⟨rfl, rfl⟩ := H
      go_enter Try.func55, Try.ntmps55
      go_wp2_with (first | ((with_reducible refine gD 4 ?_); refine bxE 4 70 #[.int .i64 a0_0, .int .i64 a0_1, .int .i64 a0_2, .int .i64 a0_3, .int .i64 a0_4] fun gb583 w41 hg hbox hb => ?_; have BK583 := Aside0.mk hbox; have GE583 := gB HB hg; replace HB := uB HB hb; clear hb hbox hg) | ((with_reducible refine gD 5 ?_); refine bxE 5 70 #[.int .i64 a1_0, .int .i64 a1_1, .int .i64 a1_2, .int .i64 a1_3, .int .i64 a1_4] fun gb584 w42 hg hbox hb => ?_; have BK584 := Aside0.mk hbox; have GE584 := gB HB hg; have ⟨NB583_584, NB584_583⟩ := nB BK583 hg; replace BK583 := uK BK583 hb; replace HB := uB HB hb; clear hb hbox hg; have hnb43 := NB583_584.out; have hnc43 := NB584_583.out; have ⟨hcz44_0, hcz44_1, hcz44_2, hcz44_3, hcz44_4, hfz44_0⟩ := cz5 BK583) | ((with_reducible refine gC 87 ?_); refine lA (some 11) Try.func87 (impl_IsLeg.calls a0_0 a0_1 a0_2 a0_3 a0_4 true _ A5.out) ?_; intro w45 hb; replace BK583 := uK BK583 hb; replace BK584 := uK BK584 hb; replace HB := uB HB hb; (try clear hb); have ⟨hcz46_0, hcz46_1, hcz46_2, hcz46_3, hcz46_4, hfz46_0⟩ := cz5 BK584) | (go_at_call 87; (with_reducible refine (impl_IsLeg.calls a1_0 a1_1 a1_2 a1_3 a1_4 true _ A7.out).mono ?_); rintro e w47 ⟨rfl, hb⟩; replace BK583 := uK BK583 hb; replace BK584 := uK BK584 hb; replace HB := uB HB hb; (try clear hb); have ⟨hcz48_0, hcz48_1, hcz48_2, hcz48_3, hcz48_4, hfz48_0⟩ := cz5 BK583; have ⟨hcz49_0, hcz49_1, hcz49_2, hcz49_3, hcz49_4, hfz49_0⟩ := cz5 BK584) | (go_at_call 70; (with_reducible refine (impl_joins.calls a0_0 a0_1 a0_2 a0_3 a0_4 a1_0 a1_1 a1_2 a1_3 a1_4 false _ A25.out).mono ?_); rintro e w50 ⟨rfl, hb⟩; replace BK583 := uK BK583 hb; replace BK584 := uK BK584 hb; replace HB := uB HB hb; (try clear hb)))
      go_ret2
      exact ⟨eB, (bW HB)⟩
  ·replace H := iF (by decide) H
   simp only [Option.some.injEq, Prod.mk.injEq] at H
   obtain ⟨rfl, rfl⟩ := H
   go_enter Try.func55, Try.ntmps55
   go_wp2_with (first | ((with_reducible refine gD 4 ?_); refine bxE 4 70 #[.int .i64 a0_0, .int .i64 a0_1, .int .i64 a0_2, .int .i64 a0_3, .int .i64 a0_4] fun gb583 w51 hg hbox hb => ?_; have BK583 := Aside0.mk hbox; have GE583 := gB HB hg; replace HB := uB HB hb; clear hb hbox hg) | ((with_reducible refine gD 5 ?_); refine bxE 5 70 #[.int .i64 a1_0, .int .i64 a1_1, .int .i64 a1_2, .int .i64 a1_3, .int .i64 a1_4] fun gb584 w52 hg hbox hb => ?_; have BK584 := Aside0.mk hbox; have GE584 := gB HB hg; have ⟨NB583_584, NB584_583⟩ := nB BK583 hg; replace BK583 := uK BK583 hb; replace HB := uB HB hb; clear hb hbox hg; have hnb53 := NB583_584.out; have hnc53 := NB584_583.out; have ⟨hcz54_0, hcz54_1, hcz54_2, hcz54_3, hcz54_4, hfz54_0⟩ := cz5 BK583) | ((with_reducible refine gC 87 ?_); refine lA (some 11) Try.func87 (impl_IsLeg.calls a0_0 a0_1 a0_2 a0_3 a0_4 true _ A5.out) ?_; intro w55 hb; replace BK583 := uK BK583 hb; replace BK584 := uK BK584 hb; replace HB := uB HB hb; (try clear hb); have ⟨hcz56_0, hcz56_1, hcz56_2, hcz56_3, hcz56_4, hfz56_0⟩ := cz5 BK584) | (go_at_call 87; (with_reducible refine (impl_IsLeg.calls a1_0 a1_1 a1_2 a1_3 a1_4 false _ A7.out).mono ?_); rintro e w57 ⟨rfl, hb⟩; replace BK583 := uK BK583 hb; replace BK584 := uK BK584 hb; replace HB := uB HB hb; (try clear hb)))
   go_ret2
   exact ⟨eB, (bW HB)⟩
 ·replace H := iF (by decide) H
  simp only [Option.some.injEq, Prod.mk.injEq] at H
  obtain ⟨rfl, rfl⟩ := H
  go_enter Try.func55, Try.ntmps55
  go_wp2_with (first | ((with_reducible refine gD 4 ?_); refine bxE 4 70 #[.int .i64 a0_0, .int .i64 a0_1, .int .i64 a0_2, .int .i64 a0_3, .int .i64 a0_4] fun gb583 w58 hg hbox hb => ?_; have BK583 := Aside0.mk hbox; have GE583 := gB HB hg; replace HB := uB HB hb; clear hb hbox hg) | ((with_reducible refine gD 5 ?_); refine bxE 5 70 #[.int .i64 a1_0, .int .i64 a1_1, .int .i64 a1_2, .int .i64 a1_3, .int .i64 a1_4] fun gb584 w59 hg hbox hb => ?_; have BK584 := Aside0.mk hbox; have GE584 := gB HB hg; have ⟨NB583_584, NB584_583⟩ := nB BK583 hg; replace BK583 := uK BK583 hb; replace HB := uB HB hb; clear hb hbox hg; have hnb60 := NB583_584.out; have hnc60 := NB584_583.out; have ⟨hcz61_0, hcz61_1, hcz61_2, hcz61_3, hcz61_4, hfz61_0⟩ := cz5 BK583) | ((with_reducible refine gC 87 ?_); refine lA (some 11) Try.func87 (impl_IsLeg.calls a0_0 a0_1 a0_2 a0_3 a0_4 false _ A5.out) ?_; intro w62 hb; replace BK583 := uK BK583 hb; replace BK584 := uK BK584 hb; replace HB := uB HB hb; (try clear hb)))
  go_ret2
  exact ⟨eB, (bW HB)⟩

end Go.Proofs.Ytfaojmabalplfaa.QFnClubs
