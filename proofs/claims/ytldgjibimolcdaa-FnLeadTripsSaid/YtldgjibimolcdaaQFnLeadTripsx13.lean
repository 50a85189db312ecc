/- Contracts of Go functions that FnLeadTrips reaches: the call computes what the plain function says. No condition. -/
import Derived.Test.YtldgjibimolcdaaQFnLeadTripsx0
import Derived.Test.YtldgjibimolcdaaQFnLeadTripsx1
import Derived.Test.YtldgjibimolcdaaQFnLeadTripsx11
import Derived.Test.YtldgjibimolcdaaQFnLeadTripsx12
namespace Go.Proofs.Ytldgjibimolcdaa.QFnLeadTrips
open Go.RowKit Go.Proofs.YtldgjibimolcdaaW.PrintWords Go.Proofs.YtldgjibimolcdaaW.PrintLast Go.Proofs.YtldgjibimolcdaaW.PrintMore
attribute [local go_sem] max2_int min2_int max_two min_two max_three min_three max_four min_four   -- for this text's walks alone
set_option linter.unusedVariables false
set_option linter.unusedSimpArgs false

attribute [local go_sem high] eqA25
/-! ### laws_rHas: function 40 -/
def laws_rHas.l0 : Nat → List Int → Int → Int → Option (Bool)
 | 0, _, _, _ => none
 | k + 1, x0, x1, x5 => if x5 < (x0.length : Int) then (if 0 ≤ x5 then (if (rd x0 x5) = x1 then (some true) else (laws_rHas.l0 k x0 x1 (wrap64 (x5 + 1)))) else (none)) else (some false)
def laws_rHas.f (k : Nat) (l0 : List Int) (a1 : Int) : Option (Bool) := laws_rHas.l0 k l0 a1 0
theorem laws_rHas.mono_l : ∀ k, (∀ y0 y1 y2, LeO (laws_rHas.l0 k y0 y1 y2) (laws_rHas.l0 (k + 1) y0 y1 y2))
 | 0 => fun _ _ _ r h => by simp [laws_rHas.l0] at h
 | k + 1 => by
  have ih0 := laws_rHas.mono_l k
  ·intro y0 y1 y2
   unfold laws_rHas.l0
   repeat' with_reducible first | apply ih0 | exact LeO.refl _ | exact LeO.none _ | refine LeO.ite ?_ ?_ | refine LeO.bind ?_ (fun _ => ?_)
theorem laws_rHas.mono : ∀ a0 a1 k, LeO (laws_rHas.f k a0 a1) (laws_rHas.f (k + 1) a0 a1) := by
 intro a0 a1 k
 have ih0 := laws_rHas.mono_l k
 unfold laws_rHas.f
 repeat' with_reducible first | apply ih0 | exact LeO.refl _ | exact LeO.none _ | refine LeO.ite ?_ ?_ | refine LeO.bind ?_ (fun _ => ?_)
set_option maxHeartbeats 8000000 in
set_option maxRecDepth 100000 in
theorem laws_rHas.calls (k : Nat) (A0 : Option Addr) (c0 : Nat) (l0 : List Int) (a1 : Int) (r : Bool) (w : World) (hr0 : Kd.C (Kd.int .i64) w A0 l0.length l0) (hc0 : l0.length ≤ c0) (h : laws_rHas.f k l0 a1 = some r) :
  Calls Try.prog 40 #[.slice A0 l0.length c0, .int .i64 a1] w fun e w' => e = .returned (.bool r) ∧ Drawn0 w w' := by
 have HR0 := Aside0.mk hr0
 have HC0 := Aside0.mk hc0
 clear hr0 hc0
 have H : (laws_rHas.l0 k l0 a1 0) = some r := h
 clear h
 have H' := Aside0.mk H
 clear H
 go_enter Try.func40, Try.ntmps40
 go_wp2
 go_loopg [5] k (fun kq v5 w' => ∃ (x5_1 : Int), v5 = .int .i64 x5_1 ∧ Aside0 (laws_rHas.l0 kq l0 a1 x5_1 = some r) ∧ Aside0 (kq ≤ k) ∧ Drawn0 w w')
 case atStart => exact ⟨(0), rB, H', ⟨Nat.le_refl _⟩, by repeat (first | exact Drawn0.refl _ | apply Drawn0.step)⟩
 case round =>
  clear H'
  obtain ⟨x5_1, rfl, HA, HK1, ⟨m1, rfl⟩⟩ := hrel
  cases gk with
  | zero => exact absurd HA.out (by simp [laws_rHas.l0])
  | succ k1 =>
   have H := HA.out
   clear HA
   simp only [laws_rHas.l0] at H
   replace H := ifD H
   rcases H with ⟨H, -, c3b0⟩ | ⟨H, -, c3b0⟩
   ·by_cases c4 : 0 ≤ x5_1
    ·rw [if_pos c4] at H
     have c4b0 : decide (0 ≤ x5_1) = true := decide_eq_true c4
     clear c4
     replace H := ifI H
     rcases H with ⟨H, -, c5b0, c5b1⟩ | ⟨H, c5, c5b0, c5b1⟩
     ·obtain rfl := Option.some.inj H
      have p419 : 0 ≤ (x5_1 : Int) := of_decide_eq_true asmB
      have q419 : x5_1 < (l0.length : Int) := of_decide_eq_true asmB
      obtain ⟨ad419, e419, hx419_0⟩ := Kd.at_int HR0.out x5_1 p419 q419
      cases e419
      replace p419 := eq_true p419
      replace q419 := eq_true q419
      go_wp2
      go_ret
      exact ⟨rB, by repeat (first | exact Drawn0.refl _ | apply Drawn0.step)⟩
     ·have H' := Aside0.mk H
      clear H
      have p419 : 0 ≤ (x5_1 : Int) := of_decide_eq_true asmB
      have q419 : x5_1 < (l0.length : Int) := of_decide_eq_true asmB
      obtain ⟨ad419, e419, hx419_0⟩ := Kd.at_int HR0.out x5_1 p419 q419
      cases e419
      replace p419 := eq_true p419
      replace q419 := eq_true q419
      go_wp2
      go_roundg k1
      case measure => have := HK1.out; omega
      case rel => exact ⟨(wrap64 (x5_1 + 1)), rB, H', ⟨by have := HK1.out; omega⟩, by repeat (first | exact Drawn0.refl _ | apply Drawn0.step)⟩
    ·rw [if_neg c4] at H
     exact absurd H (by simp)
   ·obtain rfl := Option.some.inj H
    go_wp2
    go_ret
    exact ⟨rB, by repeat (first | exact Drawn0.refl _ | apply Drawn0.step)⟩

/-! ### spec_DrawChangeLead: function 41 -/
def spec_DrawChangeLead.j0 : Nat → List (S25) → Int → Bool → List Int → Int → Int → Option ((List (S25)) × Int × Int)
 | 0, _, _, _, _, _, _ => none
 | k + 1, x6, x7, x23, x421000, x421001, x421002 => if x23 = true then ((spec_l1Cur_pick.f x421000 x421001 x421002 (x6.length : Int)).bind fun bt435 => (if 0 ≤ bt435.1 then (if bt435.1 < (x6.length : Int) then ((some (([0, 1, 1, 2, 3, (-1), 4] : List Int) : List Int)).bind fun y439 => ((spec_l1Cur_pick.f x421000 bt435.2.1 bt435.2.2 24).bind fun bt442 => (if 0 ≤ (wrap64 (5 + (wrap64 (Int.tdiv bt442.1 11)))) then (if (wrap64 (5 + (wrap64 (Int.tdiv bt442.1 11)))) ≤ (y439.length : Int) then ((spec_l1Cur_among.f x421000 bt442.2.1 bt442.2.2 (y439.take ((wrap64 (5 + (wrap64 (Int.tdiv bt442.1 11)))) : Int).toNat)).bind fun bt449 => (some (x6, (rd_T25 x6 bt435.1).f0, bt449.1))) else (none)) else (none)))) else (none)) else (none))) else ((some (([0, 1, 1, 2, 3, (-1), 4] : List Int) : List Int)).bind fun y452 => ((spec_l1Cur_pick.f x421000 x421001 x421002 24).bind fun bt455 => (if 0 ≤ (wrap64 (5 + (wrap64 (Int.tdiv bt455.1 11)))) then (if (wrap64 (5 + (wrap64 (Int.tdiv bt455.1 11)))) ≤ (y452.length : Int) then ((spec_l1Cur_among.f x421000 bt455.2.1 bt455.2.2 (y452.take ((wrap64 (5 + (wrap64 (Int.tdiv bt455.1 11)))) : Int).toNat)).bind fun bt462 => (some (x6, x7, bt462.1))) else (none)) else (none))))
def spec_DrawChangeLead.f (k : Nat) (l0 : List Int) : Option ((List (S25)) × Int × Int) := (spec_l1Cur_leads.f k l0 0 0).bind fun bt421 => ((spec_l1Cur_among.f l0 bt421.2.1 bt421.2.2 (([0, 1, 50] : List Int))).bind fun bt429 => (if (bt421.1.length : Int) > 0 then ((spec_l1Cur_one.f l0 bt429.2.1 bt429.2.2 8).bind fun bt432 => (spec_DrawChangeLead.j0 k bt421.1 bt429.1 (!bt432.1) l0 bt432.2.1 bt432.2.2)) else (spec_DrawChangeLead.j0 k bt421.1 bt429.1 false l0 bt429.2.1 bt429.2.2)))
theorem spec_DrawChangeLead.mono_l : ∀ k, (∀ y0 y1 y2 y3 y4 y5, LeO (spec_DrawChangeLead.j0 k y0 y1 y2 y3 y4 y5) (spec_DrawChangeLead.j0 (k + 1) y0 y1 y2 y3 y4 y5))
 | 0 => fun _ _ _ _ _ _ r h => by simp [spec_DrawChangeLead.j0] at h
 | k + 1 => by
  have ih0 := spec_DrawChangeLead.mono_l k
  ·intro y0 y1 y2 y3 y4 y5
   unfold spec_DrawChangeLead.j0
   repeat' with_reducible first | apply ih0 | apply spec_l1Cur_leads.mono | exact LeO.refl _ | exact LeO.none _ | refine LeO.ite ?_ ?_ | refine LeO.bind ?_ (fun _ => ?_)
theorem spec_DrawChangeLead.mono : ∀ a0 k, LeO (spec_DrawChangeLead.f k a0) (spec_DrawChangeLead.f (k + 1) a0) := by
 intro a0 k
 have ih0 := spec_DrawChangeLead.mono_l k
 unfold spec_DrawChangeLead.f
 repeat' with_reducible first | apply ih0 | apply spec_l1Cur_leads.mono | exact LeO.refl _ | exact LeO.none _ | refine LeO.ite ?_ ?_ | refine LeO.bind ?_ (fun _ => ?_)
set_option maxHeartbeats 8000000 in
set_option maxRecDepth 100000 in
theorem spec_DrawChangeLead.calls (k : Nat) (A0 : Option Addr) (c0 : Nat) (l0 : List Int) (r1 : List (S25)) (r2 r3 : Int) (w : World) (hr0 : Kd.C (Kd.int .u8) w A0 l0.length l0) (hc0 : l0.length ≤ c0) (h : spec_DrawChangeLead.f k l0 = some (r1, r2, r3)) :
  Calls Try.prog 41 #[.slice A0 l0.length c0] w fun e w' => ∃ v0_ : Value, e = .returned (.tuple #[v0_, .int .i64 r2, .int .i64 r3]) ∧ Kd.R k25 25 w' w.heap.size (fun _ => True) v0_ r1 ∧ Below w.heap.size w w' := by
 have hu64 := Try.underlying64
 have HR0 := Aside0.mk hr0
 have HC0 := Aside0.mk hc0
 clear hr0 hc0
 have HB := Aside0.mk (Below.refl w.heap.size w)
 have H := h
 clear h
 unfold spec_DrawChangeLead.f at H
 replace H := Option.bind_eq_some_iff.mp H
 obtain ⟨⟨t421, t424, t425⟩, A20, H⟩ := H
 replace H : ((spec_l1Cur_among.f l0 t424 t425 (([0, 1, 50] : List Int))).bind fun bt429 => (if (t421.length : Int) > 0 then ((spec_l1Cur_one.f l0 bt429.2.1 bt429.2.2 8).bind fun bt432 => (spec_DrawChangeLead.j0 k t421 bt429.1 (!bt432.1) l0 bt432.2.1 bt432.2.2)) else (spec_DrawChangeLead.j0 k t421 bt429.1 false l0 bt429.2.1 bt429.2.2))) = some (r1, r2, r3) := H
 have A2 := Aside0.mk A20
 clear A20
 obtain ⟨y426, hy426⟩ : ∃ y_ : List Int, y_ = (([0, 1, 50] : List Int)) := ⟨_, rfl⟩
 replace H : ((spec_l1Cur_among.f l0 t424 t425 y426).bind fun bt429 => (if (t421.length : Int) > 0 then ((spec_l1Cur_one.f l0 bt429.2.1 bt429.2.2 8).bind fun bt432 => (spec_DrawChangeLead.j0 k t421 bt429.1 (!bt432.1) l0 bt432.2.1 bt432.2.2)) else (spec_DrawChangeLead.j0 k t421 bt429.1 false l0 bt429.2.1 bt429.2.2))) = some (r1, r2, r3) := by first | (rw [hy426]; with_reducible exact H) | (have H2_ := (Option.bind_some _ _).symm.trans H; rw [hy426]; with_reducible exact H2_) | (have H2_ := (Option.bind_some _ _).symm.trans H; with_reducible exact H2_) | with_reducible exact H | (rw [hy426]; exact H) | exact H
 have Ny426 := Aside0.mk hy426
 clear hy426
 replace H := Option.bind_eq_some_iff.mp H
 obtain ⟨⟨t429, t430, t431⟩, A30, H⟩ := H
 replace H : (if (t421.length : Int) > 0 then ((spec_l1Cur_one.f l0 t430 t431 8).bind fun bt432 => (spec_DrawChangeLead.j0 k t421 t429 (!bt432.1) l0 bt432.2.1 bt432.2.2)) else (spec_DrawChangeLead.j0 k t421 t429 false l0 t430 t431)) = some (r1, r2, r3) := H
 have A3 := Aside0.mk A30
 clear A30
 have HC4 := Aside0.mk H
 clear H
 go_enter Try.func41, Try.ntmps41
 go_upto_region 4 with (first | ((with_reducible refine gD 10 ?_); refine bxE 10 64 #[.slice A0 l0.length c0, .int .i64 0, .int .u64 0] fun gb420 w5 hg hbox hb => ?_; have GE420 := gB HB hg; have HI420 := Aside0.mk ((⟨_, _, hbox, (by rw [hg]; exact (below_size (bW HB)) : w.heap.size ≤ gb420), HR0.out⟩ : IsS64 w w5 gb420 l0 0 0)); replace HB := uB HB hb; clear hb hbox hg) | ((with_reducible refine gate_callee (f := 61) rfl ?_); refine goesL_ (some 12) rfl rfl Try.func61 (by kernel_rfl) rfl #[.pointer (some ⟨gb420, 0, none⟩)] rfl argsB ?_; (with_reducible refine (spec_l1Cur_leads.calls k gb420 l0 0 0 t421 t424 t425 w _ ?side1 ?side2 A2.out).mono ?_); (case side1 => repeat (first | (with_reducible first | exact HI420.out | apply IsS64.alloc | apply IsS64.drewN | apply IsS64.drew | apply IsS64.set_1 | apply IsS64.set_2) | exact HI420.out)); (case side2 => repeat (first | (with_reducible first | exact HB.out | apply below_alloc | apply pw_below_drewN | apply below_drew1 | refine below_set ?_ (IsS64.ge HI420.out)) | exact HB.out)); rintro e w6 ⟨v422, rfl, ho0, hi, hb, hk⟩; refine ⟨_, rfl, ?_⟩; have HO423 := Aside0.mk (Kd.R_lower ho0 (below_size (by repeat (first | (with_reducible first | exact HB.out | apply below_alloc | apply pw_below_drewN | apply below_drew1 | refine below_set ?_ (IsS64.ge HI420.out)) | exact HB.out)))); replace HB := Aside0.mk (hb); replace HI420 := Aside0.mk (hi); (try clear hb); (try clear hk); (try clear hi); (try clear ho0)) | ((with_reducible refine gate_dst (N := 14) rfl ?_); refine Kd.R_lit (Kd.int .i64) _ 3 ?hg (N := 14) ?hd (xs := ([0, 1, 50] : List Int)) (inner := [.int .i64 0, .int .i64 1, .int .i64 50]) (ok := fun _ => True) (okp := fun _ => True) ?hr ?hp (fun _ hk => hk) trivial (Below.refl _ _) (Nat.le_refl _) (by simp) ?_; (case hd => rfl); (case hg => rfl); (case hr => first | (go_simp; done) | (go_simp; rfl)); (case hp => exact (Reps.one (show Kd.M (Kd.int .i64) _ _ _ 0 [.int .i64 0] from rfl) (Reps.one (show Kd.M (Kd.int .i64) _ _ _ 1 [.int .i64 1] from rfl) (Reps.one (show Kd.M (Kd.int .i64) _ _ _ 50 [.int .i64 50] from rfl) (Reps.none _ _))))); intro v427 w7 ho8 hb hg_ hnew_; clear hg_ hnew_; (first | rw [← Ny426.out] at ho8 | (simp only [Int.reduceToNat] at ho8; rw [← Ny426.out] at ho8)); have HO428 := Aside0.mk (Kd.R_lower ho8 (below_size (by repeat (first | (with_reducible first | exact HB.out | apply below_alloc | apply pw_below_drewN | apply below_drew1 | refine below_set ?_ (IsS64.ge HI420.out)) | exact HB.out)))); replace HO423 := uR HO423 hb; replace HB := Aside0.mk (below_step (by repeat (first | (with_reducible first | exact HB.out | apply below_alloc | apply pw_below_drewN | apply below_drew1 | refine below_set ?_ (IsS64.ge HI420.out)) | exact HB.out)) hb); replace HI420 := Aside0.mk (IsS64.below (by repeat (first | (with_reducible first | exact HI420.out | apply IsS64.alloc | apply IsS64.drewN | apply IsS64.drew | apply IsS64.set_1 | apply IsS64.set_2) | exact HI420.out)) hb); clear hb ho8; obtain ⟨Ao9, co9, eo9⟩ := Kd.R_slice HO428.out; subst eo9) | ((with_reducible refine gate_callee (f := 62) rfl ?_); refine goesL_ (some 15) rfl rfl Try.func62 (by kernel_rfl) rfl #[.pointer (some ⟨gb420, 0, none⟩), .slice Ao9 y426.length co9] rfl argsB ?_; (with_reducible refine (spec_l1Cur_among.calls gb420 l0 t424 t425 _ _ y426 t429 t430 t431 w _ ?side1 ?side2 ?side3 ?side4 ?side5 A3.out).mono ?_); (case side1 => repeat (first | (with_reducible first | exact HI420.out | apply IsS64.alloc | apply IsS64.drewN | apply IsS64.drew | apply IsS64.set_1 | apply IsS64.set_2) | exact HI420.out)); (case side2 => repeat (first | (with_reducible first | exact HB.out | apply below_alloc | apply pw_below_drewN | apply below_drew1 | refine below_set ?_ (IsS64.ge HI420.out)) | exact HB.out)); (case side3 => repeat (first | exact (Kd.R_reads' HO428.out).2.2 | (with_reducible refine Kd.C_alloc ?_ _) | (with_reducible refine Kd.C_drewN ?_ _) | (with_reducible refine Kd.C_drew ?_))); (case side4 => exact (Kd.R_reads' HO428.out).2.1); (case side5 => exact far_slice (IsS64.own_ne HI420.out HO428.out (by decide))); rintro e w10 ⟨rfl, hi, hb, hk⟩; refine ⟨_, rfl, ?_⟩; replace HO423 := Aside0.mk (Kd.R_mono (Kd.R_keep (IsS64.apart (show IsS64 w _ gb420 l0 t424 t425 from by repeat (first | (with_reducible first | exact HI420.out | apply IsS64.alloc | apply IsS64.drewN | apply IsS64.drew | apply IsS64.set_1 | apply IsS64.set_2) | exact HI420.out)) (upR HO423.out) (by decide)) hk (fun _ h => h.2)) (fun _ h => h.1)); replace HO428 := Aside0.mk (Kd.R_mono (Kd.R_keep (IsS64.apart (show IsS64 w _ gb420 l0 t424 t425 from by repeat (first | (with_reducible first | exact HI420.out | apply IsS64.alloc | apply IsS64.drewN | apply IsS64.drew | apply IsS64.set_1 | apply IsS64.set_2) | exact HI420.out)) (upR HO428.out) (by decide)) hk (fun _ h => h.2)) (fun _ h => h.1)); replace HB := Aside0.mk (hb); replace HI420 := Aside0.mk (hi); (try clear hb); (try clear hk); (try clear hi)))
 (try simp only [Act.put, List.setIfInBounds_toArray, List.set_cons_zero, List.set_cons_succ])
 go_cut [23] (fun v23 wc => ∃ (kq : Nat) (x23_3 : Bool) (x421001_3 x421002_3 : Int), v23 = .bool x23_3 ∧ Aside0 (spec_DrawChangeLead.j0 kq t421 t429 x23_3 l0 x421001_3 x421002_3 = some (r1, r2, r3)) ∧ Aside0 (kq ≤ k) ∧ Aside0 (Kd.R k25 25 wc w.heap.size (fun _ => True) v422 t421) ∧ Aside0 (IsS64 w wc gb420 l0 x421001_3 x421002_3) ∧ Aside0 (Below w.heap.size w wc))
 case first =>
  have H := HC4.out
  clear HC4
  replace H := ifD H
  rcases H with ⟨H, c11, c11b0⟩ | ⟨H, c11, c11b0⟩
  ·have c11b1 : decide (0 < t421.length) = true := decide_eq_true (by omega)
   clear c11
   (first | rw [c11b0] | rw [c11b1] | (simp only [i64_w, i32_w]; rw [c11b0]) | skip)
   replace H := Option.bind_eq_some_iff.mp H
   obtain ⟨⟨t432, t433, t434⟩, A120, H⟩ := H
   replace H : (spec_DrawChangeLead.j0 k t421 t429 (!t432) l0 t433 t434) = some (r1, r2, r3) := H
   have A12 := Aside0.mk A120
   clear A120
   have H' := Aside0.mk H
   clear H
   obtain ⟨Ao13, co13, eo13⟩ := Kd.R_slice HO423.out
   subst eo13
   go_wp2_with (first | (go_at_call 64; (with_reducible refine (spec_l1Cur_one.calls gb420 l0 t430 t431 8 t432 t433 t434 w _ ?side1 ?side2 A12.out).mono ?_); (case side1 => repeat (first | (with_reducible first | exact HI420.out | apply IsS64.alloc | apply IsS64.drewN | apply IsS64.drew | apply IsS64.set_1 | apply IsS64.set_2) | exact HI420.out)); (case side2 => repeat (first | (with_reducible first | exact HB.out | apply below_alloc | apply pw_below_drewN | apply below_drew1 | refine below_set ?_ (IsS64.ge HI420.out)) | exact HB.out)); rintro e w14 ⟨rfl, hi, hb, hk⟩; replace HO423 := Aside0.mk (Kd.R_mono (Kd.R_keep (IsS64.apart (show IsS64 w _ gb420 l0 t430 t431 from by repeat (first | (with_reducible first | exact HI420.out | apply IsS64.alloc | apply IsS64.drewN | apply IsS64.drew | apply IsS64.set_1 | apply IsS64.set_2) | exact HI420.out)) (upR HO423.out) (by decide)) hk (fun _ h => h.2)) (fun _ h => h.1)); replace HO428 := Aside0.mk (Kd.R_mono (Kd.R_keep (IsS64.apart (show IsS64 w _ gb420 l0 t430 t431 from by repeat (first | (with_reducible first | exact HI420.out | apply IsS64.alloc | apply IsS64.drewN | apply IsS64.drew | apply IsS64.set_1 | apply IsS64.set_2) | exact HI420.out)) (upR HO428.out) (by decide)) hk (fun _ h => h.2)) (fun _ h => h.1)); replace HB := Aside0.mk (hb); replace HI420 := Aside0.mk (hi); (try clear hb); (try clear hk); (try clear hi)))
   go_meet
   case rel => exact ⟨_, (!t432), (t433), (t434), rB, H', leB, ⟨upR HO423.out⟩, ⟨by repeat (first | (with_reducible first | exact HI420.out | apply IsS64.alloc | apply IsS64.drewN | apply IsS64.drew | apply IsS64.set_1 | apply IsS64.set_2) | exact HI420.out)⟩, ⟨by repeat (first | (with_reducible first | exact HB.out | apply below_alloc | apply pw_below_drewN | apply below_drew1 | refine below_set ?_ (IsS64.ge HI420.out)) | exact HB.out)⟩⟩
  ·have c11b1 : decide (0 < t421.length) = false := decide_eq_false (by omega)
   clear c11
   (first | rw [c11b0] | rw [c11b1] | (simp only [i64_w, i32_w]; rw [c11b0]) | skip)
   have H' := Aside0.mk H
   clear H
   obtain ⟨Ao15, co15, eo15⟩ := Kd.R_slice HO423.out
   subst eo15
   go_wp2
   go_meet
   case rel => exact ⟨_, (false), (t430), (t431), rB, H', leB, ⟨upR HO423.out⟩, ⟨by repeat (first | (with_reducible first | exact HI420.out | apply IsS64.alloc | apply IsS64.drewN | apply IsS64.drew | apply IsS64.set_1 | apply IsS64.set_2) | exact HI420.out)⟩, ⟨by repeat (first | (with_reducible first | exact HB.out | apply below_alloc | apply pw_below_drewN | apply below_drew1 | refine below_set ?_ (IsS64.ge HI420.out)) | exact HB.out)⟩⟩
 case rest =>
  clear HC4
  obtain ⟨kq, x23_3, x421001_3, x421002_3, rfl, HA, HJ3, HO_6, HI420, HB⟩ := hcut
  cases kq with
  | zero => exact absurd HA.out (by simp [spec_DrawChangeLead.j0])
  | succ kj3 =>
   have H := HA.out
   clear HA
   simp only [spec_DrawChangeLead.j0] at H
   rcases Bool.eq_false_or_eq_true x23_3 with rfl | rfl
   ·replace H := iT rfl H
    replace H := Option.bind_eq_some_iff.mp H
    obtain ⟨⟨t435, t436, t437⟩, A170, H⟩ := H
    replace H : (if 0 ≤ t435 then (if t435 < (t421.length : Int) then ((some (([0, 1, 1, 2, 3, (-1), 4] : List Int) : List Int)).bind fun y439 => ((spec_l1Cur_pick.f l0 t436 t437 24).bind fun bt442 => (if 0 ≤ (wrap64 (5 + (wrap64 (Int.tdiv bt442.1 11)))) then (if (wrap64 (5 + (wrap64 (Int.tdiv bt442.1 11)))) ≤ (y439.length : Int) then ((spec_l1Cur_among.f l0 bt442.2.1 bt442.2.2 (y439.take ((wrap64 (5 + (wrap64 (Int.tdiv bt442.1 11)))) : Int).toNat)).bind fun bt449 => (some (t421, (rd_T25 t421 t435).f0, bt449.1))) else (none)) else (none)))) else (none)) else (none)) = some (r1, r2, r3) := H
    have A17 := Aside0.mk A170
    clear A170
    by_cases c18 : 0 ≤ t435
    ·rw [if_pos c18] at H
     have c18b0 : decide (0 ≤ t435) = true := decide_eq_true c18
     clear c18
     by_cases c19 : t435 < (t421.length : Int)
     ·rw [if_pos c19] at H
      have c19b0 : decide (t435 < (t421.length : Int)) = true := decide_eq_true c19
      clear c19
      obtain ⟨y439, hy439⟩ : ∃ y_ : List Int, y_ = (([0, 1, 1, 2, 3, (-1), 4] : List Int)) := ⟨_, rfl⟩
      replace H : ((spec_l1Cur_pick.f l0 t436 t437 24).bind fun bt442 => (if 0 ≤ (wrap64 (5 + (wrap64 (Int.tdiv bt442.1 11)))) then (if (wrap64 (5 + (wrap64 (Int.tdiv bt442.1 11)))) ≤ (y439.length : Int) then ((spec_l1Cur_among.f l0 bt442.2.1 bt442.2.2 (y439.take ((wrap64 (5 + (wrap64 (Int.tdiv bt442.1 11)))) : Int).toNat)).bind fun bt449 => (some (t421, (rd_T25 t421 t435).f0, bt449.1))) else (none)) else (none))) = some (r1, r2, r3) := by first | (rw [hy439]; with_reducible exact H) | (have H2_ := (Option.bind_some _ _).symm.trans H; rw [hy439]; with_reducible exact H2_) | (have H2_ := (Option.bind_some _ _).symm.trans H; with_reducible exact H2_) | with_reducible exact H | (rw [hy439]; exact H) | exact H
      have Ny439 := Aside0.mk hy439
      clear hy439
      replace H := Option.bind_eq_some_iff.mp H
      obtain ⟨⟨t442, t443, t444⟩, A200, H⟩ := H
      replace H : (if 0 ≤ (wrap64 (5 + (wrap64 (Int.tdiv t442 11)))) then (if (wrap64 (5 + (wrap64 (Int.tdiv t442 11)))) ≤ (y439.length : Int) then ((spec_l1Cur_among.f l0 t443 t444 (y439.take ((wrap64 (5 + (wrap64 (Int.tdiv t442 11)))) : Int).toNat)).bind fun bt449 => (some (t421, (rd_T25 t421 t435).f0, bt449.1))) else (none)) else (none)) = some (r1, r2, r3) := H
      have A20 := Aside0.mk A200
      clear A200
      obtain ⟨ji21, hji21⟩ : ∃ j_ : Int, (wrap64 (5 + (wrap64 (Int.tdiv t442 11)))) = j_ := ⟨_, rfl⟩
      replace H : (if 0 ≤ (ji21) then (if (ji21) ≤ (y439.length : Int) then ((spec_l1Cur_among.f l0 t443 t444 (y439.take ((ji21) : Int).toNat)).bind fun bt449 => (some (t421, (rd_T25 t421 t435).f0, bt449.1))) else (none)) else (none)) = some (r1, r2, r3) := by first | (rw [hji21] at H; exact H) | (simp only [hji21] at H ⊢; exact H)
      (try rw [hji21] at A17)
      (try rw [hji21] at A20)
      have hji21w : (IntKind.i64.wrap (5 + (wrap64 (Int.tdiv t442 11)))) = ji21 := (i64_w _).trans hji21
      by_cases c22 : 0 ≤ (ji21)
      ·rw [if_pos c22] at H
       have c22b0 := eq_true c22
       have c22b1 : decide (0 ≤ (ji21)) = true := decide_eq_true c22
       clear c22
       by_cases c23 : (ji21) ≤ (y439.length : Int)
       ·rw [if_pos c23] at H
        have c23b0 := eq_true c23
        have c23b1 : decide ((ji21) ≤ (y439.length : Int)) = true := decide_eq_true c23
        clear c23
        obtain ⟨y445, hy445⟩ : ∃ y_ : List Int, y_ = (y439.take ((ji21) : Int).toNat) := ⟨_, rfl⟩
        replace H : ((spec_l1Cur_among.f l0 t443 t444 y445).bind fun bt449 => (some (t421, (rd_T25 t421 t435).f0, bt449.1))) = some (r1, r2, r3) := by first | (rw [hy445]; with_reducible exact H) | (have H2_ := (Option.bind_some _ _).symm.trans H; rw [hy445]; with_reducible exact H2_) | (have H2_ := (Option.bind_some _ _).symm.trans H; with_reducible exact H2_) | with_reducible exact H | (rw [hy445]; exact H) | exact H
        have Ny445 := Aside0.mk hy445
        clear hy445
        replace H := Option.bind_eq_some_iff.mp H
        obtain ⟨⟨t449, t450, t451⟩, A240, H⟩ := H
        replace H : (some (t421, (rd_T25 t421 t435).f0, t449)) = some (r1, r2, r3) := H
        have A24 := Aside0.mk A240
        clear A240
        simp only [Option.some.injEq, Prod.mk.injEq] at H
        obtain ⟨rfl, rfl, rfl⟩ := H
        obtain ⟨Ao25, co25, eo25⟩ := Kd.R_slice HO_6.out
        subst eo25
        go_wp2_with (first | ((with_reducible refine gate_callee (f := 63) rfl ?_); refine goesL_ (some 28) rfl rfl Try.func63 (by kernel_rfl) rfl #[.pointer (some ⟨gb420, 0, none⟩), .int .i64 (t421.length : Int)] rfl argsB ?_; (with_reducible refine (spec_l1Cur_pick.calls gb420 l0 x421001_3 x421002_3 (t421.length : Int) t435 t436 t437 w _ ?side1 ?side2 A17.out).mono ?_); (case side1 => repeat (first | (with_reducible first | exact HI420.out | apply IsS64.alloc | apply IsS64.drewN | apply IsS64.drew | apply IsS64.set_1 | apply IsS64.set_2) | exact HI420.out)); (case side2 => repeat (first | (with_reducible first | exact HB.out | apply below_alloc | apply pw_below_drewN | apply below_drew1 | refine below_set ?_ (IsS64.ge HI420.out)) | exact HB.out)); rintro e w26 ⟨rfl, hi, hb, hk⟩; refine ⟨_, rfl, ?_⟩; replace HO_6 := Aside0.mk (Kd.R_mono (Kd.R_keep (IsS64.apart (show IsS64 w _ gb420 l0 x421001_3 x421002_3 from by repeat (first | (with_reducible first | exact HI420.out | apply IsS64.alloc | apply IsS64.drewN | apply IsS64.drew | apply IsS64.set_1 | apply IsS64.set_2) | exact HI420.out)) (upR HO_6.out) (by decide)) hk (fun _ h => h.2)) (fun _ h => h.1)); replace HB := Aside0.mk (hb); replace HI420 := Aside0.mk (hi); (try clear hb); (try clear hk); (try clear hi); have p438 : 0 ≤ (t435 : Int) := of_decide_eq_true asmB; have q438 : t435 < (t421.length : Int) := of_decide_eq_true asmB; obtain ⟨ad438, e438, hx438_0, hx438_1, hx438_2, hx438_3, hx438_4⟩ := at_T25 (Kd.R_reads' HO_6.out).2.2 t435 p438 q438; cases e438; replace p438 := eq_true p438; replace q438 := eq_true q438) | ((with_reducible refine gate_dst (N := 35) rfl ?_); refine Kd.R_lit (Kd.int .i64) _ 3 ?hg (N := 35) ?hd (xs := ([0, 1, 1, 2, 3, (-1), 4] : List Int)) (inner := [.int .i64 0, .int .i64 1, .int .i64 1, .int .i64 2, .int .i64 3, .int .i64 (-1), .int .i64 4]) (ok := fun _ => True) (okp := fun _ => True) ?hr ?hp (fun _ hk => hk) trivial (Below.refl _ _) (Nat.le_refl _) (by simp) ?_; (case hd => rfl); (case hg => rfl); (case hr => first | (go_simp; done) | (go_simp; rfl)); (case hp => exact (Reps.one (show Kd.M (Kd.int .i64) _ _ _ 0 [.int .i64 0] from rfl) (Reps.one (show Kd.M (Kd.int .i64) _ _ _ 1 [.int .i64 1] from rfl) (Reps.one (show Kd.M (Kd.int .i64) _ _ _ 1 [.int .i64 1] from rfl) (Reps.one (show Kd.M (Kd.int .i64) _ _ _ 2 [.int .i64 2] from rfl) (Reps.one (show Kd.M (Kd.int .i64) _ _ _ 3 [.int .i64 3] from rfl) (Reps.one (show Kd.M (Kd.int .i64) _ _ _ (-1) [.int .i64 (-1)] from rfl) (Reps.one (show Kd.M (Kd.int .i64) _ _ _ 4 [.int .i64 4] from rfl) (Reps.none _ _))))))))); intro v440 w27 ho28 hb hg_ hnew_; clear hg_ hnew_; (first | rw [← Ny439.out] at ho28 | (simp only [Int.reduceToNat] at ho28; rw [← Ny439.out] at ho28)); have HO441 := Aside0.mk (Kd.R_lower ho28 (below_size (by repeat (first | (with_reducible first | exact HB.out | apply below_alloc | apply pw_below_drewN | apply below_drew1 | refine below_set ?_ (IsS64.ge HI420.out)) | exact HB.out)))); replace HO_6 := uR HO_6 hb; replace HB := Aside0.mk (below_step (by repeat (first | (with_reducible first | exact HB.out | apply below_alloc | apply pw_below_drewN | apply below_drew1 | refine below_set ?_ (IsS64.ge HI420.out)) | exact HB.out)) hb); replace HI420 := Aside0.mk (IsS64.below (by repeat (first | (with_reducible first | exact HI420.out | apply IsS64.alloc | apply IsS64.drewN | apply IsS64.drew | apply IsS64.set_1 | apply IsS64.set_2) | exact HI420.out)) hb); clear hb ho28) | ((with_reducible refine gate_callee (f := 63) rfl ?_); refine goesL_ (some 37) rfl rfl Try.func63 (by kernel_rfl) rfl #[.pointer (some ⟨gb420, 0, none⟩), .int .i64 24] rfl argsB ?_; (with_reducible refine (spec_l1Cur_pick.calls gb420 l0 t436 t437 24 t442 t443 t444 w _ ?side1 ?side2 A20.out).mono ?_); (case side1 => repeat (first | (with_reducible first | exact HI420.out | apply IsS64.alloc | apply IsS64.drewN | apply IsS64.drew | apply IsS64.set_1 | apply IsS64.set_2) | exact HI420.out)); (case side2 => repeat (first | (with_reducible first | exact HB.out | apply below_alloc | apply pw_below_drewN | apply below_drew1 | refine below_set ?_ (IsS64.ge HI420.out)) | exact HB.out)); rintro e w29 ⟨rfl, hi, hb, hk⟩; refine ⟨_, rfl, ?_⟩; replace HO_6 := Aside0.mk (Kd.R_mono (Kd.R_keep (IsS64.apart (show IsS64 w _ gb420 l0 t436 t437 from by repeat (first | (with_reducible first | exact HI420.out | apply IsS64.alloc | apply IsS64.drewN | apply IsS64.drew | apply IsS64.set_1 | apply IsS64.set_2) | exact HI420.out)) (upR HO_6.out) (by decide)) hk (fun _ h => h.2)) (fun _ h => h.1)); replace HO441 := Aside0.mk (Kd.R_mono (Kd.R_keep (IsS64.apart (show IsS64 w _ gb420 l0 t436 t437 from by repeat (first | (with_reducible first | exact HI420.out | apply IsS64.alloc | apply IsS64.drewN | apply IsS64.drew | apply IsS64.set_1 | apply IsS64.set_2) | exact HI420.out)) (upR HO441.out) (by decide)) hk (fun _ h => h.2)) (fun _ h => h.1)); replace HB := Aside0.mk (hb); replace HI420 := Aside0.mk (hi); (try clear hb); (try clear hk); (try clear hi); obtain ⟨Ao31, co31, eo31⟩ := Kd.R_slice HO441.out; subst eo31; have q30 : ((ji21) : Int) ≤ ((y439.length : Int) : Int) := of_decide_eq_true asmB; obtain ⟨i030, hi030, _, hsz30, _⟩ := info_parts info3; have hroom30 : y439.length ≤ co31 := (Kd.R_reads' HO441.out).2.1; have hC30 : Kd.C (Kd.int .i64) _ Ao31 y439.length y439 := (Kd.R_reads' HO441.out).2.2; have hcut30 := cut_to (P := Try.prog) 35 3 .i64 Try.underlying35 hi030 Ao31 y439.length co31 (ji21) (of_decide_eq_true asmB) q30 hroom30; have hr30 := Kd.C_take (m := ((ji21) : Int).toNat) hC30 (by omega); have hy30 : y445.length = ((ji21) : Int).toNat := (by rw [Ny445.out, List.length_take]; omega); rw [← Ny445.out] at hr30; rw [← hy30] at hcut30; have HR448 := Aside0.mk hr30; have HC448 := Aside0.mk (show y445.length ≤ co31 from by omega); clear hr30 hC30 hroom30 hi030 hsz30; have KY30 := Aside0.mk hy30; clear hy30; have KL30 := Aside0.mk (show ((ji21) : Int).toNat ≤ y439.length from by omega); replace q30 := eq_true q30) | ((with_reducible refine gate_callee (f := 62) rfl ?_); refine goesL_ (some 41) rfl rfl Try.func62 (by kernel_rfl) rfl #[.pointer (some ⟨gb420, 0, none⟩), .slice Ao31 y445.length co31] rfl argsB ?_; (with_reducible refine (spec_l1Cur_among.calls gb420 l0 t443 t444 _ _ y445 t449 t450 t451 w _ ?side1 ?side2 ?side3 ?side4 ?side5 A24.out).mono ?_); (case side1 => repeat (first | (with_reducible first | exact HI420.out | apply IsS64.alloc | apply IsS64.drewN | apply IsS64.drew | apply IsS64.set_1 | apply IsS64.set_2) | exact HI420.out)); (case side2 => repeat (first | (with_reducible first | exact HB.out | apply below_alloc | apply pw_below_drewN | apply below_drew1 | refine below_set ?_ (IsS64.ge HI420.out)) | exact HB.out)); (case side3 => repeat (first | exact (by repeat (first | (with_reducible exact HR448.out) | (with_reducible refine Kd.C_alloc ?_ _) | (with_reducible refine Kd.C_drewN ?_ _) | (with_reducible refine Kd.C_drew ?_) | exact HR448.out)) | (with_reducible refine Kd.C_alloc ?_ _) | (with_reducible refine Kd.C_drewN ?_ _) | (with_reducible refine Kd.C_drew ?_))); (case side4 => exact HC448.out); (case side5 => exact (by rintro ad rfl _ rfl; exact IsS64.own_ne HI420.out HO441.out (by decide) (by simp [Value.ownBlock]))); rintro e w32 ⟨rfl, hi, hb, hk⟩; refine ⟨_, rfl, ?_⟩; replace HO_6 := Aside0.mk (Kd.R_mono (Kd.R_keep (IsS64.apart (show IsS64 w _ gb420 l0 t443 t444 from by repeat (first | (with_reducible first | exact HI420.out | apply IsS64.alloc | apply IsS64.drewN | apply IsS64.drew | apply IsS64.set_1 | apply IsS64.set_2) | exact HI420.out)) (upR HO_6.out) (by decide)) hk (fun _ h => h.2)) (fun _ h => h.1)); replace HO441 := Aside0.mk (Kd.R_mono (Kd.R_keep (IsS64.apart (show IsS64 w _ gb420 l0 t443 t444 from by repeat (first | (with_reducible first | exact HI420.out | apply IsS64.alloc | apply IsS64.drewN | apply IsS64.drew | apply IsS64.set_1 | apply IsS64.set_2) | exact HI420.out)) (upR HO441.out) (by decide)) hk (fun _ h => h.2)) (fun _ h => h.1)); replace HB := Aside0.mk (hb); replace HI420 := Aside0.mk (hi); (try clear hb); (try clear hk); (try clear hi)))
        go_ret3
        exact ⟨_, by first | rfl | (simp [errW_none, errW_some] <;> rfl) | (simp only [← hji21]; first | rfl | (simp [errW_none, errW_some] <;> rfl)) | (simp [*, errW_none, errW_some] <;> rfl), upR HO_6.out, by repeat (first | (with_reducible first | exact HB.out | apply below_alloc | apply pw_below_drewN | apply below_drew1 | refine below_set ?_ (IsS64.ge HI420.out)) | exact HB.out)⟩
       ·rw [if_neg c23] at H
        exact absurd H (by simp)
      ·rw [if_neg c22] at H
       exact absurd H (by simp)
     ·rw [if_neg c19] at H
      exact absurd H (by simp)
    ·rw [if_neg c18] at H
     exact absurd H (by simp)
   ·replace H := iF (by decide) H
    obtain ⟨y452, hy452⟩ : ∃ y_ : List Int, y_ = (([0, 1, 1, 2, 3, (-1), 4] : List Int)) := ⟨_, rfl⟩
    replace H : ((spec_l1Cur_pick.f l0 x421001_3 x421002_3 24).bind fun bt455 => (if 0 ≤ (wrap64 (5 + (wrap64 (Int.tdiv bt455.1 11)))) then (if (wrap64 (5 + (wrap64 (Int.tdiv bt455.1 11)))) ≤ (y452.length : Int) then ((spec_l1Cur_among.f l0 bt455.2.1 bt455.2.2 (y452.take ((wrap64 (5 + (wrap64 (Int.tdiv bt455.1 11)))) : Int).toNat)).bind fun bt462 => (some (t421, t429, bt462.1))) else (none)) else (none))) = some (r1, r2, r3) := by first | (rw [hy452]; with_reducible exact H) | (have H2_ := (Option.bind_some _ _).symm.trans H; rw [hy452]; with_reducible exact H2_) | (have H2_ := (Option.bind_some _ _).symm.trans H; with_reducible exact H2_) | with_reducible exact H | (rw [hy452]; exact H) | exact H
    have Ny452 := Aside0.mk hy452
    clear hy452
    replace H := Option.bind_eq_some_iff.mp H
    obtain ⟨⟨t455, t456, t457⟩, A330, H⟩ := H
    replace H : (if 0 ≤ (wrap64 (5 + (wrap64 (Int.tdiv t455 11)))) then (if (wrap64 (5 + (wrap64 (Int.tdiv t455 11)))) ≤ (y452.length : Int) then ((spec_l1Cur_among.f l0 t456 t457 (y452.take ((wrap64 (5 + (wrap64 (Int.tdiv t455 11)))) : Int).toNat)).bind fun bt462 => (some (t421, t429, bt462.1))) else (none)) else (none)) = some (r1, r2, r3) := H
    have A33 := Aside0.mk A330
    clear A330
    obtain ⟨ji34, hji34⟩ : ∃ j_ : Int, (wrap64 (5 + (wrap64 (Int.tdiv t455 11)))) = j_ := ⟨_, rfl⟩
    replace H : (if 0 ≤ (ji34) then (if (ji34) ≤ (y452.length : Int) then ((spec_l1Cur_among.f l0 t456 t457 (y452.take ((ji34) : Int).toNat)).bind fun bt462 => (some (t421, t429, bt462.1))) else (none)) else (none)) = some (r1, r2, r3) := by first | (rw [hji34] at H; exact H) | (simp only [hji34] at H ⊢; exact H)
    (try rw [hji34] at A33)
    have hji34w : (IntKind.i64.wrap (5 + (wrap64 (Int.tdiv t455 11)))) = ji34 := (i64_w _).trans hji34
    by_cases c35 : 0 ≤ (ji34)
    ·rw [if_pos c35] at H
     have c35b0 := eq_true c35
     have c35b1 : decide (0 ≤ (ji34)) = true := decide_eq_true c35
     clear c35
     by_cases c36 : (ji34) ≤ (y452.length : Int)
     ·rw [if_pos c36] at H
      have c36b0 := eq_true c36
      have c36b1 : decide ((ji34) ≤ (y452.length : Int)) = true := decide_eq_true c36
      clear c36
      obtain ⟨y458, hy458⟩ : ∃ y_ : List Int, y_ = (y452.take ((ji34) : Int).toNat) := ⟨_, rfl⟩
      replace H : ((spec_l1Cur_among.f l0 t456 t457 y458).bind fun bt462 => (some (t421, t429, bt462.1))) = some (r1, r2, r3) := by first | (rw [hy458]; with_reducible exact H) | (have H2_ := (Option.bind_some _ _).symm.trans H; rw [hy458]; with_reducible exact H2_) | (have H2_ := (Option.bind_some _ _).symm.trans H; with_reducible exact H2_) | with_reducible exact H | (rw [hy458]; exact H) | exact H
      have Ny458 := Aside0.mk hy458
      clear hy458
      replace H := Option.bind_eq_some_iff.mp H
      obtain ⟨⟨t462, t463, t464⟩, A370, H⟩ := H
      replace H : (some (t421, t429, t462)) = some (r1, r2, r3) := H
      have A37 := Aside0.mk A370
      clear A370
      simp only [Option.some.injEq, Prod.mk.injEq] at H
      obtain ⟨rfl, rfl, rfl⟩ := H
      go_wp2_with (first | ((with_reducible refine gate_dst (N := 35) rfl ?_); refine Kd.R_lit (Kd.int .i64) _ 3 ?hg (N := 35) ?hd (xs := ([0, 1, 1, 2, 3, (-1), 4] : List Int)) (inner := [.int .i64 0, .int .i64 1, .int .i64 1, .int .i64 2, .int .i64 3, .int .i64 (-1), .int .i64 4]) (ok := fun _ => True) (okp := fun _ => True) ?hr ?hp (fun _ hk => hk) trivial (Below.refl _ _) (Nat.le_refl _) (by simp) ?_; (case hd => rfl); (case hg => rfl); (case hr => first | (go_simp; done) | (go_simp; rfl)); (case hp => exact (Reps.one (show Kd.M (Kd.int .i64) _ _ _ 0 [.int .i64 0] from rfl) (Reps.one (show Kd.M (Kd.int .i64) _ _ _ 1 [.int .i64 1] from rfl) (Reps.one (show Kd.M (Kd.int .i64) _ _ _ 1 [.int .i64 1] from rfl) (Reps.one (show Kd.M (Kd.int .i64) _ _ _ 2 [.int .i64 2] from rfl) (Reps.one (show Kd.M (Kd.int .i64) _ _ _ 3 [.int .i64 3] from rfl) (Reps.one (show Kd.M (Kd.int .i64) _ _ _ (-1) [.int .i64 (-1)] from rfl) (Reps.one (show Kd.M (Kd.int .i64) _ _ _ 4 [.int .i64 4] from rfl) (Reps.none _ _))))))))); intro v453 w38 ho39 hb hg_ hnew_; clear hg_ hnew_; (first | rw [← Ny452.out] at ho39 | (simp only [Int.reduceToNat] at ho39; rw [← Ny452.out] at ho39)); have HO454 := Aside0.mk (Kd.R_lower ho39 (below_size (by repeat (first | (with_reducible first | exact HB.out | apply below_alloc | apply pw_below_drewN | apply below_drew1 | refine below_set ?_ (IsS64.ge HI420.out)) | exact HB.out)))); replace HO_6 := uR HO_6 hb; replace HB := Aside0.mk (below_step (by repeat (first | (with_reducible first | exact HB.out | apply below_alloc | apply pw_below_drewN | apply below_drew1 | refine below_set ?_ (IsS64.ge HI420.out)) | exact HB.out)) hb); replace HI420 := Aside0.mk (IsS64.below (by repeat (first | (with_reducible first | exact HI420.out | apply IsS64.alloc | apply IsS64.drewN | apply IsS64.drew | apply IsS64.set_1 | apply IsS64.set_2) | exact HI420.out)) hb); clear hb ho39) | ((with_reducible refine gate_callee (f := 63) rfl ?_); refine goesL_ (some 37) rfl rfl Try.func63 (by kernel_rfl) rfl #[.pointer (some ⟨gb420, 0, none⟩), .int .i64 24] rfl argsB ?_; (with_reducible refine (spec_l1Cur_pick.calls gb420 l0 x421001_3 x421002_3 24 t455 t456 t457 w _ ?side1 ?side2 A33.out).mono ?_); (case side1 => repeat (first | (with_reducible first | exact HI420.out | apply IsS64.alloc | apply IsS64.drewN | apply IsS64.drew | apply IsS64.set_1 | apply IsS64.set_2) | exact HI420.out)); (case side2 => repeat (first | (with_reducible first | exact HB.out | apply below_alloc | apply pw_below_drewN | apply below_drew1 | refine below_set ?_ (IsS64.ge HI420.out)) | exact HB.out)); rintro e w40 ⟨rfl, hi, hb, hk⟩; refine ⟨_, rfl, ?_⟩; replace HO_6 := Aside0.mk (Kd.R_mono (Kd.R_keep (IsS64.apart (show IsS64 w _ gb420 l0 x421001_3 x421002_3 from by repeat (first | (with_reducible first | exact HI420.out | apply IsS64.alloc | apply IsS64.drewN | apply IsS64.drew | apply IsS64.set_1 | apply IsS64.set_2) | exact HI420.out)) (upR HO_6.out) (by decide)) hk (fun _ h => h.2)) (fun _ h => h.1)); replace HO454 := Aside0.mk (Kd.R_mono (Kd.R_keep (IsS64.apart (show IsS64 w _ gb420 l0 x421001_3 x421002_3 from by repeat (first | (with_reducible first | exact HI420.out | apply IsS64.alloc | apply IsS64.drewN | apply IsS64.drew | apply IsS64.set_1 | apply IsS64.set_2) | exact HI420.out)) (upR HO454.out) (by decide)) hk (fun _ h => h.2)) (fun _ h => h.1)); replace HB := Aside0.mk (hb); replace HI420 := Aside0.mk (hi); (try clear hb); (try clear hk); (try clear hi); obtain ⟨Ao42, co42, eo42⟩ := Kd.R_slice HO454.out; subst eo42; have q41 : ((ji34) : Int) ≤ ((y452.length : Int) : Int) := of_decide_eq_true asmB; obtain ⟨i041, hi041, _, hsz41, _⟩ := info_parts info3; have hroom41 : y452.length ≤ co42 := (Kd.R_reads' HO454.out).2.1; have hC41 : Kd.C (Kd.int .i64) _ Ao42 y452.length y452 := (Kd.R_reads' HO454.out).2.2; have hcut41 := cut_to (P := Try.prog) 35 3 .i64 Try.underlying35 hi041 Ao42 y452.length co42 (ji34) (of_decide_eq_true asmB) q41 hroom41; have hr41 := Kd.C_take (m := ((ji34) : Int).toNat) hC41 (by omega); have hy41 : y458.length = ((ji34) : Int).toNat := (by rw [Ny458.out, List.length_take]; omega); rw [← Ny458.out] at hr41; rw [← hy41] at hcut41; have HR461 := Aside0.mk hr41; have HC461 := Aside0.mk (show y458.length ≤ co42 from by omega); clear hr41 hC41 hroom41 hi041 hsz41; have KY41 := Aside0.mk hy41; clear hy41; have KL41 := Aside0.mk (show ((ji34) : Int).toNat ≤ y452.length from by omega); replace q41 := eq_true q41) | ((with_reducible refine gate_callee (f := 62) rfl ?_); refine goesL_ (some 41) rfl rfl Try.func62 (by kernel_rfl) rfl #[.pointer (some ⟨gb420, 0, none⟩), .slice Ao42 y458.length co42] rfl argsB ?_; (with_reducible refine (spec_l1Cur_among.calls gb420 l0 t456 t457 _ _ y458 t462 t463 t464 w _ ?side1 ?side2 ?side3 ?side4 ?side5 A37.out).mono ?_); (case side1 => repeat (first | (with_reducible first | exact HI420.out | apply IsS64.alloc | apply IsS64.drewN | apply IsS64.drew | apply IsS64.set_1 | apply IsS64.set_2) | exact HI420.out)); (case side2 => repeat (first | (with_reducible first | exact HB.out | apply below_alloc | apply pw_below_drewN | apply below_drew1 | refine below_set ?_ (IsS64.ge HI420.out)) | exact HB.out)); (case side3 => repeat (first | exact (by repeat (first | (with_reducible exact HR461.out) | (with_reducible refine Kd.C_alloc ?_ _) | (with_reducible refine Kd.C_drewN ?_ _) | (with_reducible refine Kd.C_drew ?_) | exact HR461.out)) | (with_reducible refine Kd.C_alloc ?_ _) | (with_reducible refine Kd.C_drewN ?_ _) | (with_reducible refine Kd.C_drew ?_))); (case side4 => exact HC461.out); (case side5 => exact (by rintro ad rfl _ rfl; exact IsS64.own_ne HI420.out HO454.out (by decide) (by simp [Value.ownBlock]))); rintro e w43 ⟨rfl, hi, hb, hk⟩; refine ⟨_, rfl, ?_⟩; replace HO_6 := Aside0.mk (Kd.R_mono (Kd.R_keep (IsS64.apart (show IsS64 w _ gb420 l0 t456 t457 from by repeat (first | (with_reducible first | exact HI420.out | apply IsS64.alloc | apply IsS64.drewN | apply IsS64.drew | apply IsS64.set_1 | apply IsS64.set_2) | exact HI420.out)) (upR HO_6.out) (by decide)) hk (fun _ h => h.2)) (fun _ h => h.1)); replace HO454 := Aside0.mk (Kd.R_mono (Kd.R_keep (IsS64.apart (show IsS64 w _ gb420 l0 t456 t457 from by repeat (first | (with_reducible first | exact HI420.out | apply IsS64.alloc | apply IsS64.drewN | apply IsS64.drew | apply IsS64.set_1 | apply IsS64.set_2) | exact HI420.out)) (upR HO454.out) (by decide)) hk (fun _ h => h.2)) (fun _ h => h.1)); replace HB := Aside0.mk (hb); replace HI420 := Aside0.mk (hi); (try clear hb); (try clear hk); (try clear hi)))
      go_ret3
      exact ⟨_, by first | rfl | (simp [errW_none, errW_some] <;> rfl) | (simp only [← hji34]; first | rfl | (simp [errW_none, errW_some] <;> rfl)) | (simp [*, errW_none, errW_some] <;> rfl), upR HO_6.out, by repeat (first | (with_reducible first | exact HB.out | apply below_alloc | apply pw_below_drewN | apply below_drew1 | refine below_set ?_ (IsS64.ge HI420.out)) | exact HB.out)⟩
     ·rw [if_neg c36] at H
      exact absurd H (by simp)
    ·rw [if_neg c35] at H
     exact absurd H (by simp)

/-! ### laws_rLeads: function 42 -/
def laws_rLeads.l0 : Nat → List (S25) → List (S25) → Int → Option (Bool)
 | 0, _, _, _ => none
 | k + 1, x0, x1, x5 => if x5 < (x0.length : Int) then (if 0 ≤ x5 then (if x5 < (x1.length : Int) then (if (!(((rd_T25 x0 x5).f0) == ((rd_T25 x1 x5).f0)) || (!(((rd_T25 x0 x5).f1) == ((rd_T25 x1 x5).f1)) || (!(((rd_T25 x0 x5).f2) == ((rd_T25 x1 x5).f2)) || (!(((rd_T25 x0 x5).f3) == ((rd_T25 x1 x5).f3)) || (!(((rd_T25 x0 x5).f4) == ((rd_T25 x1 x5).f4))))))) = true then (some false) else (laws_rLeads.l0 k x0 x1 (wrap64 (x5 + 1)))) else (none)) else (none)) else (some true)
def laws_rLeads.f (k : Nat) (l0 : List (S25)) (l1 : List (S25)) : Option (Bool) := if (l0.length : Int) = (l1.length : Int) then (laws_rLeads.l0 k l0 l1 0) else (some false)
theorem laws_rLeads.mono_l : ∀ k, (∀ y0 y1 y2, LeO (laws_rLeads.l0 k y0 y1 y2) (laws_rLeads.l0 (k + 1) y0 y1 y2))
 | 0 => fun _ _ _ r h => by simp [laws_rLeads.l0] at h
 | k + 1 => by
  have ih0 := laws_rLeads.mono_l k
  ·intro y0 y1 y2
   unfold laws_rLeads.l0
   repeat' with_reducible first | apply ih0 | exact LeO.refl _ | exact LeO.none _ | refine LeO.ite ?_ ?_ | refine LeO.bind ?_ (fun _ => ?_)
theorem laws_rLeads.mono : ∀ a0 a1 k, LeO (laws_rLeads.f k a0 a1) (laws_rLeads.f (k + 1) a0 a1) := by
 intro a0 a1 k
 have ih0 := laws_rLeads.mono_l k
 unfold laws_rLeads.f
 repeat' with_reducible first | apply ih0 | exact LeO.refl _ | exact LeO.none _ | refine LeO.ite ?_ ?_ | refine LeO.bind ?_ (fun _ => ?_)
set_option maxHeartbeats 8000000 in
set_option maxRecDepth 100000 in
theorem laws_rLeads.calls (k : Nat) (A0 : Option Addr) (c0 : Nat) (l0 : List (S25)) (A1 : Option Addr) (c1 : Nat) (l1 : List (S25)) (r : Bool) (w : World) (hr0 : Kd.C k25 w A0 l0.length l0) (hc0 : l0.length ≤ c0) (hr1 : Kd.C k25 w A1 l1.length l1) (hc1 : l1.length ≤ c1) (h : laws_rLeads.f k l0 l1 = some r) :
  Calls Try.prog 42 #[.slice A0 l0.length c0, .slice A1 l1.length c1] w fun e w' => e = .returned (.bool r) ∧ Drawn0 w w' := by
 have hu25 := Try.underlying25
 have HR0 := Aside0.mk hr0
 have HC0 := Aside0.mk hc0
 clear hr0 hc0
 have HR1 := Aside0.mk hr1
 have HC1 := Aside0.mk hc1
 clear hr1 hc1
 have H := h
 clear h
 unfold laws_rLeads.f at H
 replace H := ifI H
 rcases H with ⟨H, c3, c3b0, c3b1⟩ | ⟨H, c3, c3b0, c3b1⟩
 ·have c3b2 : (l0.length == l1.length) = true := by first | simpa using c3 | (simp at c3 ⊢; omega)
  clear c3
  have H' := Aside0.mk H
  clear H
  go_enter Try.func42, Try.ntmps42
  go_wp2
  repeat (go_quiet (fail); try go_wp2)
  go_loopg [5] k (fun kq v5 w' => ∃ (x5_1 : Int), v5 = .int .i64 x5_1 ∧ Aside0 (laws_rLeads.l0 kq l0 l1 x5_1 = some r) ∧ Aside0 (kq ≤ k) ∧ Drawn0 w w')
  case atStart => exact ⟨(0), rB, H', ⟨Nat.le_refl _⟩, by repeat (first | exact Drawn0.refl _ | apply Drawn0.step)⟩
  case round =>
   clear H'
   try clear c1
   try clear c3
   try clear c3b0
   try clear c3b1
   try clear c3b2
   obtain ⟨x5_1, rfl, HA, HK1, ⟨m1, rfl⟩⟩ := hrel
   cases gk with
   | zero => exact absurd HA.out (by simp [laws_rLeads.l0])
   | succ k1 =>
    have H := HA.out
    clear HA
    simp only [laws_rLeads.l0] at H
    replace H := ifD H
    rcases H with ⟨H, -, c4b0⟩ | ⟨H, -, c4b0⟩
    ·by_cases c5 : 0 ≤ x5_1
     ·rw [if_pos c5] at H
      have c5b0 : decide (0 ≤ x5_1) = true := decide_eq_true c5
      clear c5
      by_cases c6 : x5_1 < (l1.length : Int)
      ·rw [if_pos c6] at H
       have c6b0 : decide (x5_1 < (l1.length : Int)) = true := decide_eq_true c6
       clear c6
       by_cases c7 : (!(((rd_T25 l0 x5_1).f0) == ((rd_T25 l1 x5_1).f0)) || (!(((rd_T25 l0 x5_1).f1) == ((rd_T25 l1 x5_1).f1)) || (!(((rd_T25 l0 x5_1).f2) == ((rd_T25 l1 x5_1).f2)) || (!(((rd_T25 l0 x5_1).f3) == ((rd_T25 l1 x5_1).f3)) || (!(((rd_T25 l0 x5_1).f4) == ((rd_T25 l1 x5_1).f4))))))) = true
       ·rw [if_pos c7] at H
        have c7b0 : (!(((rd_T25 l0 x5_1).f0) == ((rd_T25 l1 x5_1).f0)) || (!(((rd_T25 l0 x5_1).f1) == ((rd_T25 l1 x5_1).f1)) || (!(((rd_T25 l0 x5_1).f2) == ((rd_T25 l1 x5_1).f2)) || (!(((rd_T25 l0 x5_1).f3) == ((rd_T25 l1 x5_1).f3)) || (!(((rd_T25 l0 x5_1).f4) == ((rd_T25 l1 x5_1).f4))))))) = true := c7
        clear c7
        obtain rfl := Option.some.inj H
        have p465 : 0 ≤ (x5_1 : Int) := of_decide_eq_true asmB
        have q465 : x5_1 < (l0.length : Int) := of_decide_eq_true asmB
        obtain ⟨ad465, e465, hx465_0, hx465_1, hx465_2, hx465_3, hx465_4⟩ := at_T25 HR0.out x5_1 p465 q465
        cases e465
        replace p465 := eq_true p465
        replace q465 := eq_true q465
        have p466 : 0 ≤ (x5_1 : Int) := of_decide_eq_true asmB
        have q466 : x5_1 < (l1.length : Int) := of_decide_eq_true asmB
        obtain ⟨ad466, e466, hx466_0, hx466_1, hx466_2, hx466_3, hx466_4⟩ := at_T25 HR1.out x5_1 p466 q466
        cases e466
        replace p466 := eq_true p466
        replace q466 := eq_true q466
        go_wp2
        repeat (go_quiet (fail); try go_wp2)
        go_ret
        exact ⟨rB, by repeat (first | exact Drawn0.refl _ | apply Drawn0.step)⟩
       ·rw [if_neg c7] at H
        have c7b0 : (!(((rd_T25 l0 x5_1).f0) == ((rd_T25 l1 x5_1).f0)) || (!(((rd_T25 l0 x5_1).f1) == ((rd_T25 l1 x5_1).f1)) || (!(((rd_T25 l0 x5_1).f2) == ((rd_T25 l1 x5_1).f2)) || (!(((rd_T25 l0 x5_1).f3) == ((rd_T25 l1 x5_1).f3)) || (!(((rd_T25 l0 x5_1).f4) == ((rd_T25 l1 x5_1).f4))))))) = false := by simpa using c7
        clear c7
        have H' := Aside0.mk H
        clear H
        have p465 : 0 ≤ (x5_1 : Int) := of_decide_eq_true asmB
        have q465 : x5_1 < (l0.length : Int) := of_decide_eq_true asmB
        obtain ⟨ad465, e465, hx465_0, hx465_1, hx465_2, hx465_3, hx465_4⟩ := at_T25 HR0.out x5_1 p465 q465
        cases e465
        replace p465 := eq_true p465
        replace q465 := eq_true q465
        have p466 : 0 ≤ (x5_1 : Int) := of_decide_eq_true asmB
        have q466 : x5_1 < (l1.length : Int) := of_decide_eq_true asmB
        obtain ⟨ad466, e466, hx466_0, hx466_1, hx466_2, hx466_3, hx466_4⟩ := at_T25 HR1.out x5_1 p466 q466
        cases e466
        replace p466 := eq_true p466
        replace q466 := eq_true q466
        go_wp2
        repeat (go_quiet (fail); try go_wp2)
        go_roundg k1
        case measure => have := HK1.out; omega
        case rel => exact ⟨(wrap64 (x5_1 + 1)), rB, H', ⟨by have := HK1.out; omega⟩, by repeat (first | exact Drawn0.refl _ | apply Drawn0.step)⟩
      ·rw [if_neg c6] at H
       exact absurd H (by simp)
     ·rw [if_neg c5] at H
      exact absurd H (by simp)
    ·obtain rfl := Option.some.inj H
     go_wp2
     repeat (go_quiet (fail); try go_wp2)
     go_ret
     exact ⟨rB, by repeat (first | exact Drawn0.refl _ | apply Drawn0.step)⟩
 ·have c3b2 : (l0.length == l1.length) = false := by first | simpa using c3 | (simp at c3 ⊢; omega)
  obtain rfl := Option.some.inj H
  go_enter Try.func42, Try.ntmps42
  go_wp2
  repeat (go_quiet (fail); try go_wp2)
  go_ret
  exact ⟨rB, by repeat (first | exact Drawn0.refl _ | apply Drawn0.step)⟩

end Go.Proofs.Ytldgjibimolcdaa.QFnLeadTrips
