/- Contracts of Go functions that FnRenamings reaches: the call computes what the plain function says. No condition. -/
import Derived.Test.YtfaojmabalplfaaQFnRenamingsx0
import Derived.Test.YtfaojmabalplfaaQFnRenamingsx2
import Derived.Test.YtfaojmabalplfaaQFnRenamingsx10
import Derived.Test.YtfaojmabalplfaaQFnRenamingsx15
namespace Go.Proofs.Ytfaojmabalplfaa.QFnRenamings
open Go.RowKit Go.Proofs.YtfaojmabalplfaaW.PrintWords Go.Proofs.YtfaojmabalplfaaW.PrintLast Go.Proofs.YtfaojmabalplfaaW.PrintMore
attribute [local go_sem] max2_int min2_int max_two min_two max_three min_three max_four min_four   -- for this text's walks alone
set_option linter.unusedVariables false
set_option linter.unusedSimpArgs false

/-! ### spec_DrawImproveRenaming: function 49 -/
def spec_DrawImproveRenaming.j0 : Nat → List (S70) → List (S70) → List Int → Bool → List Int → Int → Int → Option ((List (S70)) × (List (S70)) × List Int)
 | 0, _, _, _, _, _, _, _ => none
 | k + 1, x6, x7, x8, x26, x659000, x659001, x659002 => if x26 = true then ((spec_l1Cur_pick.f x659000 x659001 x659002 8).bind fun bt672 => ((spec_l1Cur_pick.f x659000 bt672.2.1 bt672.2.2 8).bind fun bt675 => (if 0 ≤ bt672.1 then (if bt672.1 < (x8.length : Int) then (if 0 ≤ bt675.1 then (if bt675.1 < (x8.length : Int) then (some (x6, x7, ((x8.set (bt672.1 : Int).toNat (rd x8 bt675.1)).set (bt675.1 : Int).toNat (rd x8 bt672.1)))) else (none)) else (none)) else (none)) else (none)))) else (some (x6, x7, x8))
def spec_DrawImproveRenaming.f (k : Nat) (l0 : List Int) : Option ((List (S70)) × (List (S70)) × List Int) := (spec_DrawMatchScore.f k l0).bind fun bt659 => ((spec_l20Good.f k bt659.2.2).bind fun t668 => (if t668 = true then ((spec_l1Cur_one.f l0 0 0 2).bind fun bt669 => (spec_DrawImproveRenaming.j0 k bt659.1 bt659.2.1 bt659.2.2 bt669.1 l0 bt669.2.1 bt669.2.2)) else (spec_DrawImproveRenaming.j0 k bt659.1 bt659.2.1 bt659.2.2 false l0 0 0)))
theorem spec_DrawImproveRenaming.mono_l : ∀ k, (∀ y0 y1 y2 y3 y4 y5 y6, LeO (spec_DrawImproveRenaming.j0 k y0 y1 y2 y3 y4 y5 y6) (spec_DrawImproveRenaming.j0 (k + 1) y0 y1 y2 y3 y4 y5 y6))
 | 0 => fun _ _ _ _ _ _ _ r h => by simp [spec_DrawImproveRenaming.j0] at h
 | k + 1 => by
  have ih0 := spec_DrawImproveRenaming.mono_l k
  ·intro y0 y1 y2 y3 y4 y5 y6
   unfold spec_DrawImproveRenaming.j0
   repeat' with_reducible first | apply ih0 | apply spec_DrawMatchScore.mono | apply spec_l20Good.mono | exact LeO.refl _ | exact LeO.none _ | refine LeO.ite ?_ ?_ | refine LeO.bind ?_ (fun _ => ?_)
theorem spec_DrawImproveRenaming.mono : ∀ a0 k, LeO (spec_DrawImproveRenaming.f k a0) (spec_DrawImproveRenaming.f (k + 1) a0) := by
 intro a0 k
 have ih0 := spec_DrawImproveRenaming.mono_l k
 unfold spec_DrawImproveRenaming.f
 repeat' with_reducible first | apply ih0 | apply spec_DrawMatchScore.mono | apply spec_l20Good.mono | exact LeO.refl _ | exact LeO.none _ | refine LeO.ite ?_ ?_ | refine LeO.bind ?_ (fun _ => ?_)
set_option maxHeartbeats 8000000 in
set_option maxRecDepth 100000 in
theorem spec_DrawImproveRenaming.calls (k : Nat) (A0 : Option Addr) (c0 : Nat) (l0 : List Int) (r1 : List (S70)) (r2 : List (S70)) (r3 : List Int) (w : World) (hr0 : Kd.C (Kd.int .u8) w A0 l0.length l0) (hc0 : l0.length ≤ c0) (h : spec_DrawImproveRenaming.f k l0 = some (r1, r2, r3)) :
  Calls Try.prog 49 #[.slice A0 l0.length c0] w fun e w' => ∃ v0_ v1_ v2_ : Value, e = .returned (.tuple #[v0_, v1_, v2_]) ∧ Kd.R k70 70 w' w.heap.size (fun k_ => some k_ ≠ (v1_ : Value).ownBlock) v0_ r1 ∧ Kd.R k70 70 w' w.heap.size (fun k_ => some k_ ≠ (v0_ : Value).ownBlock) v1_ r2 ∧ Kd.R (Kd.int .i64) 3 w' w.heap.size (fun _ => True) v2_ r3 ∧ Below w.heap.size w w' := by
 have hu90 := Try.underlying90
 have HR0 := Aside0.mk hr0
 have HC0 := Aside0.mk hc0
 clear hr0 hc0
 have HB := Aside0.mk (Below.refl w.heap.size w)
 have H := h
 clear h
 unfold spec_DrawImproveRenaming.f at H
 replace H := Option.bind_eq_some_iff.mp H
 obtain ⟨⟨t659, t660, t661⟩, A20, H⟩ := H
 replace H : ((spec_l20Good.f k t661).bind fun t668 => (if t668 = true then ((spec_l1Cur_one.f l0 0 0 2).bind fun bt669 => (spec_DrawImproveRenaming.j0 k t659 t660 t661 bt669.1 l0 bt669.2.1 bt669.2.2)) else (spec_DrawImproveRenaming.j0 k t659 t660 t661 false l0 0 0))) = some (r1, r2, r3) := H
 have A2 := Aside0.mk A20
 clear A20
 have HC3 := Aside0.mk H
 clear H
 go_enter Try.func49, Try.ntmps49
 go_upto_region 3 with (first | ((with_reducible refine gD 14 ?_); refine bxE 14 90 #[.slice A0 l0.length c0, .int .i64 0, .int .u64 0] fun gb658 w4 hg hbox hb => ?_; have GE658 := gB HB hg; have HI658 := Aside0.mk ((⟨_, _, hbox, (by rw [hg]; exact (below_size (bW HB)) : w.heap.size ≤ gb658), HR0.out⟩ : IsS90 w w4 gb658 l0 0 0)); replace HB := uB HB hb; clear hb hbox hg) | ((with_reducible refine gate_callee (f := 50) rfl ?_); refine goesL_ (some 17) rfl rfl Try.func50 (by kernel_rfl) rfl #[.slice A0 l0.length c0] rfl argsB ?_; (with_reducible refine (spec_DrawMatchScore.calls k _ _ l0 t659 t660 t661 _ ?side1 ?side2 A2.out).mono ?_); (case side1 => repeat (first | exact (Kd.C_below HR0.out HB.out) | (with_reducible refine Kd.C_alloc ?_ _) | (with_reducible refine Kd.C_drewN ?_ _) | (with_reducible refine Kd.C_drew ?_))); (case side2 => exact HC0.out); rintro e w5 ⟨v662, v664, v666, rfl, ho0, ho1, ho2, hb⟩; refine ⟨_, rfl, ?_⟩; have HO663 := Aside0.mk (Kd.R_lower ho0 (below_size (by repeat (first | (with_reducible first | exact HB.out | apply below_alloc | apply pw_below_drewN | apply below_drew1 | refine below_set ?_ (IsS90.ge HI658.out)) | exact HB.out)))); have HO665 := Aside0.mk (Kd.R_lower ho1 (below_size (by repeat (first | (with_reducible first | exact HB.out | apply below_alloc | apply pw_below_drewN | apply below_drew1 | refine below_set ?_ (IsS90.ge HI658.out)) | exact HB.out)))); have HO667 := Aside0.mk (Kd.R_lower ho2 (below_size (by repeat (first | (with_reducible first | exact HB.out | apply below_alloc | apply pw_below_drewN | apply below_drew1 | refine below_set ?_ (IsS90.ge HI658.out)) | exact HB.out)))); replace HB := Aside0.mk (below_step (by repeat (first | (with_reducible first | exact HB.out | apply below_alloc | apply pw_below_drewN | apply below_drew1 | refine below_set ?_ (IsS90.ge HI658.out)) | exact HB.out)) hb); replace HI658 := Aside0.mk (IsS90.below (keepF_ HI658 <| by repeat (first | (with_reducible first | exact HI658.out | apply IsS90.alloc | apply IsS90.drewN | apply IsS90.drew | apply IsS90.set_1 | apply IsS90.set_2) | exact HI658.out)) hb); (try clear hb); (try clear hk); (try clear hi); (try clear ho0); (try clear ho1); (try clear ho2)))
 (try simp only [Act.put, List.setIfInBounds_toArray, List.set_cons_zero, List.set_cons_succ])
 go_cut [26] (fun v26 wc => ∃ (kq : Nat) (x26_2 : Bool) (x659001_2 x659002_2 : Int), v26 = .bool x26_2 ∧ Aside0 (spec_DrawImproveRenaming.j0 kq t659 t660 t661 x26_2 l0 x659001_2 x659002_2 = some (r1, r2, r3)) ∧ Aside0 (kq ≤ k) ∧ Aside0 (Kd.R k70 70 wc w.heap.size (fun k_ => some k_ ≠ (v664 : Value).ownBlock) v662 t659) ∧ Aside0 (Kd.R k70 70 wc w.heap.size (fun k_ => some k_ ≠ (v662 : Value).ownBlock) v664 t660) ∧ Aside0 (Kd.R (Kd.int .i64) 3 wc w.heap.size (fun _ => True) v666 t661) ∧ Aside0 (IsS90 w wc gb658 l0 x659001_2 x659002_2) ∧ Aside0 (Below w.heap.size w wc))
 case first =>
  have H := HC3.out
  clear HC3
  replace H := bA H
  obtain ⟨t668, A6, H⟩ := H
  rcases Bool.eq_false_or_eq_true t668 with rfl | rfl
  ·replace H := iT rfl H
   replace H := Option.bind_eq_some_iff.mp H
   obtain ⟨⟨t669, t670, t671⟩, A80, H⟩ := H
   replace H : (spec_DrawImproveRenaming.j0 k t659 t660 t661 t669 l0 t670 t671) = some (r1, r2, r3) := H
   have A8 := Aside0.mk A80
   clear A80
   have H' := Aside0.mk H
   clear H
   obtain ⟨Ao9, co9, eo9⟩ := Kd.R_slice HO667.out
   subst eo9
   go_wp2_with (first | ((with_reducible refine gC 56 ?_); refine lA (some 22) Try.func56 (spec_l20Good.calls k _ _ t661 true _ ?side1 ?side2 A6.out) ?_; (case side1 => repeat (first | exact (Kd.R_reads' HO667.out).2.2 | (with_reducible refine Kd.C_alloc ?_ _) | (with_reducible refine Kd.C_drewN ?_ _) | (with_reducible refine Kd.C_drew ?_))); (case side2 => exact (Kd.R_reads' HO667.out).2.1); rintro _ ⟨nd, rfl⟩) | (go_at_call 82; (with_reducible refine (spec_l1Cur_one.calls gb658 l0 0 0 2 t669 t670 t671 w _ ?side1 ?side2 A8.out).mono ?_); (case side1 => repeat (first | (with_reducible first | exact HI658.out | apply IsS90.alloc | apply IsS90.drewN | apply IsS90.drew | apply IsS90.set_1 | apply IsS90.set_2) | exact HI658.out)); (case side2 => repeat (first | (with_reducible first | exact HB.out | apply below_alloc | apply pw_below_drewN | apply below_drew1 | refine below_set ?_ (IsS90.ge HI658.out)) | exact HB.out)); rintro e w10 ⟨rfl, hi, hb, hk⟩; replace HO663 := Aside0.mk (Kd.R_mono (Kd.R_keep (IsS90.apart (show IsS90 w _ gb658 l0 0 0 from by repeat (first | (with_reducible first | exact HI658.out | apply IsS90.alloc | apply IsS90.drewN | apply IsS90.drew | apply IsS90.set_1 | apply IsS90.set_2) | exact HI658.out)) (upR HO663.out) (by decide)) hk (fun _ h => h.2)) (fun _ h => h.1)); replace HO665 := Aside0.mk (Kd.R_mono (Kd.R_keep (IsS90.apart (show IsS90 w _ gb658 l0 0 0 from by repeat (first | (with_reducible first | exact HI658.out | apply IsS90.alloc | apply IsS90.drewN | apply IsS90.drew | apply IsS90.set_1 | apply IsS90.set_2) | exact HI658.out)) (upR HO665.out) (by decide)) hk (fun _ h => h.2)) (fun _ h => h.1)); replace HO667 := Aside0.mk (Kd.R_mono (Kd.R_keep (IsS90.apart (show IsS90 w _ gb658 l0 0 0 from by repeat (first | (with_reducible first | exact HI658.out | apply IsS90.alloc | apply IsS90.drewN | apply IsS90.drew | apply IsS90.set_1 | apply IsS90.set_2) | exact HI658.out)) (upR HO667.out) (by decide)) hk (fun _ h => h.2)) (fun _ h => h.1)); replace HB := Aside0.mk (hb); replace HI658 := Aside0.mk (hi); (try clear hb); (try clear hk); (try clear hi)))
   go_meet
   case rel => exact ⟨_, (t669), (t670), (t671), rB, H', leB, ⟨upR HO663.out⟩, ⟨upR HO665.out⟩, ⟨upR HO667.out⟩, ⟨by repeat (first | (with_reducible first | exact HI658.out | apply IsS90.alloc | apply IsS90.drewN | apply IsS90.drew | apply IsS90.set_1 | apply IsS90.set_2) | exact HI658.out)⟩, ⟨by repeat (first | (with_reducible first | exact HB.out | apply below_alloc | apply pw_below_drewN | apply below_drew1 | refine below_set ?_ (IsS90.ge HI658.out)) | exact HB.out)⟩⟩
  ·replace H := iF (by decide) H
   have H' := Aside0.mk H
   clear H
   obtain ⟨Ao11, co11, eo11⟩ := Kd.R_slice HO667.out
   subst eo11
   go_wp2_with (first | ((with_reducible refine gC 56 ?_); refine lA (some 22) Try.func56 (spec_l20Good.calls k _ _ t661 false _ ?side1 ?side2 A6.out) ?_; (case side1 => repeat (first | exact (Kd.R_reads' HO667.out).2.2 | (with_reducible refine Kd.C_alloc ?_ _) | (with_reducible refine Kd.C_drewN ?_ _) | (with_reducible refine Kd.C_drew ?_))); (case side2 => exact (Kd.R_reads' HO667.out).2.1); rintro _ ⟨nd, rfl⟩))
   go_meet
   case rel => exact ⟨_, (false), (0), (0), rB, H', leB, ⟨upR HO663.out⟩, ⟨upR HO665.out⟩, ⟨upR HO667.out⟩, ⟨by repeat (first | (with_reducible first | exact HI658.out | apply IsS90.alloc | apply IsS90.drewN | apply IsS90.drew | apply IsS90.set_1 | apply IsS90.set_2) | exact HI658.out)⟩, ⟨by repeat (first | (with_reducible first | exact HB.out | apply below_alloc | apply pw_below_drewN | apply below_drew1 | refine below_set ?_ (IsS90.ge HI658.out)) | exact HB.out)⟩⟩
 case rest =>
  clear HC3
  obtain ⟨kq, x26_2, x659001_2, x659002_2, rfl, HA, HJ2, HO_6, HO_7, HO_8, HI658, HB⟩ := hcut
  cases kq with
  | zero => exact absurd HA.out (by simp [spec_DrawImproveRenaming.j0])
  | succ kj2 =>
   have H := HA.out
   clear HA
   simp only [spec_DrawImproveRenaming.j0] at H
   rcases Bool.eq_false_or_eq_true x26_2 with rfl | rfl
   ·replace H := iT rfl H
    replace H := Option.bind_eq_some_iff.mp H
    obtain ⟨⟨t672, t673, t674⟩, A130, H⟩ := H
    replace H : ((spec_l1Cur_pick.f l0 t673 t674 8).bind fun bt675 => (if 0 ≤ t672 then (if t672 < (t661.length : Int) then (if 0 ≤ bt675.1 then (if bt675.1 < (t661.length : Int) then (some (t659, t660, ((t661.set (t672 : Int).toNat (rd t661 bt675.1)).set (bt675.1 : Int).toNat (rd t661 t672)))) else (none)) else (none)) else (none)) else (none))) = some (r1, r2, r3) := H
    have A13 := Aside0.mk A130
    clear A130
    replace H := Option.bind_eq_some_iff.mp H
    obtain ⟨⟨t675, t676, t677⟩, A140, H⟩ := H
    replace H : (if 0 ≤ t672 then (if t672 < (t661.length : Int) then (if 0 ≤ t675 then (if t675 < (t661.length : Int) then (some (t659, t660, ((t661.set (t672 : Int).toNat (rd t661 t675)).set (t675 : Int).toNat (rd t661 t672)))) else (none)) else (none)) else (none)) else (none)) = some (r1, r2, r3) := H
    have A14 := Aside0.mk A140
    clear A140
    by_cases c15 : 0 ≤ t672
    ·rw [if_pos c15] at H
     have c15b0 : decide (0 ≤ t672) = true := decide_eq_true c15
     clear c15
     by_cases c16 : t672 < (t661.length : Int)
     ·rw [if_pos c16] at H
      have c16b0 : decide (t672 < (t661.length : Int)) = true := decide_eq_true c16
      clear c16
      by_cases c17 : 0 ≤ t675
      ·rw [if_pos c17] at H
       have c17b0 : decide (0 ≤ t675) = true := decide_eq_true c17
       clear c17
       by_cases c18 : t675 < (t661.length : Int)
       ·rw [if_pos c18] at H
        have c18b0 : decide (t675 < (t661.length : Int)) = true := decide_eq_true c18
        clear c18
        obtain ⟨y680, hy680⟩ : ∃ y_ : List Int, y_ = (t661.set (t672 : Int).toNat (rd t661 t675)) := ⟨_, rfl⟩
        replace H : (some (t659, t660, (y680.set (t675 : Int).toNat (rd t661 t672)))) = some (r1, r2, r3) := by first | (rw [hy680]; with_reducible exact H) | (have H2_ := (Option.bind_some _ _).symm.trans H; rw [hy680]; with_reducible exact H2_) | (have H2_ := (Option.bind_some _ _).symm.trans H; with_reducible exact H2_) | with_reducible exact H | (rw [hy680]; exact H) | exact H
        have Ny680 := Aside0.mk hy680
        clear hy680
        obtain ⟨y681, hy681⟩ : ∃ y_ : List Int, y_ = (y680.set (t675 : Int).toNat (rd t661 t672)) := ⟨_, rfl⟩
        replace H : (some (t659, t660, y681)) = some (r1, r2, r3) := by first | (rw [hy681]; with_reducible exact H) | (have H2_ := (Option.bind_some _ _).symm.trans H; rw [hy681]; with_reducible exact H2_) | (have H2_ := (Option.bind_some _ _).symm.trans H; with_reducible exact H2_) | with_reducible exact H | (rw [hy681]; exact H) | exact H
        have Ny681 := Aside0.mk hy681
        clear hy681
        simp only [Option.some.injEq, Prod.mk.injEq] at H
        obtain ⟨rfl, rfl, rfl⟩ := H
        go_wp2_with (first | ((with_reducible refine gate_callee (f := 83) rfl ?_); refine goesL_ (some 28) rfl rfl Try.func83 (by kernel_rfl) rfl #[.pointer (some ⟨gb658, 0, none⟩), .int .i64 8] rfl argsB ?_; (with_reducible refine (spec_l1Cur_pick.calls gb658 l0 x659001_2 x659002_2 8 t672 t673 t674 w _ ?side1 ?side2 A13.out).mono ?_); (case side1 => repeat (first | (with_reducible first | exact HI658.out | apply IsS90.alloc | apply IsS90.drewN | apply IsS90.drew | apply IsS90.set_1 | apply IsS90.set_2) | exact HI658.out)); (case side2 => repeat (first | (with_reducible first | exact HB.out | apply below_alloc | apply pw_below_drewN | apply below_drew1 | refine below_set ?_ (IsS90.ge HI658.out)) | exact HB.out)); rintro e w21 ⟨rfl, hi, hb, hk⟩; refine ⟨_, rfl, ?_⟩; replace HO_6 := Aside0.mk (Kd.R_mono (Kd.R_keep (IsS90.apart (show IsS90 w _ gb658 l0 x659001_2 x659002_2 from by repeat (first | (with_reducible first | exact HI658.out | apply IsS90.alloc | apply IsS90.drewN | apply IsS90.drew | apply IsS90.set_1 | apply IsS90.set_2) | exact HI658.out)) (upR HO_6.out) (by decide)) hk (fun _ h => h.2)) (fun _ h => h.1)); replace HO_7 := Aside0.mk (Kd.R_mono (Kd.R_keep (IsS90.apart (show IsS90 w _ gb658 l0 x659001_2 x659002_2 from by repeat (first | (with_reducible first | exact HI658.out | apply IsS90.alloc | apply IsS90.drewN | apply IsS90.drew | apply IsS90.set_1 | apply IsS90.set_2) | exact HI658.out)) (upR HO_7.out) (by decide)) hk (fun _ h => h.2)) (fun _ h => h.1)); replace HO_8 := Aside0.mk (Kd.R_mono (Kd.R_keep (IsS90.apart (show IsS90 w _ gb658 l0 x659001_2 x659002_2 from by repeat (first | (with_reducible first | exact HI658.out | apply IsS90.alloc | apply IsS90.drewN | apply IsS90.drew | apply IsS90.set_1 | apply IsS90.set_2) | exact HI658.out)) (upR HO_8.out) (by decide)) hk (fun _ h => h.2)) (fun _ h => h.1)); replace HB := Aside0.mk (hb); replace HI658 := Aside0.mk (hi); (try clear hb); (try clear hk); (try clear hi)) | ((with_reducible refine gate_callee (f := 83) rfl ?_); refine goesL_ (some 30) rfl rfl Try.func83 (by kernel_rfl) rfl #[.pointer (some ⟨gb658, 0, none⟩), .int .i64 8] rfl argsB ?_; (with_reducible refine (spec_l1Cur_pick.calls gb658 l0 t673 t674 8 t675 t676 t677 w _ ?side1 ?side2 A14.out).mono ?_); (case side1 => repeat (first | (with_reducible first | exact HI658.out | apply IsS90.alloc | apply IsS90.drewN | apply IsS90.drew | apply IsS90.set_1 | apply IsS90.set_2) | exact HI658.out)); (case side2 => repeat (first | (with_reducible first | exact HB.out | apply below_alloc | apply pw_below_drewN | apply below_drew1 | refine below_set ?_ (IsS90.ge HI658.out)) | exact HB.out)); rintro e w22 ⟨rfl, hi, hb, hk⟩; refine ⟨_, rfl, ?_⟩; replace HO_6 := Aside0.mk (Kd.R_mono (Kd.R_keep (IsS90.apart (show IsS90 w _ gb658 l0 t673 t674 from by repeat (first | (with_reducible first | exact HI658.out | apply IsS90.alloc | apply IsS90.drewN | apply IsS90.drew | apply IsS90.set_1 | apply IsS90.set_2) | exact HI658.out)) (upR HO_6.out) (by decide)) hk (fun _ h => h.2)) (fun _ h => h.1)); replace HO_7 := Aside0.mk (Kd.R_mono (Kd.R_keep (IsS90.apart (show IsS90 w _ gb658 l0 t673 t674 from by repeat (first | (with_reducible first | exact HI658.out | apply IsS90.alloc | apply IsS90.drewN | apply IsS90.drew | apply IsS90.set_1 | apply IsS90.set_2) | exact HI658.out)) (upR HO_7.out) (by decide)) hk (fun _ h => h.2)) (fun _ h => h.1)); replace HO_8 := Aside0.mk (Kd.R_mono (Kd.R_keep (IsS90.apart (show IsS90 w _ gb658 l0 t673 t674 from by repeat (first | (with_reducible first | exact HI658.out | apply IsS90.alloc | apply IsS90.drewN | apply IsS90.drew | apply IsS90.set_1 | apply IsS90.set_2) | exact HI658.out)) (upR HO_8.out) (by decide)) hk (fun _ h => h.2)) (fun _ h => h.1)); replace HB := Aside0.mk (hb); replace HI658 := Aside0.mk (hi); (try clear hb); (try clear hk); (try clear hi); obtain ⟨Ao23, co23, eo23⟩ := Kd.R_slice HO_8.out; subst eo23; have p678 : 0 ≤ (t672 : Int) := of_decide_eq_true asmB; have q678 : t672 < (t661.length : Int) := of_decide_eq_true asmB; obtain ⟨ad678, e678, hx678_0⟩ := Kd.at_int (Kd.R_reads' HO_8.out).2.2 t672 p678 q678; cases e678; replace p678 := eq_true p678; replace q678 := eq_true q678; have p679 : 0 ≤ (t675 : Int) := of_decide_eq_true asmB; have q679 : t675 < (t661.length : Int) := of_decide_eq_true asmB; obtain ⟨ad679, e679, hx679_0⟩ := Kd.at_int (Kd.R_reads' HO_8.out).2.2 t675 p679 q679; obtain rfl : ad678 = ad679 := (by injection e679); replace p679 := eq_true p679; replace q679 := eq_true q679; have p19 : 0 ≤ (t672 : Int) := of_decide_eq_true asmB; have q19 : (t672 : Int) < ((t661.length : Int) : Int) := of_decide_eq_true asmB; obtain ⟨go19, co19, eo19, gb19, gl19, cl19, HG19⟩ := Kd.R_form HO_8.out (by omega); (first | cases eo19 | (injection eo19 with ea_ en_ ec_; (first | subst ea_ | (injection ea_ with ea_; subst ea_)); subst ec_; clear en_)); have GB19 := Aside0.mk gb19; have GG19 := Aside0.mk HG19; clear gb19 gl19 HG19; (first | simp only [add_plain] at hx678_0 | skip); (first | simp only [add_plain] at hx679_0 | skip); obtain ⟨hx19_0, hf19_0⟩ := Kd.R_celln 0 HO_8.out (t672 : Int) p19 q19; replace p19 := eq_true p19; replace q19 := eq_true q19; obtain ⟨hy24_, hz24_⟩ := Kd.R_celln 0 HO_8.out (t672 : Int) (of_decide_eq_true asmB) (of_decide_eq_true asmB); have HP24 := Kd.R_putg HO_8.out (t672 : Int) (rd t661 t675)) | ((with_reducible refine gate_store (t := 3) (p := 41) rfl ?_); refine store_event (t := 3) (p := 41) (v := ?vo_w25) (w1 := (w22.setCell ⟨go19, (t672 : Int).toNat, none⟩ (.int .i64 (rd t661 t675)))) ?hg ?ho ?hn ?hr ?_; (case ho => rfl); (case hg => rfl); (case hn => rfl); (case hr => first | (go_simp; done) | (go_simp; rfl)); intro w25 hw; have hg : w22.grownBy w25 (some go19) := (by rw [hw]; exact HP24.2); have hp_ : Kd.R (Kd.int .i64) 3 w25 w.heap.size (fun _ => True) (.slice (some ⟨go19, 0, none⟩) t661.length co23) y680 := (by rw [hw, Ny680.out]; exact HP24.1); clear HP24; replace HO_6 := Aside0.mk (Kd.R_over' (v := (.slice (some ⟨go19, 0, none⟩) t661.length co23)) (upR HO_6.out) (Kd.R_typed HO_8.out) (by decide) hg); replace HO_7 := Aside0.mk (Kd.R_over' (v := (.slice (some ⟨go19, 0, none⟩) t661.length co23)) (upR HO_7.out) (Kd.R_typed HO_8.out) (by decide) hg); replace HI658 := Aside0.mk (IsS90.grown (keepF_ HI658 <| by repeat (first | (with_reducible first | exact HI658.out | apply IsS90.alloc | apply IsS90.drewN | apply IsS90.drew | apply IsS90.set_1 | apply IsS90.set_2) | exact HI658.out)) hg (IsS90.own_ne HI658.out HO_8.out (by decide))); replace HO_8 := Aside0.mk (hp_); replace HB := Aside0.mk ((by rw [hw]; exact below_set (HB.out) GB19.out : Below w.heap.size w w25)); clear hg hw hp_; have p20 : 0 ≤ (t675 : Int) := of_decide_eq_true asmB; have q20 : (t675 : Int) < ((t661.length : Int) : Int) := of_decide_eq_true asmB; obtain ⟨hx20_0, hf20_0⟩ := Kd.R_celln 0 HO_8.out (t675 : Int) p20 q20; replace p20 := eq_true p20; replace q20 := eq_true q20; obtain ⟨hy26_, hz26_⟩ := Kd.R_celln 0 HO_8.out (t675 : Int) (of_decide_eq_true asmB) (of_decide_eq_true asmB); have HP26 := Kd.R_putg HO_8.out (t675 : Int) (rd t661 t672)) | ((with_reducible refine gate_store (t := 3) (p := 45) rfl ?_); refine store_event (t := 3) (p := 45) (v := ?vo_w27) (w1 := (w25.setCell ⟨go19, (t675 : Int).toNat, none⟩ (.int .i64 (rd t661 t672)))) ?hg ?ho ?hn ?hr ?_; (case ho => rfl); (case hg => rfl); (case hn => rfl); (case hr => first | (go_simp; done) | (go_simp; rfl)); intro w27 hw; have hg : w25.grownBy w27 (some go19) := (by rw [hw]; exact HP26.2); have hp_ : Kd.R (Kd.int .i64) 3 w27 w.heap.size (fun _ => True) (.slice (some ⟨go19, 0, none⟩) t661.length co23) y681 := (by rw [hw, Ny681.out]; exact HP26.1); clear HP26; replace HO_6 := Aside0.mk (Kd.R_over' (v := (.slice (some ⟨go19, 0, none⟩) t661.length co23)) (upR HO_6.out) (Kd.R_typed HO_8.out) (by decide) hg); replace HO_7 := Aside0.mk (Kd.R_over' (v := (.slice (some ⟨go19, 0, none⟩) t661.length co23)) (upR HO_7.out) (Kd.R_typed HO_8.out) (by decide) hg); replace HI658 := Aside0.mk (IsS90.grown (keepF_ HI658 <| by repeat (first | (with_reducible first | exact HI658.out | apply IsS90.alloc | apply IsS90.drewN | apply IsS90.drew | apply IsS90.set_1 | apply IsS90.set_2) | exact HI658.out)) hg (IsS90.own_ne HI658.out HO_8.out (by decide))); replace HO_8 := Aside0.mk (hp_); replace HB := Aside0.mk ((by rw [hw]; exact below_set (HB.out) GB19.out : Below w.heap.size w w27)); clear hg hw hp_))
        go_ret3
        exact ⟨_, _, _, eB, upR HO_6.out, upR HO_7.out, upR HO_8.out, by repeat (first | (with_reducible first | exact HB.out | apply below_alloc | apply pw_below_drewN | apply below_drew1 | refine below_set ?_ (IsS90.ge HI658.out)) | exact HB.out)⟩
       ·rw [if_neg c18] at H
        exact absurd H (by simp)
      ·rw [if_neg c17] at H
       exact absurd H (by simp)
     ·rw [if_neg c16] at H
      exact absurd H (by simp)
    ·rw [if_neg c15] at H
     exact absurd H (by simp)
   ·replace H := iF (by decide) H
    simp only [Option.some.injEq, Prod.mk.injEq] at H
    obtain ⟨rfl, rfl, rfl⟩ := H
    go_wp2
    go_ret3
    exact ⟨_, _, _, eB, upR HO_6.out, upR HO_7.out, upR HO_8.out, by repeat (first | (with_reducible first | exact HB.out | apply below_alloc | apply pw_below_drewN | apply below_drew1 | refine below_set ?_ (IsS90.ge HI658.out)) | exact HB.out)⟩

end Go.Proofs.Ytfaojmabalplfaa.QFnRenamings
