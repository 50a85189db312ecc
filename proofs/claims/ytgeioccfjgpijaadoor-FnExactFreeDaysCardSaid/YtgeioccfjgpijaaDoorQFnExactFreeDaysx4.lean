/- Contracts of Go functions that FnExactFreeDays reaches: the call computes what the plain function says. No condition. -/
import Derived.Test.YtgeioccfjgpijaaDoorQFnExactFreeDaysx0
import Derived.Test.YtgeioccfjgpijaaDoorQFnExactFreeDaysx2
import Derived.Test.YtgeioccfjgpijaaDoorQFnExactFreeDaysx3
namespace Go.Proofs.YtgeioccfjgpijaaDoor.QFnExactFreeDays
open Go.RowKit Go.Proofs.YtgeioccfjgpijaaDoorW.PrintWords Go.Proofs.YtgeioccfjgpijaaDoorW.PrintLast Go.Proofs.YtgeioccfjgpijaaDoorW.PrintMore
attribute [local go_sem] max2_int min2_int max_two min_two max_three min_three max_four min_four   -- for this text's walks alone
set_option linter.unusedVariables false
set_option linter.unusedSimpArgs false

/-! ### spec_l22On: function 64 -/
def spec_l22On.l0 : Nat → List (S26) → ByteArray → Int → Int → Option (Int)
  | 0, _, _, _, _ => none
  | k + 1, x0, x1, x2, x7 => if x7 < (x0.length : Int) then (if 0 ≤ x7 then ((spec_l22Holds.f ((rd_T26 x0 x7).f0) ((rd_T26 x0 x7).f1) ((rd_T26 x0 x7).f2) ((rd_T26 x0 x7).f3) ((rd_T26 x0 x7).f4) ((rd_T26 x0 x7).f5)).bind fun t156 => (if t156 = true then (if ((rd_T26 x0 x7).f1).toList = x1.toList then ((spec_l1In.f x2 ((rd_T26 x0 x7).f2) ((rd_T26 x0 x7).f3)).bind fun t157 => (if t157 = true then (some x7) else (spec_l22On.l0 k x0 x1 x2 (wrap64 (x7 + 1))))) else (spec_l22On.l0 k x0 x1 x2 (wrap64 (x7 + 1)))) else (spec_l22On.l0 k x0 x1 x2 (wrap64 (x7 + 1))))) else (none)) else (some (-1))
def spec_l22On.f (k : Nat) (l0 : List (S26)) (a1 : ByteArray) (a2 : Int) : Option (Int) := spec_l22On.l0 k l0 a1 a2 0
theorem spec_l22On.mono_l : ∀ k, (∀ y0 y1 y2 y3, LeO (spec_l22On.l0 k y0 y1 y2 y3) (spec_l22On.l0 (k + 1) y0 y1 y2 y3))
  | 0 => fun _ _ _ _ r h => by simp [spec_l22On.l0] at h
  | k + 1 => by
    have ih0 := spec_l22On.mono_l k
    · intro y0 y1 y2 y3
      unfold spec_l22On.l0
      repeat' first
      | (with_reducible exact ih0 _ _ _ _)
      | (with_reducible exact LeO.refl _)
      | (with_reducible exact LeO.none _)
      | (with_reducible refine LeO.ite ?_ ?_)
      | (with_reducible refine LeO.bind ?_ (fun _ => ?_))
      | exact ih0 _ _ _ _
      | exact LeO.none _
      | refine LeO.ite ?_ ?_
      | refine LeO.bind ?_ (fun _ => ?_)
theorem spec_l22On.mono : ∀ a0 a1 a2 k, LeO (spec_l22On.f k a0 a1 a2) (spec_l22On.f (k + 1) a0 a1 a2) := by
  intro a0 a1 a2 k
  have ih0 := spec_l22On.mono_l k
  unfold spec_l22On.f
  repeat' first
      | (with_reducible exact ih0 _ _ _ _)
      | (with_reducible exact LeO.refl _)
      | (with_reducible exact LeO.none _)
      | (with_reducible refine LeO.ite ?_ ?_)
      | (with_reducible refine LeO.bind ?_ (fun _ => ?_))
      | exact ih0 _ _ _ _
      | exact LeO.none _
      | refine LeO.ite ?_ ?_
      | refine LeO.bind ?_ (fun _ => ?_)
set_option maxHeartbeats 8000000 in
set_option maxRecDepth 100000 in
theorem spec_l22On.calls (k : Nat) (A0 : Option Addr) (c0 : Nat) (l0 : List (S26)) (a1 : ByteArray) (a2 : Int) (r : Int) (w : World) (hr0 : Kd.C k26 w A0 l0.length l0) (hc0 : l0.length ≤ c0) (h : spec_l22On.f k l0 a1 a2 = some r) :
    Calls Tryd.prog 64 #[.slice A0 l0.length c0, .string a1, .int .i64 a2] w fun e w' => e = .returned (.int .i64 r) ∧ Below w.heap.size w w' := by
  have hu26 := Tryd.underlying26
  have HR0 := Aside0.mk hr0
  have HC0 := Aside0.mk hc0
  clear hr0 hc0
  have HB := Aside0.mk (Below.refl w.heap.size w)
  have H : (spec_l22On.l0 k l0 a1 a2 0) = some r := h
  clear h
  have H' := Aside0.mk H
  clear H
  go_enter Tryd.func64, Tryd.ntmps64
  go_wp2
  go_loopg [7] k (fun kq v7 w' => ∃ (x7_1 : Int), v7 = .int .i64 x7_1 ∧ Aside0 (spec_l22On.l0 kq l0 a1 a2 x7_1 = some r) ∧ Aside0 (kq ≤ k) ∧ Aside0 (Below w.heap.size w w'))
  case atStart => exact ⟨(0), (by first | rfl | (simp; done) | (simp [*]; done)), H', ⟨Nat.le_refl _⟩, ⟨(upB HB.out)⟩⟩
  case round =>
    clear H'
    obtain ⟨x7_1, rfl, HA, HK1, HB⟩ := hrel
    cases gk with
    | zero => exact absurd HA.out (by simp [spec_l22On.l0])
    | succ k1 =>
      have H := HA.out
      clear HA
      simp only [spec_l22On.l0] at H
      by_cases c4 : x7_1 < (l0.length : Int)
      · rw [if_pos c4] at H
        have c4b0 : decide (x7_1 < (l0.length : Int)) = true := decide_eq_true c4
        clear c4
        by_cases c5 : 0 ≤ x7_1
        · rw [if_pos c5] at H
          have c5b0 : decide (0 ≤ x7_1) = true := decide_eq_true c5
          clear c5
          replace H := Option.bind_eq_some_iff.mp H
          obtain ⟨t156, A60, H⟩ := H
          replace H : (if t156 = true then (if ((rd_T26 l0 x7_1).f1).toList = a1.toList then ((spec_l1In.f a2 ((rd_T26 l0 x7_1).f2) ((rd_T26 l0 x7_1).f3)).bind fun t157 => (if t157 = true then (some x7_1) else (spec_l22On.l0 k1 l0 a1 a2 (wrap64 (x7_1 + 1))))) else (spec_l22On.l0 k1 l0 a1 a2 (wrap64 (x7_1 + 1)))) else (spec_l22On.l0 k1 l0 a1 a2 (wrap64 (x7_1 + 1)))) = some r := H
          have A6 := Aside0.mk A60
          clear A60
          by_cases c7 : t156 = true
          · subst c7
            have H1 : (if ((rd_T26 l0 x7_1).f1).toList = a1.toList then ((spec_l1In.f a2 ((rd_T26 l0 x7_1).f2) ((rd_T26 l0 x7_1).f3)).bind fun t157 => (if t157 = true then (some x7_1) else (spec_l22On.l0 k1 l0 a1 a2 (wrap64 (x7_1 + 1))))) else (spec_l22On.l0 k1 l0 a1 a2 (wrap64 (x7_1 + 1)))) = some r := by rw [if_pos rfl] at H; exact H
            clear H
            have H := H1
            clear H1
            by_cases c8 : ((rd_T26 l0 x7_1).f1).toList = a1.toList
            · rw [if_pos c8] at H
              have c8b0 : (((rd_T26 l0 x7_1).f1).toList == a1.toList) = true := beq_iff_eq.mpr c8
              have c8b1 : (((rd_T26 l0 x7_1).f1).toList != a1.toList) = false := bne_eq_false_iff_eq.mpr c8
              clear c8
              replace H := Option.bind_eq_some_iff.mp H
              obtain ⟨t157, A90, H⟩ := H
              replace H : (if t157 = true then (some x7_1) else (spec_l22On.l0 k1 l0 a1 a2 (wrap64 (x7_1 + 1)))) = some r := H
              have A9 := Aside0.mk A90
              clear A90
              by_cases c10 : t157 = true
              · subst c10
                have H1 : (some x7_1) = some r := by rw [if_pos rfl] at H; exact H
                clear H
                have H := H1
                clear H1
                obtain rfl := Option.some.inj H
                have p154 : 0 ≤ (x7_1 : Int) := of_decide_eq_true asmB
                have q154 : x7_1 < (l0.length : Int) := of_decide_eq_true asmB
                obtain ⟨ad154, e154, hx154_0, hx154_1, hx154_2, hx154_3, hx154_4, hx154_5⟩ := at_T26 HR0.out x7_1 p154 q154
                cases e154
                replace hx154_0 := bx HB.out hx154_0
                replace hx154_1 := bx HB.out hx154_1
                replace hx154_2 := bx HB.out hx154_2
                replace hx154_3 := bx HB.out hx154_3
                replace hx154_4 := bx HB.out hx154_4
                replace hx154_5 := bx HB.out hx154_5
                replace p154 := eq_true p154
                replace q154 := eq_true q154
                go_wp2_with (first | ((with_reducible refine gate_dst (N := 8) rfl ?_); refine box_event ?hg (N := 8) ?hd (cs := #[.int .i64 0, .string (⟨#[]⟩ : ByteArray), .int .i64 0, .int .i64 0, .int .i64 0, .int .i64 0]) (t := 26) ?hr ?_; (case hd => rfl); (case hg => rfl); (case hr => first | (go_simp; done) | (go_simp; rfl)); intro gb155 hg w11 hbox hb; have n0_ := Aside0.mk (below_step (upB HB.out) hb); have n1_ := Aside0.mk (hbox); have n2_ := Aside0.mk ((by rw [hg]; exact (below_size (upB HB.out)) : w.heap.size ≤ gb155)); have n3_ := Aside0.mk ((by rw [hg]; exact (below_size (upB HB.out)) : w.heap.size ≤ gb155)); clear HB; have HB := n0_; have BK155 := n1_; have GW155 := n2_; have GE155 := n3_; clear n0_ n1_ n2_ n3_; clear hb hbox hg; have hcz12_0 := ci BK155.out 0 0 rfl; have hcz12_1 : w11.cell? ⟨gb155, 1, none⟩ = some (.string (⟨#[]⟩ : ByteArray)) := (blk_cell BK155.out 1).trans rfl; have hcz12_2 := ci BK155.out 2 0 rfl; have hcz12_3 := ci BK155.out 3 0 rfl; have hcz12_4 := ci BK155.out 4 0 rfl; have hcz12_5 := ci BK155.out 5 0 rfl; have hfz12_0 := fun j_ : Nat => blk_frozen BK155.out j_) | ((with_reducible refine gate_callee (f := 70) rfl ?_); refine goesL_ (some 20) rfl rfl Tryd.func70 (by kernel_rfl) rfl #[.agg #[.int .i64 ((rd_T26 l0 x7_1).f0), .string ((rd_T26 l0 x7_1).f1), .int .i64 ((rd_T26 l0 x7_1).f2), .int .i64 ((rd_T26 l0 x7_1).f3), .int .i64 ((rd_T26 l0 x7_1).f4), .int .i64 ((rd_T26 l0 x7_1).f5)]] rfl argsB ?_; (with_reducible refine (spec_l22Holds.calls ((rd_T26 l0 x7_1).f0) ((rd_T26 l0 x7_1).f1) ((rd_T26 l0 x7_1).f2) ((rd_T26 l0 x7_1).f3) ((rd_T26 l0 x7_1).f4) ((rd_T26 l0 x7_1).f5) true _ A6.out).mono ?_); rintro e w13 ⟨rfl, hb⟩; refine ⟨_, rfl, ?_⟩; have n0_ := Aside0.mk (blk_below (g := gb155) (o := .cells #[.int .i64 ((rd_T26 l0 x7_1).f0), .string ((rd_T26 l0 x7_1).f1), .int .i64 ((rd_T26 l0 x7_1).f2), .int .i64 ((rd_T26 l0 x7_1).f3), .int .i64 ((rd_T26 l0 x7_1).f4), .int .i64 ((rd_T26 l0 x7_1).f5)] 26 (0, 0)) (by (with_reducible repeat (first | refine blk_drewN ?_ _ | refine blk_drew ?_ | refine blk_alloc ?_ _)); refine blk_put (cs := #[.int .i64 ((rd_T26 l0 x7_1).f0), .string ((rd_T26 l0 x7_1).f1), .int .i64 ((rd_T26 l0 x7_1).f2), .int .i64 ((rd_T26 l0 x7_1).f3), .int .i64 ((rd_T26 l0 x7_1).f4), .int .i64 0]) ?_ 5 _ rfl; (with_reducible repeat (first | refine blk_drewN ?_ _ | refine blk_drew ?_ | refine blk_alloc ?_ _)); refine blk_put (cs := #[.int .i64 ((rd_T26 l0 x7_1).f0), .string ((rd_T26 l0 x7_1).f1), .int .i64 ((rd_T26 l0 x7_1).f2), .int .i64 ((rd_T26 l0 x7_1).f3), .int .i64 0, .int .i64 0]) ?_ 4 _ rfl; (with_reducible repeat (first | refine blk_drewN ?_ _ | refine blk_drew ?_ | refine blk_alloc ?_ _)); refine blk_put (cs := #[.int .i64 ((rd_T26 l0 x7_1).f0), .string ((rd_T26 l0 x7_1).f1), .int .i64 ((rd_T26 l0 x7_1).f2), .int .i64 0, .int .i64 0, .int .i64 0]) ?_ 3 _ rfl; (with_reducible repeat (first | refine blk_drewN ?_ _ | refine blk_drew ?_ | refine blk_alloc ?_ _)); refine blk_put (cs := #[.int .i64 ((rd_T26 l0 x7_1).f0), .string ((rd_T26 l0 x7_1).f1), .int .i64 0, .int .i64 0, .int .i64 0, .int .i64 0]) ?_ 2 _ rfl; (with_reducible repeat (first | refine blk_drewN ?_ _ | refine blk_drew ?_ | refine blk_alloc ?_ _)); refine blk_put (cs := #[.int .i64 ((rd_T26 l0 x7_1).f0), .string (⟨#[]⟩ : ByteArray), .int .i64 0, .int .i64 0, .int .i64 0, .int .i64 0]) ?_ 1 _ rfl; (with_reducible repeat (first | refine blk_drewN ?_ _ | refine blk_drew ?_ | refine blk_alloc ?_ _)); refine blk_put (cs := #[.int .i64 0, .string (⟨#[]⟩ : ByteArray), .int .i64 0, .int .i64 0, .int .i64 0, .int .i64 0]) ?_ 0 _ rfl; (with_reducible repeat (first | refine blk_drewN ?_ _ | refine blk_drew ?_ | refine blk_alloc ?_ _)); exact BK155.out) hb); have n1_ := Aside0.mk (below_step (upB1 HB.out GE155.out) hb); clear BK155; clear HB; have BK155 := n0_; have HB := n1_; clear n0_ n1_; (try clear hb); have hcz14_0 := ci BK155.out 0 ((rd_T26 l0 x7_1).f0) rfl; have hcz14_1 : w13.cell? ⟨gb155, 1, none⟩ = some (.string ((rd_T26 l0 x7_1).f1)) := (blk_cell BK155.out 1).trans rfl; have hcz14_2 := ci BK155.out 2 ((rd_T26 l0 x7_1).f2) rfl; have hcz14_3 := ci BK155.out 3 ((rd_T26 l0 x7_1).f3) rfl; have hcz14_4 := ci BK155.out 4 ((rd_T26 l0 x7_1).f4) rfl; have hcz14_5 := ci BK155.out 5 ((rd_T26 l0 x7_1).f5) rfl; have hfz14_0 := fun j_ : Nat => blk_frozen BK155.out j_) | (go_at_call 67; (with_reducible refine (spec_l1In.calls a2 ((rd_T26 l0 x7_1).f2) ((rd_T26 l0 x7_1).f3) true _ A9.out).mono ?_); rintro e w' ⟨rfl, ⟨nd, rfl⟩⟩))
                go_ret
                exact ⟨by first | rfl | (simp [errW_none, errW_some] <;> rfl) | (simp [*, errW_none, errW_some] <;> rfl), (upB1 HB.out GE155.out)⟩
              · replace c10 := Bool.eq_false_iff.mpr c10
                subst c10
                have H1 : (spec_l22On.l0 k1 l0 a1 a2 (wrap64 (x7_1 + 1))) = some r := by rw [if_neg (show ¬ (false = true) by decide)] at H; exact H
                clear H
                have H := H1
                clear H1
                have H' := Aside0.mk H
                clear H
                have p154 : 0 ≤ (x7_1 : Int) := of_decide_eq_true asmB
                have q154 : x7_1 < (l0.length : Int) := of_decide_eq_true asmB
                obtain ⟨ad154, e154, hx154_0, hx154_1, hx154_2, hx154_3, hx154_4, hx154_5⟩ := at_T26 HR0.out x7_1 p154 q154
                cases e154
                replace hx154_0 := bx HB.out hx154_0
                replace hx154_1 := bx HB.out hx154_1
                replace hx154_2 := bx HB.out hx154_2
                replace hx154_3 := bx HB.out hx154_3
                replace hx154_4 := bx HB.out hx154_4
                replace hx154_5 := bx HB.out hx154_5
                replace p154 := eq_true p154
                replace q154 := eq_true q154
                go_wp2_with (first | ((with_reducible refine gate_dst (N := 8) rfl ?_); refine box_event ?hg (N := 8) ?hd (cs := #[.int .i64 0, .string (⟨#[]⟩ : ByteArray), .int .i64 0, .int .i64 0, .int .i64 0, .int .i64 0]) (t := 26) ?hr ?_; (case hd => rfl); (case hg => rfl); (case hr => first | (go_simp; done) | (go_simp; rfl)); intro gb155 hg w15 hbox hb; have n0_ := Aside0.mk (below_step (upB HB.out) hb); have n1_ := Aside0.mk (hbox); have n2_ := Aside0.mk ((by rw [hg]; exact (below_size (upB HB.out)) : w.heap.size ≤ gb155)); have n3_ := Aside0.mk ((by rw [hg]; exact (below_size (upB HB.out)) : w.heap.size ≤ gb155)); clear HB; have HB := n0_; have BK155 := n1_; have GW155 := n2_; have GE155 := n3_; clear n0_ n1_ n2_ n3_; clear hb hbox hg; have hcz16_0 := ci BK155.out 0 0 rfl; have hcz16_1 : w15.cell? ⟨gb155, 1, none⟩ = some (.string (⟨#[]⟩ : ByteArray)) := (blk_cell BK155.out 1).trans rfl; have hcz16_2 := ci BK155.out 2 0 rfl; have hcz16_3 := ci BK155.out 3 0 rfl; have hcz16_4 := ci BK155.out 4 0 rfl; have hcz16_5 := ci BK155.out 5 0 rfl; have hfz16_0 := fun j_ : Nat => blk_frozen BK155.out j_) | ((with_reducible refine gate_callee (f := 70) rfl ?_); refine goesL_ (some 20) rfl rfl Tryd.func70 (by kernel_rfl) rfl #[.agg #[.int .i64 ((rd_T26 l0 x7_1).f0), .string ((rd_T26 l0 x7_1).f1), .int .i64 ((rd_T26 l0 x7_1).f2), .int .i64 ((rd_T26 l0 x7_1).f3), .int .i64 ((rd_T26 l0 x7_1).f4), .int .i64 ((rd_T26 l0 x7_1).f5)]] rfl argsB ?_; (with_reducible refine (spec_l22Holds.calls ((rd_T26 l0 x7_1).f0) ((rd_T26 l0 x7_1).f1) ((rd_T26 l0 x7_1).f2) ((rd_T26 l0 x7_1).f3) ((rd_T26 l0 x7_1).f4) ((rd_T26 l0 x7_1).f5) true _ A6.out).mono ?_); rintro e w17 ⟨rfl, hb⟩; refine ⟨_, rfl, ?_⟩; have n0_ := Aside0.mk (blk_below (g := gb155) (o := .cells #[.int .i64 ((rd_T26 l0 x7_1).f0), .string ((rd_T26 l0 x7_1).f1), .int .i64 ((rd_T26 l0 x7_1).f2), .int .i64 ((rd_T26 l0 x7_1).f3), .int .i64 ((rd_T26 l0 x7_1).f4), .int .i64 ((rd_T26 l0 x7_1).f5)] 26 (0, 0)) (by (with_reducible repeat (first | refine blk_drewN ?_ _ | refine blk_drew ?_ | refine blk_alloc ?_ _)); refine blk_put (cs := #[.int .i64 ((rd_T26 l0 x7_1).f0), .string ((rd_T26 l0 x7_1).f1), .int .i64 ((rd_T26 l0 x7_1).f2), .int .i64 ((rd_T26 l0 x7_1).f3), .int .i64 ((rd_T26 l0 x7_1).f4), .int .i64 0]) ?_ 5 _ rfl; (with_reducible repeat (first | refine blk_drewN ?_ _ | refine blk_drew ?_ | refine blk_alloc ?_ _)); refine blk_put (cs := #[.int .i64 ((rd_T26 l0 x7_1).f0), .string ((rd_T26 l0 x7_1).f1), .int .i64 ((rd_T26 l0 x7_1).f2), .int .i64 ((rd_T26 l0 x7_1).f3), .int .i64 0, .int .i64 0]) ?_ 4 _ rfl; (with_reducible repeat (first | refine blk_drewN ?_ _ | refine blk_drew ?_ | refine blk_alloc ?_ _)); refine blk_put (cs := #[.int .i64 ((rd_T26 l0 x7_1).f0), .string ((rd_T26 l0 x7_1).f1), .int .i64 ((rd_T26 l0 x7_1).f2), .int .i64 0, .int .i64 0, .int .i64 0]) ?_ 3 _ rfl; (with_reducible repeat (first | refine blk_drewN ?_ _ | refine blk_drew ?_ | refine blk_alloc ?_ _)); refine blk_put (cs := #[.int .i64 ((rd_T26 l0 x7_1).f0), .string ((rd_T26 l0 x7_1).f1), .int .i64 0, .int .i64 0, .int .i64 0, .int .i64 0]) ?_ 2 _ rfl; (with_reducible repeat (first | refine blk_drewN ?_ _ | refine blk_drew ?_ | refine blk_alloc ?_ _)); refine blk_put (cs := #[.int .i64 ((rd_T26 l0 x7_1).f0), .string (⟨#[]⟩ : ByteArray), .int .i64 0, .int .i64 0, .int .i64 0, .int .i64 0]) ?_ 1 _ rfl; (with_reducible repeat (first | refine blk_drewN ?_ _ | refine blk_drew ?_ | refine blk_alloc ?_ _)); refine blk_put (cs := #[.int .i64 0, .string (⟨#[]⟩ : ByteArray), .int .i64 0, .int .i64 0, .int .i64 0, .int .i64 0]) ?_ 0 _ rfl; (with_reducible repeat (first | refine blk_drewN ?_ _ | refine blk_drew ?_ | refine blk_alloc ?_ _)); exact BK155.out) hb); have n1_ := Aside0.mk (below_step (upB1 HB.out GE155.out) hb); clear BK155; clear HB; have BK155 := n0_; have HB := n1_; clear n0_ n1_; (try clear hb); have hcz18_0 := ci BK155.out 0 ((rd_T26 l0 x7_1).f0) rfl; have hcz18_1 : w17.cell? ⟨gb155, 1, none⟩ = some (.string ((rd_T26 l0 x7_1).f1)) := (blk_cell BK155.out 1).trans rfl; have hcz18_2 := ci BK155.out 2 ((rd_T26 l0 x7_1).f2) rfl; have hcz18_3 := ci BK155.out 3 ((rd_T26 l0 x7_1).f3) rfl; have hcz18_4 := ci BK155.out 4 ((rd_T26 l0 x7_1).f4) rfl; have hcz18_5 := ci BK155.out 5 ((rd_T26 l0 x7_1).f5) rfl; have hfz18_0 := fun j_ : Nat => blk_frozen BK155.out j_) | (go_at_call 67; (with_reducible refine (spec_l1In.calls a2 ((rd_T26 l0 x7_1).f2) ((rd_T26 l0 x7_1).f3) false _ A9.out).mono ?_); rintro e w' ⟨rfl, ⟨nd, rfl⟩⟩))
                go_roundg k1
                case measure => have := HK1.out; omega
                case rel => exact ⟨(wrap64 (x7_1 + 1)), (by first | rfl | (simp; done) | (simp [*]; done)), H', ⟨by have := HK1.out; omega⟩, ⟨(upB1 HB.out GE155.out)⟩⟩
            · rw [if_neg c8] at H
              have c8b0 : (((rd_T26 l0 x7_1).f1).toList == a1.toList) = false := beq_eq_false_iff_ne.mpr c8
              have c8b1 : (((rd_T26 l0 x7_1).f1).toList != a1.toList) = true := bne_iff_ne.mpr c8
              have H' := Aside0.mk H
              clear H
              have p154 : 0 ≤ (x7_1 : Int) := of_decide_eq_true asmB
              have q154 : x7_1 < (l0.length : Int) := of_decide_eq_true asmB
              obtain ⟨ad154, e154, hx154_0, hx154_1, hx154_2, hx154_3, hx154_4, hx154_5⟩ := at_T26 HR0.out x7_1 p154 q154
              cases e154
              replace hx154_0 := bx HB.out hx154_0
              replace hx154_1 := bx HB.out hx154_1
              replace hx154_2 := bx HB.out hx154_2
              replace hx154_3 := bx HB.out hx154_3
              replace hx154_4 := bx HB.out hx154_4
              replace hx154_5 := bx HB.out hx154_5
              replace p154 := eq_true p154
              replace q154 := eq_true q154
              go_wp2_with (first | ((with_reducible refine gate_dst (N := 8) rfl ?_); refine box_event ?hg (N := 8) ?hd (cs := #[.int .i64 0, .string (⟨#[]⟩ : ByteArray), .int .i64 0, .int .i64 0, .int .i64 0, .int .i64 0]) (t := 26) ?hr ?_; (case hd => rfl); (case hg => rfl); (case hr => first | (go_simp; done) | (go_simp; rfl)); intro gb155 hg w19 hbox hb; have n0_ := Aside0.mk (below_step (upB HB.out) hb); have n1_ := Aside0.mk (hbox); have n2_ := Aside0.mk ((by rw [hg]; exact (below_size (upB HB.out)) : w.heap.size ≤ gb155)); have n3_ := Aside0.mk ((by rw [hg]; exact (below_size (upB HB.out)) : w.heap.size ≤ gb155)); clear HB; have HB := n0_; have BK155 := n1_; have GW155 := n2_; have GE155 := n3_; clear n0_ n1_ n2_ n3_; clear hb hbox hg; have hcz20_0 := ci BK155.out 0 0 rfl; have hcz20_1 : w19.cell? ⟨gb155, 1, none⟩ = some (.string (⟨#[]⟩ : ByteArray)) := (blk_cell BK155.out 1).trans rfl; have hcz20_2 := ci BK155.out 2 0 rfl; have hcz20_3 := ci BK155.out 3 0 rfl; have hcz20_4 := ci BK155.out 4 0 rfl; have hcz20_5 := ci BK155.out 5 0 rfl; have hfz20_0 := fun j_ : Nat => blk_frozen BK155.out j_) | ((with_reducible refine gate_callee (f := 70) rfl ?_); refine goesL_ (some 20) rfl rfl Tryd.func70 (by kernel_rfl) rfl #[.agg #[.int .i64 ((rd_T26 l0 x7_1).f0), .string ((rd_T26 l0 x7_1).f1), .int .i64 ((rd_T26 l0 x7_1).f2), .int .i64 ((rd_T26 l0 x7_1).f3), .int .i64 ((rd_T26 l0 x7_1).f4), .int .i64 ((rd_T26 l0 x7_1).f5)]] rfl argsB ?_; (with_reducible refine (spec_l22Holds.calls ((rd_T26 l0 x7_1).f0) ((rd_T26 l0 x7_1).f1) ((rd_T26 l0 x7_1).f2) ((rd_T26 l0 x7_1).f3) ((rd_T26 l0 x7_1).f4) ((rd_T26 l0 x7_1).f5) true _ A6.out).mono ?_); rintro e w21 ⟨rfl, hb⟩; refine ⟨_, rfl, ?_⟩; have n0_ := Aside0.mk (blk_below (g := gb155) (o := .cells #[.int .i64 ((rd_T26 l0 x7_1).f0), .string ((rd_T26 l0 x7_1).f1), .int .i64 ((rd_T26 l0 x7_1).f2), .int .i64 ((rd_T26 l0 x7_1).f3), .int .i64 ((rd_T26 l0 x7_1).f4), .int .i64 ((rd_T26 l0 x7_1).f5)] 26 (0, 0)) (by (with_reducible repeat (first | refine blk_drewN ?_ _ | refine blk_drew ?_ | refine blk_alloc ?_ _)); refine blk_put (cs := #[.int .i64 ((rd_T26 l0 x7_1).f0), .string ((rd_T26 l0 x7_1).f1), .int .i64 ((rd_T26 l0 x7_1).f2), .int .i64 ((rd_T26 l0 x7_1).f3), .int .i64 ((rd_T26 l0 x7_1).f4), .int .i64 0]) ?_ 5 _ rfl; (with_reducible repeat (first | refine blk_drewN ?_ _ | refine blk_drew ?_ | refine blk_alloc ?_ _)); refine blk_put (cs := #[.int .i64 ((rd_T26 l0 x7_1).f0), .string ((rd_T26 l0 x7_1).f1), .int .i64 ((rd_T26 l0 x7_1).f2), .int .i64 ((rd_T26 l0 x7_1).f3), .int .i64 0, .int .i64 0]) ?_ 4 _ rfl; (with_reducible repeat (first | refine blk_drewN ?_ _ | refine blk_drew ?_ | refine blk_alloc ?_ _)); refine blk_put (cs := #[.int .i64 ((rd_T26 l0 x7_1).f0), .string ((rd_T26 l0 x7_1).f1), .int .i64 ((rd_T26 l0 x7_1).f2), .int .i64 0, .int .i64 0, .int .i64 0]) ?_ 3 _ rfl; (with_reducible repeat (first | refine blk_drewN ?_ _ | refine blk_drew ?_ | refine blk_alloc ?_ _)); refine blk_put (cs := #[.int .i64 ((rd_T26 l0 x7_1).f0), .string ((rd_T26 l0 x7_1).f1), .int .i64 0, .int .i64 0, .int .i64 0, .int .i64 0]) ?_ 2 _ rfl; (with_reducible repeat (first | refine blk_drewN ?_ _ | refine blk_drew ?_ | refine blk_alloc ?_ _)); refine blk_put (cs := #[.int .i64 ((rd_T26 l0 x7_1).f0), .string (⟨#[]⟩ : ByteArray), .int .i64 0, .int .i64 0, .int .i64 0, .int .i64 0]) ?_ 1 _ rfl; (with_reducible repeat (first | refine blk_drewN ?_ _ | refine blk_drew ?_ | refine blk_alloc ?_ _)); refine blk_put (cs := #[.int .i64 0, .string (⟨#[]⟩ : ByteArray), .int .i64 0, .int .i64 0, .int .i64 0, .int .i64 0]) ?_ 0 _ rfl; (with_reducible repeat (first | refine blk_drewN ?_ _ | refine blk_drew ?_ | refine blk_alloc ?_ _)); exact BK155.out) hb); have n1_ := Aside0.mk (below_step (upB1 HB.out GE155.out) hb); clear BK155; clear HB; have BK155 := n0_; have HB := n1_; clear n0_ n1_; (try clear hb); have hcz22_0 := ci BK155.out 0 ((rd_T26 l0 x7_1).f0) rfl; have hcz22_1 : w21.cell? ⟨gb155, 1, none⟩ = some (.string ((rd_T26 l0 x7_1).f1)) := (blk_cell BK155.out 1).trans rfl; have hcz22_2 := ci BK155.out 2 ((rd_T26 l0 x7_1).f2) rfl; have hcz22_3 := ci BK155.out 3 ((rd_T26 l0 x7_1).f3) rfl; have hcz22_4 := ci BK155.out 4 ((rd_T26 l0 x7_1).f4) rfl; have hcz22_5 := ci BK155.out 5 ((rd_T26 l0 x7_1).f5) rfl; have hfz22_0 := fun j_ : Nat => blk_frozen BK155.out j_))
              go_roundg k1
              case measure => have := HK1.out; omega
              case rel => exact ⟨(wrap64 (x7_1 + 1)), (by first | rfl | (simp; done) | (simp [*]; done)), H', ⟨by have := HK1.out; omega⟩, ⟨(upB1 HB.out GE155.out)⟩⟩
          · replace c7 := Bool.eq_false_iff.mpr c7
            subst c7
            have H1 : (spec_l22On.l0 k1 l0 a1 a2 (wrap64 (x7_1 + 1))) = some r := by rw [if_neg (show ¬ (false = true) by decide)] at H; exact H
            clear H
            have H := H1
            clear H1
            have H' := Aside0.mk H
            clear H
            have p154 : 0 ≤ (x7_1 : Int) := of_decide_eq_true asmB
            have q154 : x7_1 < (l0.length : Int) := of_decide_eq_true asmB
            obtain ⟨ad154, e154, hx154_0, hx154_1, hx154_2, hx154_3, hx154_4, hx154_5⟩ := at_T26 HR0.out x7_1 p154 q154
            cases e154
            replace hx154_0 := bx HB.out hx154_0
            replace hx154_1 := bx HB.out hx154_1
            replace hx154_2 := bx HB.out hx154_2
            replace hx154_3 := bx HB.out hx154_3
            replace hx154_4 := bx HB.out hx154_4
            replace hx154_5 := bx HB.out hx154_5
            replace p154 := eq_true p154
            replace q154 := eq_true q154
            go_wp2_with (first | ((with_reducible refine gate_dst (N := 8) rfl ?_); refine box_event ?hg (N := 8) ?hd (cs := #[.int .i64 0, .string (⟨#[]⟩ : ByteArray), .int .i64 0, .int .i64 0, .int .i64 0, .int .i64 0]) (t := 26) ?hr ?_; (case hd => rfl); (case hg => rfl); (case hr => first | (go_simp; done) | (go_simp; rfl)); intro gb155 hg w23 hbox hb; have n0_ := Aside0.mk (below_step (upB HB.out) hb); have n1_ := Aside0.mk (hbox); have n2_ := Aside0.mk ((by rw [hg]; exact (below_size (upB HB.out)) : w.heap.size ≤ gb155)); have n3_ := Aside0.mk ((by rw [hg]; exact (below_size (upB HB.out)) : w.heap.size ≤ gb155)); clear HB; have HB := n0_; have BK155 := n1_; have GW155 := n2_; have GE155 := n3_; clear n0_ n1_ n2_ n3_; clear hb hbox hg; have hcz24_0 := ci BK155.out 0 0 rfl; have hcz24_1 : w23.cell? ⟨gb155, 1, none⟩ = some (.string (⟨#[]⟩ : ByteArray)) := (blk_cell BK155.out 1).trans rfl; have hcz24_2 := ci BK155.out 2 0 rfl; have hcz24_3 := ci BK155.out 3 0 rfl; have hcz24_4 := ci BK155.out 4 0 rfl; have hcz24_5 := ci BK155.out 5 0 rfl; have hfz24_0 := fun j_ : Nat => blk_frozen BK155.out j_) | ((with_reducible refine gate_callee (f := 70) rfl ?_); refine goesL_ (some 20) rfl rfl Tryd.func70 (by kernel_rfl) rfl #[.agg #[.int .i64 ((rd_T26 l0 x7_1).f0), .string ((rd_T26 l0 x7_1).f1), .int .i64 ((rd_T26 l0 x7_1).f2), .int .i64 ((rd_T26 l0 x7_1).f3), .int .i64 ((rd_T26 l0 x7_1).f4), .int .i64 ((rd_T26 l0 x7_1).f5)]] rfl argsB ?_; (with_reducible refine (spec_l22Holds.calls ((rd_T26 l0 x7_1).f0) ((rd_T26 l0 x7_1).f1) ((rd_T26 l0 x7_1).f2) ((rd_T26 l0 x7_1).f3) ((rd_T26 l0 x7_1).f4) ((rd_T26 l0 x7_1).f5) false _ A6.out).mono ?_); rintro e w25 ⟨rfl, hb⟩; refine ⟨_, rfl, ?_⟩; have n0_ := Aside0.mk (blk_below (g := gb155) (o := .cells #[.int .i64 ((rd_T26 l0 x7_1).f0), .string ((rd_T26 l0 x7_1).f1), .int .i64 ((rd_T26 l0 x7_1).f2), .int .i64 ((rd_T26 l0 x7_1).f3), .int .i64 ((rd_T26 l0 x7_1).f4), .int .i64 ((rd_T26 l0 x7_1).f5)] 26 (0, 0)) (by (with_reducible repeat (first | refine blk_drewN ?_ _ | refine blk_drew ?_ | refine blk_alloc ?_ _)); refine blk_put (cs := #[.int .i64 ((rd_T26 l0 x7_1).f0), .string ((rd_T26 l0 x7_1).f1), .int .i64 ((rd_T26 l0 x7_1).f2), .int .i64 ((rd_T26 l0 x7_1).f3), .int .i64 ((rd_T26 l0 x7_1).f4), .int .i64 0]) ?_ 5 _ rfl; (with_reducible repeat (first | refine blk_drewN ?_ _ | refine blk_drew ?_ | refine blk_alloc ?_ _)); refine blk_put (cs := #[.int .i64 ((rd_T26 l0 x7_1).f0), .string ((rd_T26 l0 x7_1).f1), .int .i64 ((rd_T26 l0 x7_1).f2), .int .i64 ((rd_T26 l0 x7_1).f3), .int .i64 0, .int .i64 0]) ?_ 4 _ rfl; (with_reducible repeat (first | refine blk_drewN ?_ _ | refine blk_drew ?_ | refine blk_alloc ?_ _)); refine blk_put (cs := #[.int .i64 ((rd_T26 l0 x7_1).f0), .string ((rd_T26 l0 x7_1).f1), .int .i64 ((rd_T26 l0 x7_1).f2), .int .i64 0, .int .i64 0, .int .i64 0]) ?_ 3 _ rfl; (with_reducible repeat (first | refine blk_drewN ?_ _ | refine blk_drew ?_ | refine blk_alloc ?_ _)); refine blk_put (cs := #[.int .i64 ((rd_T26 l0 x7_1).f0), .string ((rd_T26 l0 x7_1).f1), .int .i64 0, .int .i64 0, .int .i64 0, .int .i64 0]) ?_ 2 _ rfl; (with_reducible repeat (first | refine blk_drewN ?_ _ | refine blk_drew ?_ | refine blk_alloc ?_ _)); refine blk_put (cs := #[.int .i64 ((rd_T26 l0 x7_1).f0), .string (⟨#[]⟩ : ByteArray), .int .i64 0, .int .i64 0, .int .i64 0, .int .i64 0]) ?_ 1 _ rfl; (with_reducible repeat (first | refine blk_drewN ?_ _ | refine blk_drew ?_ | refine blk_alloc ?_ _)); refine blk_put (cs := #[.int .i64 0, .string (⟨#[]⟩ : ByteArray), .int .i64 0, .int .i64 0, .int .i64 0, .int .i64 0]) ?_ 0 _ rfl; (with_reducible repeat (first | refine blk_drewN ?_ _ | refine blk_drew ?_ | refine blk_alloc ?_ _)); exact BK155.out) hb); have n1_ := Aside0.mk (below_step (upB1 HB.out GE155.out) hb); clear BK155; clear HB; have BK155 := n0_; have HB := n1_; clear n0_ n1_; (try clear hb)))
            go_roundg k1
            case measure => have := HK1.out; omega
            case rel => exact ⟨(wrap64 (x7_1 + 1)), (by first | rfl | (simp; done) | (simp [*]; done)), H', ⟨by have := HK1.out; omega⟩, ⟨(upB1 HB.out GE155.out)⟩⟩
        · rw [if_neg c5] at H
          exact absurd H (by simp)
      · rw [if_neg c4] at H
        have c4b0 : decide (x7_1 < (l0.length : Int)) = false := decide_eq_false c4
        clear c4
        obtain rfl := Option.some.inj H
        go_wp2
        go_ret
        exact ⟨by first | rfl | (simp [errW_none, errW_some] <;> rfl) | (simp [*, errW_none, errW_some] <;> rfl), (upB HB.out)⟩

/-! ### spec_FreeDays: function 37 -/
mutual
def spec_FreeDays.j0 : Nat → List (S26) → ByteArray → Int → Int → List (List Int) → Bool → Option ((List (List Int)) × Bool)
  | 0, _, _, _, _, _, _ => none
  | k + 1, x0, x1, x2, x3, x10, x32 => if x32 = true then (some (x10, false)) else (spec_FreeDays.l0 k x0 x1 x3 x10 x2)
def spec_FreeDays.l0 : Nat → List (S26) → ByteArray → Int → List (List Int) → Int → Option ((List (List Int)) × Bool)
  | 0, _, _, _, _, _ => none
  | k + 1, x0, x1, x3, x10, x11 => if x11 ≤ x3 then ((spec_l22On.f k x0 x1 x11).bind fun t165 => (if t165 ≥ 0 then (spec_FreeDays.l0 k x0 x1 x3 x10 (wrap64 (x11 + 1))) else (if (x10.length : Int) > 0 then (if 0 ≤ (wrap64 ((x10.length : Int) - 1)) then (if (wrap64 ((x10.length : Int) - 1)) < (x10.length : Int) then (if 1 < ((rd_L5 x10 (wrap64 ((x10.length : Int) - 1))).length : Int) then (if (rd (rd_L5 x10 (wrap64 ((x10.length : Int) - 1))) 1) = (wrap64 (x11 - 1)) then (if 0 < ((rd_L5 x10 (wrap64 ((x10.length : Int) - 1))).length : Int) then (spec_FreeDays.l0 k x0 x1 x3 (x10.set ((wrap64 ((x10.length : Int) - 1)) : Int).toNat (([rd (rd_L5 x10 (wrap64 ((x10.length : Int) - 1))) 0, x11] : List Int))) (wrap64 (x11 + 1))) else (none)) else (if x10.length < 5864062014805 then (spec_FreeDays.l0 k x0 x1 x3 (x10 ++ [(([x11, x11] : List Int))]) (wrap64 (x11 + 1))) else (none))) else (none)) else (none)) else (none)) else (if x10.length < 5864062014805 then (spec_FreeDays.l0 k x0 x1 x3 (x10 ++ [(([x11, x11] : List Int))]) (wrap64 (x11 + 1))) else (none))))) else (some (x10, true))
end
def spec_FreeDays.f (k : Nat) (l0 : List (S26)) (a1 : ByteArray) (a2 : Int) (a3 : Int) : Option ((List (List Int)) × Bool) := (some (([] : List (List Int)) : List (List Int))).bind fun y158 => ((spec_l22Good.f k l0).bind fun t161 => (if t161 = true then ((spec_l2Word.f k a1).bind fun t162 => (if t162 = true then ((spec_l22Day.f a2).bind fun t163 => (if t163 = true then ((spec_l1In.f a3 a2 999).bind fun t164 => (spec_FreeDays.j0 k l0 a1 a2 a3 y158 (!t164))) else (spec_FreeDays.j0 k l0 a1 a2 a3 y158 true))) else (spec_FreeDays.j0 k l0 a1 a2 a3 y158 true))) else (spec_FreeDays.j0 k l0 a1 a2 a3 y158 true)))
theorem spec_FreeDays.mono_l : ∀ k, (∀ y0 y1 y2 y3 y4 y5, LeO (spec_FreeDays.j0 k y0 y1 y2 y3 y4 y5) (spec_FreeDays.j0 (k + 1) y0 y1 y2 y3 y4 y5)) ∧ (∀ y0 y1 y2 y3 y4, LeO (spec_FreeDays.l0 k y0 y1 y2 y3 y4) (spec_FreeDays.l0 (k + 1) y0 y1 y2 y3 y4))
  | 0 => ⟨fun _ _ _ _ _ _ r h => by simp [spec_FreeDays.j0] at h, fun _ _ _ _ _ r h => by simp [spec_FreeDays.l0] at h⟩
  | k + 1 => by
    obtain ⟨ih0, ih1⟩ := spec_FreeDays.mono_l k
    refine ⟨?_, ?_⟩
    · intro y0 y1 y2 y3 y4 y5
      unfold spec_FreeDays.j0
      repeat' first
      | (with_reducible exact ih0 _ _ _ _ _ _)
      | (with_reducible exact ih1 _ _ _ _ _)
      | (with_reducible exact spec_l22Good.mono _ _)
      | (with_reducible exact spec_l22On.mono _ _ _ _)
      | (with_reducible exact spec_l2Word.mono _ _)
      | (with_reducible exact LeO.refl _)
      | (with_reducible exact LeO.none _)
      | (with_reducible refine LeO.ite ?_ ?_)
      | (with_reducible refine LeO.bind ?_ (fun _ => ?_))
      | exact ih0 _ _ _ _ _ _
      | exact ih1 _ _ _ _ _
      | exact spec_l22Good.mono _ _
      | exact spec_l22On.mono _ _ _ _
      | exact spec_l2Word.mono _ _
      | exact LeO.none _
      | refine LeO.ite ?_ ?_
      | refine LeO.bind ?_ (fun _ => ?_)
    · intro y0 y1 y2 y3 y4
      unfold spec_FreeDays.l0
      repeat' first
      | (with_reducible exact ih0 _ _ _ _ _ _)
      | (with_reducible exact ih1 _ _ _ _ _)
      | (with_reducible exact spec_l22Good.mono _ _)
      | (with_reducible exact spec_l22On.mono _ _ _ _)
      | (with_reducible exact spec_l2Word.mono _ _)
      | (with_reducible exact LeO.refl _)
      | (with_reducible exact LeO.none _)
      | (with_reducible refine LeO.ite ?_ ?_)
      | (with_reducible refine LeO.bind ?_ (fun _ => ?_))
      | exact ih0 _ _ _ _ _ _
      | exact ih1 _ _ _ _ _
      | exact spec_l22Good.mono _ _
      | exact spec_l22On.mono _ _ _ _
      | exact spec_l2Word.mono _ _
      | exact LeO.none _
      | refine LeO.ite ?_ ?_
      | refine LeO.bind ?_ (fun _ => ?_)
theorem spec_FreeDays.mono : ∀ a0 a1 a2 a3 k, LeO (spec_FreeDays.f k a0 a1 a2 a3) (spec_FreeDays.f (k + 1) a0 a1 a2 a3) := by
  intro a0 a1 a2 a3 k
  obtain ⟨ih0, ih1⟩ := spec_FreeDays.mono_l k
  unfold spec_FreeDays.f
  repeat' first
      | (with_reducible exact ih0 _ _ _ _ _ _)
      | (with_reducible exact ih1 _ _ _ _ _)
      | (with_reducible exact spec_l22Good.mono _ _)
      | (with_reducible exact spec_l22On.mono _ _ _ _)
      | (with_reducible exact spec_l2Word.mono _ _)
      | (with_reducible exact LeO.refl _)
      | (with_reducible exact LeO.none _)
      | (with_reducible refine LeO.ite ?_ ?_)
      | (with_reducible refine LeO.bind ?_ (fun _ => ?_))
      | exact ih0 _ _ _ _ _ _
      | exact ih1 _ _ _ _ _
      | exact spec_l22Good.mono _ _
      | exact spec_l22On.mono _ _ _ _
      | exact spec_l2Word.mono _ _
      | exact LeO.none _
      | refine LeO.ite ?_ ?_
      | refine LeO.bind ?_ (fun _ => ?_)
set_option maxHeartbeats 8000000 in
set_option maxRecDepth 100000 in
theorem spec_FreeDays.calls (k : Nat) (A0 : Option Addr) (c0 : Nat) (l0 : List (S26)) (a1 : ByteArray) (a2 : Int) (a3 : Int) (r1 : List (List Int)) (r2 : Bool) (w : World) (hr0 : Kd.C k26 w A0 l0.length l0) (hc0 : l0.length ≤ c0) (h : spec_FreeDays.f k l0 a1 a2 a3 = some (r1, r2)) :
    Calls Tryd.prog 37 #[.slice A0 l0.length c0, .string a1, .int .i64 a2, .int .i64 a3] w fun e w' => ∃ v0_ : Value, e = .returned (.tuple #[v0_, .bool r2]) ∧ Kd.S (Kd.slice 3 (Kd.int .i64)) 68 w' w.heap.size (fun _ => True) v0_ r1 ∧ Below w.heap.size w w' := by
  have HR0 := Aside0.mk hr0
  have HC0 := Aside0.mk hc0
  clear hr0 hc0
  have HB := Aside0.mk (Below.refl w.heap.size w)
  have H : ((some (([] : List (List Int)) : List (List Int))).bind fun y158 => ((spec_l22Good.f k l0).bind fun t161 => (if t161 = true then ((spec_l2Word.f k a1).bind fun t162 => (if t162 = true then ((spec_l22Day.f a2).bind fun t163 => (if t163 = true then ((spec_l1In.f a3 a2 999).bind fun t164 => (spec_FreeDays.j0 k l0 a1 a2 a3 y158 (!t164))) else (spec_FreeDays.j0 k l0 a1 a2 a3 y158 true))) else (spec_FreeDays.j0 k l0 a1 a2 a3 y158 true))) else (spec_FreeDays.j0 k l0 a1 a2 a3 y158 true)))) = some (r1, r2) := h
  clear h
  obtain ⟨y158, hy158⟩ : ∃ y_ : List (List Int), y_ = (([] : List (List Int))) := ⟨_, rfl⟩
  replace H : ((spec_l22Good.f k l0).bind fun t161 => (if t161 = true then ((spec_l2Word.f k a1).bind fun t162 => (if t162 = true then ((spec_l22Day.f a2).bind fun t163 => (if t163 = true then ((spec_l1In.f a3 a2 999).bind fun t164 => (spec_FreeDays.j0 k l0 a1 a2 a3 y158 (!t164))) else (spec_FreeDays.j0 k l0 a1 a2 a3 y158 true))) else (spec_FreeDays.j0 k l0 a1 a2 a3 y158 true))) else (spec_FreeDays.j0 k l0 a1 a2 a3 y158 true))) = some (r1, r2) := by first | (rw [hy158]; with_reducible exact H) | (have H2_ := (Option.bind_some _ _).symm.trans H; rw [hy158]; with_reducible exact H2_) | (have H2_ := (Option.bind_some _ _).symm.trans H; with_reducible exact H2_) | with_reducible exact H | (rw [hy158]; exact H) | exact H
  have Ny158 := Aside0.mk hy158
  clear hy158
  have HC5 := Aside0.mk H
  clear H
  go_enter Tryd.func37, Tryd.ntmps37
  go_upto_region 2 with (first | ((with_reducible refine gate_dst (N := 13) rfl ?_); refine Kd.S_lit (Kd.slice 3 (Kd.int .i64)) _ 68 ?hg (N := 13) ?hd (xs := ([] : List (List Int))) (inner := []) (ok := fun _ => True) (okp := fun _ => True) ?hr ?hp (fun _ hk => hk) trivial (Below.refl _ _) (Nat.le_refl _) (by simp) ?_; (case hd => rfl); (case hg => rfl); (case hr => first | (go_simp; done) | (go_simp; rfl)); (case hp => exact (Reps.none _ _)); intro v159 w6 ho7 hb hg_ hnew_; clear hg_ hnew_; (first | rw [← Ny158.out] at ho7 | (simp only [Int.reduceToNat] at ho7; rw [← Ny158.out] at ho7)); have n0_ := Aside0.mk (Kd.S_lower ho7 (below_size (upB HB.out))); have n1_ := Aside0.mk (below_step (upB HB.out) hb); clear HB; have HO160 := n0_; have HB := n1_; clear n0_ n1_; clear hb ho7))
  (try simp only [Act.put, List.setIfInBounds_toArray, List.set_cons_zero, List.set_cons_succ])
  go_cut [32] (fun v32 wc => ∃ (kq : Nat) (x32_4 : Bool), v32 = .bool x32_4 ∧ Aside0 (spec_FreeDays.j0 kq l0 a1 a2 a3 y158 x32_4 = some (r1, r2)) ∧ Aside0 (kq ≤ k) ∧ Aside0 (Kd.S (Kd.slice 3 (Kd.int .i64)) 68 wc w.heap.size (fun _ => True) v159 y158) ∧ Aside0 (Below w.heap.size w wc))
  case first =>
    have H := HC5.out
    clear HC5
    replace H := Option.bind_eq_some_iff.mp H
    obtain ⟨t161, A80, H⟩ := H
    replace H : (if t161 = true then ((spec_l2Word.f k a1).bind fun t162 => (if t162 = true then ((spec_l22Day.f a2).bind fun t163 => (if t163 = true then ((spec_l1In.f a3 a2 999).bind fun t164 => (spec_FreeDays.j0 k l0 a1 a2 a3 y158 (!t164))) else (spec_FreeDays.j0 k l0 a1 a2 a3 y158 true))) else (spec_FreeDays.j0 k l0 a1 a2 a3 y158 true))) else (spec_FreeDays.j0 k l0 a1 a2 a3 y158 true)) = some (r1, r2) := H
    have A8 := Aside0.mk A80
    clear A80
    by_cases c9 : t161 = true
    · subst c9
      have H1 : ((spec_l2Word.f k a1).bind fun t162 => (if t162 = true then ((spec_l22Day.f a2).bind fun t163 => (if t163 = true then ((spec_l1In.f a3 a2 999).bind fun t164 => (spec_FreeDays.j0 k l0 a1 a2 a3 y158 (!t164))) else (spec_FreeDays.j0 k l0 a1 a2 a3 y158 true))) else (spec_FreeDays.j0 k l0 a1 a2 a3 y158 true))) = some (r1, r2) := by rw [if_pos rfl] at H; exact H
      clear H
      have H := H1
      clear H1
      replace H := Option.bind_eq_some_iff.mp H
      obtain ⟨t162, A100, H⟩ := H
      replace H : (if t162 = true then ((spec_l22Day.f a2).bind fun t163 => (if t163 = true then ((spec_l1In.f a3 a2 999).bind fun t164 => (spec_FreeDays.j0 k l0 a1 a2 a3 y158 (!t164))) else (spec_FreeDays.j0 k l0 a1 a2 a3 y158 true))) else (spec_FreeDays.j0 k l0 a1 a2 a3 y158 true)) = some (r1, r2) := H
      have A10 := Aside0.mk A100
      clear A100
      by_cases c11 : t162 = true
      · subst c11
        have H1 : ((spec_l22Day.f a2).bind fun t163 => (if t163 = true then ((spec_l1In.f a3 a2 999).bind fun t164 => (spec_FreeDays.j0 k l0 a1 a2 a3 y158 (!t164))) else (spec_FreeDays.j0 k l0 a1 a2 a3 y158 true))) = some (r1, r2) := by rw [if_pos rfl] at H; exact H
        clear H
        have H := H1
        clear H1
        replace H := Option.bind_eq_some_iff.mp H
        obtain ⟨t163, A120, H⟩ := H
        replace H : (if t163 = true then ((spec_l1In.f a3 a2 999).bind fun t164 => (spec_FreeDays.j0 k l0 a1 a2 a3 y158 (!t164))) else (spec_FreeDays.j0 k l0 a1 a2 a3 y158 true)) = some (r1, r2) := H
        have A12 := Aside0.mk A120
        clear A120
        by_cases c13 : t163 = true
        · subst c13
          have H1 : ((spec_l1In.f a3 a2 999).bind fun t164 => (spec_FreeDays.j0 k l0 a1 a2 a3 y158 (!t164))) = some (r1, r2) := by rw [if_pos rfl] at H; exact H
          clear H
          have H := H1
          clear H1
          replace H := Option.bind_eq_some_iff.mp H
          obtain ⟨t164, A140, H⟩ := H
          replace H : (spec_FreeDays.j0 k l0 a1 a2 a3 y158 (!t164)) = some (r1, r2) := H
          have A14 := Aside0.mk A140
          clear A140
          have H' := Aside0.mk H
          clear H
          go_wp2_with (first | ((with_reducible refine gate_callee (f := 58) rfl ?_); refine goesL_ (some 15) rfl rfl Tryd.func58 (by kernel_rfl) rfl #[.slice A0 l0.length c0] rfl argsB ?_; (with_reducible refine (spec_l22Good.calls k _ _ l0 true _ ?side1 ?side2 A8.out).mono ?_); (case side1 => repeat (first | exact (Kd.C_below HR0.out HB.out) | (with_reducible refine Kd.C_alloc ?_ _) | (with_reducible refine Kd.C_drewN ?_ _) | (with_reducible refine Kd.C_drew ?_))); (case side2 => exact HC0.out); rintro e w15 ⟨rfl, hb⟩; refine ⟨_, rfl, ?_⟩; have n0_ := Aside0.mk (Kd.S_below (by (with_reducible repeat (first | apply Kd.S_alloc | apply Kd.S_drewN | apply Kd.S_drew)); exact HO160.out) hb); have n1_ := Aside0.mk (below_step (upB HB.out) hb); clear HO160; clear HB; have HO160 := n0_; have HB := n1_; clear n0_ n1_; (try clear hb); (try clear hk)) | (go_at_call 66; (with_reducible refine (spec_l2Word.calls k a1 true _ A10.out).mono ?_); rintro e w' ⟨rfl, ⟨nd, rfl⟩⟩) | (go_at_call 63; (with_reducible refine (spec_l22Day.calls a2 true _ A12.out).mono ?_); rintro e w' ⟨rfl, ⟨nd, rfl⟩⟩) | (go_at_call 67; (with_reducible refine (spec_l1In.calls a3 a2 999 t164 _ A14.out).mono ?_); rintro e w' ⟨rfl, ⟨nd, rfl⟩⟩))
          go_meet
          case rel => exact ⟨_, (!t164), (by first | rfl | (simp; done) | (simp [*]; done)), H', ⟨by first | omega | exact Nat.le_refl _⟩, ⟨by (with_reducible repeat (first | apply Kd.S_alloc | apply Kd.S_drewN | apply Kd.S_drew)); exact HO160.out⟩, ⟨(upB HB.out)⟩⟩
        · replace c13 := Bool.eq_false_iff.mpr c13
          subst c13
          have H1 : (spec_FreeDays.j0 k l0 a1 a2 a3 y158 true) = some (r1, r2) := by rw [if_neg (show ¬ (false = true) by decide)] at H; exact H
          clear H
          have H := H1
          clear H1
          have H' := Aside0.mk H
          clear H
          go_wp2_with (first | ((with_reducible refine gate_callee (f := 58) rfl ?_); refine goesL_ (some 15) rfl rfl Tryd.func58 (by kernel_rfl) rfl #[.slice A0 l0.length c0] rfl argsB ?_; (with_reducible refine (spec_l22Good.calls k _ _ l0 true _ ?side1 ?side2 A8.out).mono ?_); (case side1 => repeat (first | exact (Kd.C_below HR0.out HB.out) | (with_reducible refine Kd.C_alloc ?_ _) | (with_reducible refine Kd.C_drewN ?_ _) | (with_reducible refine Kd.C_drew ?_))); (case side2 => exact HC0.out); rintro e w16 ⟨rfl, hb⟩; refine ⟨_, rfl, ?_⟩; have n0_ := Aside0.mk (Kd.S_below (by (with_reducible repeat (first | apply Kd.S_alloc | apply Kd.S_drewN | apply Kd.S_drew)); exact HO160.out) hb); have n1_ := Aside0.mk (below_step (upB HB.out) hb); clear HO160; clear HB; have HO160 := n0_; have HB := n1_; clear n0_ n1_; (try clear hb); (try clear hk)) | (go_at_call 66; (with_reducible refine (spec_l2Word.calls k a1 true _ A10.out).mono ?_); rintro e w' ⟨rfl, ⟨nd, rfl⟩⟩) | (go_at_call 63; (with_reducible refine (spec_l22Day.calls a2 false _ A12.out).mono ?_); rintro e w' ⟨rfl, ⟨nd, rfl⟩⟩))
          go_meet
          case rel => exact ⟨_, (true), (by first | rfl | (simp; done) | (simp [*]; done)), H', ⟨by first | omega | exact Nat.le_refl _⟩, ⟨by (with_reducible repeat (first | apply Kd.S_alloc | apply Kd.S_drewN | apply Kd.S_drew)); exact HO160.out⟩, ⟨(upB HB.out)⟩⟩
      · replace c11 := Bool.eq_false_iff.mpr c11
        subst c11
        have H1 : (spec_FreeDays.j0 k l0 a1 a2 a3 y158 true) = some (r1, r2) := by rw [if_neg (show ¬ (false = true) by decide)] at H; exact H
        clear H
        have H := H1
        clear H1
        have H' := Aside0.mk H
        clear H
        go_wp2_with (first | ((with_reducible refine gate_callee (f := 58) rfl ?_); refine goesL_ (some 15) rfl rfl Tryd.func58 (by kernel_rfl) rfl #[.slice A0 l0.length c0] rfl argsB ?_; (with_reducible refine (spec_l22Good.calls k _ _ l0 true _ ?side1 ?side2 A8.out).mono ?_); (case side1 => repeat (first | exact (Kd.C_below HR0.out HB.out) | (with_reducible refine Kd.C_alloc ?_ _) | (with_reducible refine Kd.C_drewN ?_ _) | (with_reducible refine Kd.C_drew ?_))); (case side2 => exact HC0.out); rintro e w17 ⟨rfl, hb⟩; refine ⟨_, rfl, ?_⟩; have n0_ := Aside0.mk (Kd.S_below (by (with_reducible repeat (first | apply Kd.S_alloc | apply Kd.S_drewN | apply Kd.S_drew)); exact HO160.out) hb); have n1_ := Aside0.mk (below_step (upB HB.out) hb); clear HO160; clear HB; have HO160 := n0_; have HB := n1_; clear n0_ n1_; (try clear hb); (try clear hk)) | (go_at_call 66; (with_reducible refine (spec_l2Word.calls k a1 false _ A10.out).mono ?_); rintro e w' ⟨rfl, ⟨nd, rfl⟩⟩))
        go_meet
        case rel => exact ⟨_, (true), (by first | rfl | (simp; done) | (simp [*]; done)), H', ⟨by first | omega | exact Nat.le_refl _⟩, ⟨by (with_reducible repeat (first | apply Kd.S_alloc | apply Kd.S_drewN | apply Kd.S_drew)); exact HO160.out⟩, ⟨(upB HB.out)⟩⟩
    · replace c9 := Bool.eq_false_iff.mpr c9
      subst c9
      have H1 : (spec_FreeDays.j0 k l0 a1 a2 a3 y158 true) = some (r1, r2) := by rw [if_neg (show ¬ (false = true) by decide)] at H; exact H
      clear H
      have H := H1
      clear H1
      have H' := Aside0.mk H
      clear H
      go_wp2_with (first | ((with_reducible refine gate_callee (f := 58) rfl ?_); refine goesL_ (some 15) rfl rfl Tryd.func58 (by kernel_rfl) rfl #[.slice A0 l0.length c0] rfl argsB ?_; (with_reducible refine (spec_l22Good.calls k _ _ l0 false _ ?side1 ?side2 A8.out).mono ?_); (case side1 => repeat (first | exact (Kd.C_below HR0.out HB.out) | (with_reducible refine Kd.C_alloc ?_ _) | (with_reducible refine Kd.C_drewN ?_ _) | (with_reducible refine Kd.C_drew ?_))); (case side2 => exact HC0.out); rintro e w18 ⟨rfl, hb⟩; refine ⟨_, rfl, ?_⟩; have n0_ := Aside0.mk (Kd.S_below (by (with_reducible repeat (first | apply Kd.S_alloc | apply Kd.S_drewN | apply Kd.S_drew)); exact HO160.out) hb); have n1_ := Aside0.mk (below_step (upB HB.out) hb); clear HO160; clear HB; have HO160 := n0_; have HB := n1_; clear n0_ n1_; (try clear hb); (try clear hk)))
      go_meet
      case rel => exact ⟨_, (true), (by first | rfl | (simp; done) | (simp [*]; done)), H', ⟨by first | omega | exact Nat.le_refl _⟩, ⟨by (with_reducible repeat (first | apply Kd.S_alloc | apply Kd.S_drewN | apply Kd.S_drew)); exact HO160.out⟩, ⟨(upB HB.out)⟩⟩
  case rest =>
    clear HC5
    try clear c9
    try clear c11
    try clear c13
    obtain ⟨kq, x32_4, rfl, HA, HJ4, HO_10, HB⟩ := hcut
    cases kq with
    | zero => exact absurd HA.out (by simp [spec_FreeDays.j0])
    | succ kj4 =>
      have H := HA.out
      clear HA
      simp only [spec_FreeDays.j0] at H
      by_cases c19 : x32_4 = true
      · subst c19
        have H1 : (some (y158, false)) = some (r1, r2) := by rw [if_pos rfl] at H; exact H
        clear H
        have H := H1
        clear H1
        simp only [Option.some.injEq, Prod.mk.injEq] at H
        obtain ⟨rfl, rfl⟩ := H
        go_wp2
        go_ret2
        exact ⟨_, by first | rfl | (simp [errW_none, errW_some] <;> rfl) | (simp [*, errW_none, errW_some] <;> rfl), by (with_reducible repeat (first | apply Kd.S_alloc | apply Kd.S_drewN | apply Kd.S_drew)); exact HO_10.out, (upB HB.out)⟩
      · replace c19 := Bool.eq_false_iff.mpr c19
        subst c19
        have H1 : (spec_FreeDays.l0 kj4 l0 a1 a3 y158 a2) = some (r1, r2) := by rw [if_neg (show ¬ (false = true) by decide)] at H; exact H
        clear H
        have H := H1
        clear H1
        have H' := Aside0.mk H
        clear H
        go_wp2
        go_loopg [10, 11] kj4 (fun kq v10 v11 w' => ∃ (x10_2 : List (List Int)) (x11_2 : Int), v11 = .int .i64 x11_2 ∧ Aside0 (spec_FreeDays.l0 kq l0 a1 a3 x10_2 x11_2 = some (r1, r2)) ∧ Aside0 (kq ≤ kj4) ∧ Aside0 (Kd.S (Kd.slice 3 (Kd.int .i64)) 68 w' w.heap.size (fun _ => True) v10 x10_2) ∧ Aside0 (Below w.heap.size w w'))
        case atStart => exact ⟨(y158), (a2), (by first | rfl | (simp; done) | (simp [*]; done)), H', ⟨Nat.le_refl _⟩, ⟨by (with_reducible repeat (first | apply Kd.S_alloc | apply Kd.S_drewN | apply Kd.S_drew)); exact HO_10.out⟩, ⟨(upB HB.out)⟩⟩
        case round =>
          clear H'
          try clear c9
          try clear c11
          try clear c13
          try clear c19
          obtain ⟨x10_2, x11_2, rfl, HA, HK2, HO_10, HB⟩ := hrel
          cases gk with
          | zero => exact absurd HA.out (by simp [spec_FreeDays.l0])
          | succ k2 =>
            have H := HA.out
            clear HA
            simp only [spec_FreeDays.l0] at H
            by_cases c20 : x11_2 ≤ a3
            · rw [if_pos c20] at H
              have c20b0 : decide (x11_2 ≤ a3) = true := decide_eq_true c20
              clear c20
              replace H := Option.bind_eq_some_iff.mp H
              obtain ⟨t165, A210, H⟩ := H
              replace H : (if t165 ≥ 0 then (spec_FreeDays.l0 k2 l0 a1 a3 x10_2 (wrap64 (x11_2 + 1))) else (if (x10_2.length : Int) > 0 then (if 0 ≤ (wrap64 ((x10_2.length : Int) - 1)) then (if (wrap64 ((x10_2.length : Int) - 1)) < (x10_2.length : Int) then (if 1 < ((rd_L5 x10_2 (wrap64 ((x10_2.length : Int) - 1))).length : Int) then (if (rd (rd_L5 x10_2 (wrap64 ((x10_2.length : Int) - 1))) 1) = (wrap64 (x11_2 - 1)) then (if 0 < ((rd_L5 x10_2 (wrap64 ((x10_2.length : Int) - 1))).length : Int) then (spec_FreeDays.l0 k2 l0 a1 a3 (x10_2.set ((wrap64 ((x10_2.length : Int) - 1)) : Int).toNat (([rd (rd_L5 x10_2 (wrap64 ((x10_2.length : Int) - 1))) 0, x11_2] : List Int))) (wrap64 (x11_2 + 1))) else (none)) else (if x10_2.length < 5864062014805 then (spec_FreeDays.l0 k2 l0 a1 a3 (x10_2 ++ [(([x11_2, x11_2] : List Int))]) (wrap64 (x11_2 + 1))) else (none))) else (none)) else (none)) else (none)) else (if x10_2.length < 5864062014805 then (spec_FreeDays.l0 k2 l0 a1 a3 (x10_2 ++ [(([x11_2, x11_2] : List Int))]) (wrap64 (x11_2 + 1))) else (none)))) = some (r1, r2) := H
              have A21 := Aside0.mk A210
              clear A210
              by_cases c22 : t165 ≥ 0
              · rw [if_pos c22] at H
                have c22b0 : decide (0 ≤ t165) = true := decide_eq_true c22
                clear c22
                have H' := Aside0.mk H
                clear H
                go_wp2_with (first | ((with_reducible refine gate_callee (f := 64) rfl ?_); refine goesL_ (some 43) rfl rfl Tryd.func64 (by kernel_rfl) rfl #[.slice A0 l0.length c0, .string a1, .int .i64 x11_2] rfl argsB ?_; (with_reducible refine (spec_l22On.calls k2 _ _ l0 a1 x11_2 t165 _ ?side1 ?side2 A21.out).mono ?_); (case side1 => repeat (first | exact (Kd.C_below HR0.out HB.out) | (with_reducible refine Kd.C_alloc ?_ _) | (with_reducible refine Kd.C_drewN ?_ _) | (with_reducible refine Kd.C_drew ?_))); (case side2 => exact HC0.out); rintro e w23 ⟨rfl, hb⟩; refine ⟨_, rfl, ?_⟩; have n0_ := Aside0.mk (Kd.S_below (by (with_reducible repeat (first | apply Kd.S_alloc | apply Kd.S_drewN | apply Kd.S_drew)); exact HO_10.out) hb); have n1_ := Aside0.mk (below_step (upB HB.out) hb); clear HO_10; clear HB; have HO_10 := n0_; have HB := n1_; clear n0_ n1_; (try clear hb); (try clear hk)))
                go_roundg k2
                case measure => have := HJ4.out; have := HK2.out; omega
                case rel => exact ⟨(x10_2), (wrap64 (x11_2 + 1)), (by first | rfl | (simp; done) | (simp [*]; done)), H', ⟨by have := HJ4.out; have := HK2.out; omega⟩, ⟨by (with_reducible repeat (first | apply Kd.S_alloc | apply Kd.S_drewN | apply Kd.S_drew)); exact HO_10.out⟩, ⟨(upB HB.out)⟩⟩
              · rw [if_neg c22] at H
                have c22b0 : decide (0 ≤ t165) = false := decide_eq_false c22
                clear c22
                by_cases c24 : (x10_2.length : Int) > 0
                · rw [if_pos c24] at H
                  have c24b0 : decide (0 < (x10_2.length : Int)) = true := decide_eq_true c24
                  have c24b1 : decide (0 < x10_2.length) = true := decide_eq_true (by omega)
                  clear c24
                  obtain ⟨ji25, hji25⟩ : ∃ j_ : Int, (wrap64 ((x10_2.length : Int) - 1)) = j_ := ⟨_, rfl⟩
                  replace H : (if 0 ≤ (ji25) then (if (ji25) < (x10_2.length : Int) then (if 1 < ((rd_L5 x10_2 (ji25)).length : Int) then (if (rd (rd_L5 x10_2 (ji25)) 1) = (wrap64 (x11_2 - 1)) then (if 0 < ((rd_L5 x10_2 (ji25)).length : Int) then (spec_FreeDays.l0 k2 l0 a1 a3 (x10_2.set ((ji25) : Int).toNat (([rd (rd_L5 x10_2 (ji25)) 0, x11_2] : List Int))) (wrap64 (x11_2 + 1))) else (none)) else (if x10_2.length < 5864062014805 then (spec_FreeDays.l0 k2 l0 a1 a3 (x10_2 ++ [(([x11_2, x11_2] : List Int))]) (wrap64 (x11_2 + 1))) else (none))) else (none)) else (none)) else (none)) = some (r1, r2) := by first | (rw [hji25] at H; exact H) | (simp only [hji25] at H ⊢; exact H)
                  (try rw [hji25] at A21)
                  have hji25w : (IntKind.i64.wrap ((x10_2.length : Int) - 1)) = ji25 := (i64_w _).trans hji25
                  by_cases c26 : 0 ≤ (ji25)
                  · rw [if_pos c26] at H
                    have c26b0 : decide (0 ≤ (ji25)) = true := decide_eq_true c26
                    clear c26
                    by_cases c27 : (ji25) < (x10_2.length : Int)
                    · rw [if_pos c27] at H
                      have c27b0 : decide ((ji25) < (x10_2.length : Int)) = true := decide_eq_true c27
                      clear c27
                      by_cases c28 : 1 < ((rd_L5 x10_2 (ji25)).length : Int)
                      · rw [if_pos c28] at H
                        have c28b0 : decide (1 < ((rd_L5 x10_2 (ji25)).length : Int)) = true := decide_eq_true c28
                        have c28b1 : decide (1 < (rd_L5 x10_2 (ji25)).length) = true := decide_eq_true (by omega)
                        clear c28
                        by_cases c29 : (rd (rd_L5 x10_2 (ji25)) 1) = (wrap64 (x11_2 - 1))
                        · rw [if_pos c29] at H
                          have c29b0 : ((rd (rd_L5 x10_2 (ji25)) 1) == (wrap64 (x11_2 - 1))) = true := beq_iff_eq.mpr c29
                          have c29b1 : ((rd (rd_L5 x10_2 (ji25)) 1) != (wrap64 (x11_2 - 1))) = false := bne_eq_false_iff_eq.mpr c29
                          clear c29
                          by_cases c30 : 0 < ((rd_L5 x10_2 (ji25)).length : Int)
                          · rw [if_pos c30] at H
                            have c30b0 : decide (0 < ((rd_L5 x10_2 (ji25)).length : Int)) = true := decide_eq_true c30
                            have c30b1 : decide (0 < (rd_L5 x10_2 (ji25)).length) = true := decide_eq_true (by omega)
                            clear c30
                            obtain ⟨y170, hy170⟩ : ∃ y_ : List Int, y_ = (([rd (rd_L5 x10_2 (ji25)) 0, x11_2] : List Int)) := ⟨_, rfl⟩
                            replace H : (spec_FreeDays.l0 k2 l0 a1 a3 (x10_2.set ((ji25) : Int).toNat y170) (wrap64 (x11_2 + 1))) = some (r1, r2) := by first | (rw [hy170]; with_reducible exact H) | (have H2_ := (Option.bind_some _ _).symm.trans H; rw [hy170]; with_reducible exact H2_) | (have H2_ := (Option.bind_some _ _).symm.trans H; with_reducible exact H2_) | with_reducible exact H | (rw [hy170]; exact H) | exact H
                            have Ny170 := Aside0.mk hy170
                            clear hy170
                            obtain ⟨y173, hy173⟩ : ∃ y_ : List (List Int), y_ = (x10_2.set ((ji25) : Int).toNat y170) := ⟨_, rfl⟩
                            replace H : (spec_FreeDays.l0 k2 l0 a1 a3 y173 (wrap64 (x11_2 + 1))) = some (r1, r2) := by first | (rw [hy173]; with_reducible exact H) | (have H2_ := (Option.bind_some _ _).symm.trans H; rw [hy173]; with_reducible exact H2_) | (have H2_ := (Option.bind_some _ _).symm.trans H; with_reducible exact H2_) | with_reducible exact H | (rw [hy173]; exact H) | exact H
                            have Ny173 := Aside0.mk hy173
                            clear hy173
                            have H' := Aside0.mk H
                            clear H
                            go_wp2_with (first | ((with_reducible refine gate_callee (f := 64) rfl ?_); refine goesL_ (some 43) rfl rfl Tryd.func64 (by kernel_rfl) rfl #[.slice A0 l0.length c0, .string a1, .int .i64 x11_2] rfl argsB ?_; (with_reducible refine (spec_l22On.calls k2 _ _ l0 a1 x11_2 t165 _ ?side1 ?side2 A21.out).mono ?_); (case side1 => repeat (first | exact (Kd.C_below HR0.out HB.out) | (with_reducible refine Kd.C_alloc ?_ _) | (with_reducible refine Kd.C_drewN ?_ _) | (with_reducible refine Kd.C_drew ?_))); (case side2 => exact HC0.out); rintro e w32 ⟨rfl, hb⟩; refine ⟨_, rfl, ?_⟩; have n0_ := Aside0.mk (Kd.S_below (by (with_reducible repeat (first | apply Kd.S_alloc | apply Kd.S_drewN | apply Kd.S_drew)); exact HO_10.out) hb); have n1_ := Aside0.mk (below_step (upB HB.out) hb); clear HO_10; clear HB; have HO_10 := n0_; have HB := n1_; clear n0_ n1_; (try clear hb); (try clear hk); obtain ⟨Ao33, co33, eo33⟩ := Kd.S_slice HO_10.out; subst eo33; have p166 : 0 ≤ ((ji25) : Int) := of_decide_eq_true asmB; have q166 : (ji25) < (x10_2.length : Int) := of_decide_eq_true asmB; obtain ⟨ad166, A166_0, c166_0, e166, hx166_0, hl166_0, hi166_0⟩ := at_L5 (Kd.S_reads' HO_10.out).2.2 (ji25) p166 q166; cases e166; obtain ⟨ce166, hce166, hMe166, hcc166⟩ := Kd.S_get HO_10.out [] (ji25) p166 (by first | exact q166 | exact of_decide_eq_true asmB | (have e_ := (Kd.S_reads' HO_10.out).1; omega)); obtain ⟨ve166_0, rfl, ge166_0⟩ := hMe166; have hv166_0 := hcc166 0 _ rfl; rw [Nat.add_zero, show ((Kd.slice 3 (Kd.int .i64))).sz = 1 from rfl, Nat.mul_one] at hv166_0; replace hv166_0 := Option.some.inj (hv166_0.symm.trans hx166_0); rw [hv166_0] at ge166_0; have HL166_0 := Aside0.mk (show Kd.R (Kd.int .i64) 3 _ _ _ _ (rd_L5 x10_2 (ji25)) from ge166_0); clear hv166_0 ge166_0; clear hcc166 hce166; have HR166_0 := Aside0.mk hi166_0; have HC166_0 := Aside0.mk hl166_0; clear hi166_0 hl166_0; replace p166 := eq_true p166; replace q166 := eq_true q166; have p167 : 0 ≤ (1 : Int) := (by omega); have q167 : 1 < ((rd_L5 x10_2 (ji25)).length : Int) := of_decide_eq_true asmB; obtain ⟨ad167, e167, hx167_0⟩ := Kd.at_int (by repeat (first | (with_reducible exact HR166_0.out) | (with_reducible refine Kd.C_alloc ?_ _) | (with_reducible refine Kd.C_drewN ?_ _) | (with_reducible refine Kd.C_drew ?_) | exact HR166_0.out)) 1 p167 q167; cases e167; (try simp only [show (1 : Int).toNat = 1 from rfl, Nat.reduceMul, Nat.reduceEqDiff, Go.Addr.add, ↓reduceIte] at hx167_0); have qi167 : (1 < (rd_L5 x10_2 (ji25)).length) = True := eq_true (by omega); (try rw [show ((1 : Int)).toNat = 1 from rfl] at hx167_0); replace p167 := eq_true p167; replace q167 := eq_true q167; have p168 : 0 ≤ ((ji25) : Int) := of_decide_eq_true asmB; have q168 : (ji25) < (x10_2.length : Int) := of_decide_eq_true asmB; obtain ⟨ad168, A168_0, c168_0, e168, hx168_0, hl168_0, hi168_0⟩ := at_L5 (Kd.S_reads' HO_10.out).2.2 (ji25) p168 q168; obtain rfl : ad166 = ad168 := (by injection e168); obtain ⟨ce168, hce168, hMe168, hcc168⟩ := Kd.S_get HO_10.out [] (ji25) p168 (by first | exact q168 | exact of_decide_eq_true asmB | (have e_ := (Kd.S_reads' HO_10.out).1; omega)); obtain ⟨ve168_0, rfl, ge168_0⟩ := hMe168; have hv168_0 := hcc168 0 _ rfl; rw [Nat.add_zero, show ((Kd.slice 3 (Kd.int .i64))).sz = 1 from rfl, Nat.mul_one] at hv168_0; replace hv168_0 := Option.some.inj (hv168_0.symm.trans hx168_0); rw [hv168_0] at ge168_0; have HL168_0 := Aside0.mk (show Kd.R (Kd.int .i64) 3 _ _ _ _ (rd_L5 x10_2 (ji25)) from ge168_0); clear hv168_0 ge168_0; clear hcc168 hce168; have HR168_0 := Aside0.mk hi168_0; have HC168_0 := Aside0.mk hl168_0; clear hi168_0 hl168_0; replace p168 := eq_true p168; replace q168 := eq_true q168; have ea_ := Option.some.inj (hx166_0.symm.trans hx168_0); injection ea_ with ea_ en_ ec_; subst ea_; subst ec_; clear en_; have p169 : 0 ≤ (0 : Int) := (by omega); have q169 : 0 < ((rd_L5 x10_2 (ji25)).length : Int) := of_decide_eq_true asmB; obtain ⟨ad169, e169, hx169_0⟩ := Kd.at_int (by repeat (first | (with_reducible exact HR168_0.out) | (with_reducible refine Kd.C_alloc ?_ _) | (with_reducible refine Kd.C_drewN ?_ _) | (with_reducible refine Kd.C_drew ?_) | exact HR168_0.out)) 0 p169 q169; cases e169; have qi169 : (0 < (rd_L5 x10_2 (ji25)).length) = True := eq_true (by omega); (try rw [show ((0 : Int)).toNat = 0 from rfl] at hx169_0); (try rw [Addr.add_zero'] at hx169_0); replace p169 := eq_true p169; replace q169 := eq_true q169) | ((with_reducible refine gate_dst (N := 72) rfl ?_); refine Kd.R_lit (Kd.int .i64) _ 3 ?hg (N := 72) ?hd (xs := ([rd (rd_L5 x10_2 (ji25)) 0, x11_2] : List Int)) (inner := [.int .i64 (rd (rd_L5 x10_2 (ji25)) 0), .int .i64 x11_2]) (ok := fun _ => True) (okp := fun _ => True) ?hr ?hp (fun _ hk => hk) trivial (Below.refl _ _) (Nat.le_refl _) (by simp) ?_; (case hd => rfl); (case hg => rfl); (case hr => first | (go_simp; done) | (go_simp; rfl)); (case hp => exact (Reps.one (show Kd.M (Kd.int .i64) _ _ _ (rd (rd_L5 x10_2 (ji25)) 0) [.int .i64 (rd (rd_L5 x10_2 (ji25)) 0)] from rfl) (Reps.one (show Kd.M (Kd.int .i64) _ _ _ x11_2 [.int .i64 x11_2] from rfl) (Reps.none _ _)))); intro v171 w34 ho35 hb hg_ hnew_; clear hg_ hnew_; (first | rw [← Ny170.out] at ho35 | (simp only [Int.reduceToNat] at ho35; rw [← Ny170.out] at ho35)); have n0_ := Aside0.mk (Kd.S_elder' (by (with_reducible repeat (first | apply Kd.S_alloc | apply Kd.S_drewN | apply Kd.S_drew)); exact HO_10.out) (Kd.R_base ho35) hb); have n1_ := Aside0.mk (Kd.R_elder' (by (with_reducible repeat (first | apply Kd.R_alloc | apply Kd.R_drewN | apply Kd.R_drew)); exact HL166_0.out) (Kd.R_base ho35) hb); have n2_ := Aside0.mk (Kd.R_elder' (by (with_reducible repeat (first | apply Kd.R_alloc | apply Kd.R_drewN | apply Kd.R_drew)); exact HL168_0.out) (Kd.R_base ho35) hb); have n3_ := Aside0.mk (Kd.R_lower (Kd.R_new' (Kd.R_new' ho35 (Kd.R_lt (by (with_reducible repeat (first | apply Kd.R_alloc | apply Kd.R_drewN | apply Kd.R_drew)); exact HL166_0.out))) (Kd.R_lt (by (with_reducible repeat (first | apply Kd.R_alloc | apply Kd.R_drewN | apply Kd.R_drew)); exact HL168_0.out))) (below_size (upB HB.out))); have n4_ := Aside0.mk (Kd.C_below (by repeat (first | (with_reducible exact HR166_0.out) | (with_reducible refine Kd.C_alloc ?_ _) | (with_reducible refine Kd.C_drewN ?_ _) | (with_reducible refine Kd.C_drew ?_) | exact HR166_0.out)) hb); have n5_ := Aside0.mk (Kd.C_below (by repeat (first | (with_reducible exact HR168_0.out) | (with_reducible refine Kd.C_alloc ?_ _) | (with_reducible refine Kd.C_drewN ?_ _) | (with_reducible refine Kd.C_drew ?_) | exact HR168_0.out)) hb); have n6_ := Aside0.mk (below_step (upB HB.out) hb); clear HO_10; clear HL166_0; clear HL168_0; clear HR166_0; clear HR168_0; clear HB; have HO_10 := n0_; have HL166_0 := n1_; have HL168_0 := n2_; have HO172 := n3_; have HR166_0 := n4_; have HR168_0 := n5_; have HB := n6_; clear n0_ n1_ n2_ n3_ n4_ n5_ n6_; clear hb ho35; have p31 : 0 ≤ ((ji25) : Int) := of_decide_eq_true asmB; have q31 : ((ji25) : Int) < ((x10_2.length : Int) : Int) := of_decide_eq_true asmB; obtain ⟨go31, co31, eo31, gb31, gl31, cl31, HG31⟩ := Kd.S_form HO_10.out (by omega); (first | cases eo31 | (injection eo31 with ea_ en_ ec_; (first | subst ea_ | (injection ea_ with ea_; subst ea_)); subst ec_; clear en_)); have GB31 := Aside0.mk gb31; have GG31 := Aside0.mk HG31; clear gb31 gl31 HG31; (first | simp only [add_plain] at hx166_0 | skip); (first | simp only [add_plain] at hx168_0 | skip); obtain ⟨_, ce31, hcl31, hM31, hcc31, hfr31, _, _⟩ := Kd.S_elem HO_10.out [] ((ji25) : Int) p31 q31; obtain ⟨ve31_0, rfl, ge31_0⟩ := hM31; have hx31_0 := hcc31 0 _ rfl; have hf31_0 := hfr31 0; (try simp only [show ((Kd.slice 3 (Kd.int .i64))).sz = 1 from rfl, Nat.mul_one, Nat.add_zero] at hx31_0); (try simp only [show ((Kd.slice 3 (Kd.int .i64))).sz = 1 from rfl, Nat.mul_one, Nat.add_zero] at hf31_0); clear hcl31 hcc31 hfr31; (try clear hM31); replace p31 := eq_true p31; replace q31 := eq_true q31; have n_ := Aside0.mk (Kd.S_mono (ok' := (fun k_ => some k_ ≠ (v171 : Value).ownBlock)) HO_10.out (fun k_ hk => hk.2)); clear HO_10; have HO_10 := n_; clear n_; have HX36 := Aside0.mk (show Kd.S (Kd.slice 3 (Kd.int .i64)) 68 w34 w.heap.size (fun k_ => ((fun _ => True)) k_ ∧ ¬ ((fun k_ => some k_ = (v171 : Value).ownBlock)) k_) (.slice (some ⟨go31, 0, none⟩) x10_2.length co33) x10_2 from (by (with_reducible repeat (first | apply Kd.S_alloc | apply Kd.S_drewN | apply Kd.S_drew)); exact Kd.S_mono HO_10.out (fun k_ hk => ⟨trivial, fun e_ => hk e_⟩))); obtain ⟨oki36, ce36, hcl36, hM36, hcc36, hfr36, hoki36, hH36⟩ := Kd.S_elem HX36.out [] ((ji25) : Int) (of_decide_eq_true asmB) (by have h_ : ((ji25) : Int) < ((x10_2.length : Int) : Int) := of_decide_eq_true asmB; first | exact h_ | (have e_ := (Kd.S_reads' HO_10.out).1; omega) | simpa using h_); obtain ⟨ve36_0, rfl, ge36_0⟩ := hM36; have HP36 := Kd.S_seg hH36 (of_decide_eq_true asmB) (by have h_ : ((ji25) : Int) < ((x10_2.length : Int) : Int) := of_decide_eq_true asmB; first | exact h_ | (have e_ := (Kd.S_reads' HO_10.out).1; omega) | simpa using h_) (seg := [v171]) (j := 0) (show 1 ≤ 1 from by decide) (x' := y170) (Kd.M_row (Kd.R_mono (Kd.R_tight rfl (Kd.R_mono (ok' := fun k_ => ((fun _ => True)) k_ ∧ k_ ≠ go31) (Kd.R_apart' (HO172.out) (Kd.S_typed HO_10.out) (by decide)) (fun k_ hk => ⟨trivial, fun e_ => (hk.2) (by rw [e_]; rfl)⟩))) (fun _ h_ => Or.inr (h_)))) (fun _ hk => hk) (fun k_ hk_ => ((Kd.R_mono (ok' := fun k_ => ((fun _ => True)) k_ ∧ k_ ≠ go31) (Kd.R_apart' (HO172.out) (Kd.S_typed HO_10.out) (by decide)) (fun k_ hk => ⟨trivial, fun e_ => (hk.2) (by rw [e_]; rfl)⟩))).1 k_ hk_.symm); have hx36_0 := hcc36 0 _ rfl; (try simp only [show ((Kd.slice 3 (Kd.int .i64))).sz = 1 from rfl, Nat.mul_one, Nat.add_zero] at hx36_0); have hf36_0 := hfr36 0; (try simp only [show ((Kd.slice 3 (Kd.int .i64))).sz = 1 from rfl, Nat.mul_one, Nat.add_zero] at hf36_0); clear hcl36 hcc36 hfr36 hoki36 hH36; (try clear hM36); (try simp only [show ((Kd.slice 3 (Kd.int .i64))).sz = 1 from rfl, Nat.mul_one, Nat.add_zero] at HP36)) | ((with_reducible refine gate_store (t := 68) (p := 73) rfl ?_); refine store_event (t := 68) (p := 73) (v := ?vo_w37) (w1 := (w34.setCell ⟨go31, ((ji25) : Int).toNat, none⟩ (v171))) ?hg ?ho ?hn ?hr ?_; (case ho => rfl); (case hg => rfl); (case hn => rfl); (case hr => (obtain ⟨Ao_, co_, eo_⟩ := Kd.R_slice HO172.out); subst eo_; first | (go_simp; done) | (go_simp; rfl)); intro w37 hw; have hg : w34.grownBy w37 (some go31) := (by rw [hw]; exact HP36.2); have hp_ : Kd.S (Kd.slice 3 (Kd.int .i64)) 68 w37 w.heap.size (fun _ => True) (.slice (some ⟨go31, 0, none⟩) x10_2.length co33) y173 := (by rw [hw, Ny173.out]; exact HP36.1); clear HP36; have n0_ := Aside0.mk (hp_); have n1_ := Aside0.mk (Kd.R_after (v := (.slice (some ⟨go31, 0, none⟩) x10_2.length co33)) (v1 := (.slice (some ⟨go31, 0, none⟩) x10_2.length co33)) (ok := (fun k_ => some k_ ≠ (v171 : Value).ownBlock)) (by (with_reducible repeat (first | apply Kd.R_alloc | apply Kd.R_drewN | apply Kd.R_drew)); exact Kd.R_mono HL166_0.out (fun _ hk => ⟨hk.2, hk.1.2⟩)) hg (.inl rfl)); have n2_ := Aside0.mk (Kd.R_after (v := (.slice (some ⟨go31, 0, none⟩) x10_2.length co33)) (v1 := (.slice (some ⟨go31, 0, none⟩) x10_2.length co33)) (ok := (fun k_ => some k_ ≠ (v171 : Value).ownBlock)) (by (with_reducible repeat (first | apply Kd.R_alloc | apply Kd.R_drewN | apply Kd.R_drew)); exact Kd.R_mono HL168_0.out (fun _ hk => ⟨hk.2, hk.1.2⟩)) hg (.inl rfl)); have n3_ := Aside0.mk ((by rw [hw]; exact below_set (HB.out) GB31.out : Below w.heap.size w w37)); clear HO_10; clear HL166_0; clear HL168_0; clear HB; clear HO172; have HO_10 := n0_; have HL166_0 := n1_; have HL168_0 := n2_; have HB := n3_; clear n0_ n1_ n2_ n3_; clear hg hw hp_))
                            go_roundg k2
                            case measure => have := HJ4.out; have := HK2.out; omega
                            case rel => exact ⟨(y173), (wrap64 (x11_2 + 1)), (by first | rfl | (simp; done) | (simp [*]; done)), H', ⟨by have := HJ4.out; have := HK2.out; omega⟩, ⟨by (with_reducible repeat (first | apply Kd.S_alloc | apply Kd.S_drewN | apply Kd.S_drew)); exact HO_10.out⟩, ⟨(upB HB.out)⟩⟩
                          · rw [if_neg c30] at H
                            exact absurd H (by simp)
                        · rw [if_neg c29] at H
                          have c29b0 : ((rd (rd_L5 x10_2 (ji25)) 1) == (wrap64 (x11_2 - 1))) = false := beq_eq_false_iff_ne.mpr c29
                          have c29b1 : ((rd (rd_L5 x10_2 (ji25)) 1) != (wrap64 (x11_2 - 1))) = true := bne_iff_ne.mpr c29
                          obtain ⟨y174, hy174⟩ : ∃ y_ : List Int, y_ = (([x11_2, x11_2] : List Int)) := ⟨_, rfl⟩
                          replace H : (if x10_2.length < 5864062014805 then (spec_FreeDays.l0 k2 l0 a1 a3 (x10_2 ++ [y174]) (wrap64 (x11_2 + 1))) else (none)) = some (r1, r2) := by first | (rw [hy174]; with_reducible exact H) | (have H2_ := (Option.bind_some _ _).symm.trans H; rw [hy174]; with_reducible exact H2_) | (have H2_ := (Option.bind_some _ _).symm.trans H; with_reducible exact H2_) | with_reducible exact H | (rw [hy174]; exact H) | exact H
                          have Ny174 := Aside0.mk hy174
                          clear hy174
                          by_cases c38 : x10_2.length < 5864062014805
                          · rw [if_pos c38] at H
                            have LMc38 := Aside0.mk c38
                            clear c38
                            obtain ⟨y177, hy177⟩ : ∃ y_ : List (List Int), y_ = (x10_2 ++ [y174]) := ⟨_, rfl⟩
                            replace H : (spec_FreeDays.l0 k2 l0 a1 a3 y177 (wrap64 (x11_2 + 1))) = some (r1, r2) := by first | (rw [hy177]; with_reducible exact H) | (have H2_ := (Option.bind_some _ _).symm.trans H; rw [hy177]; with_reducible exact H2_) | (have H2_ := (Option.bind_some _ _).symm.trans H; with_reducible exact H2_) | with_reducible exact H | (rw [hy177]; exact H) | exact H
                            have Ny177 := Aside0.mk hy177
                            clear hy177
                            have H' := Aside0.mk H
                            clear H
                            go_wp2_with (first | ((with_reducible refine gate_callee (f := 64) rfl ?_); refine goesL_ (some 43) rfl rfl Tryd.func64 (by kernel_rfl) rfl #[.slice A0 l0.length c0, .string a1, .int .i64 x11_2] rfl argsB ?_; (with_reducible refine (spec_l22On.calls k2 _ _ l0 a1 x11_2 t165 _ ?side1 ?side2 A21.out).mono ?_); (case side1 => repeat (first | exact (Kd.C_below HR0.out HB.out) | (with_reducible refine Kd.C_alloc ?_ _) | (with_reducible refine Kd.C_drewN ?_ _) | (with_reducible refine Kd.C_drew ?_))); (case side2 => exact HC0.out); rintro e w39 ⟨rfl, hb⟩; refine ⟨_, rfl, ?_⟩; have n0_ := Aside0.mk (Kd.S_below (by (with_reducible repeat (first | apply Kd.S_alloc | apply Kd.S_drewN | apply Kd.S_drew)); exact HO_10.out) hb); have n1_ := Aside0.mk (below_step (upB HB.out) hb); clear HO_10; clear HB; have HO_10 := n0_; have HB := n1_; clear n0_ n1_; (try clear hb); (try clear hk); obtain ⟨Ao40, co40, eo40⟩ := Kd.S_slice HO_10.out; subst eo40; have p166 : 0 ≤ ((ji25) : Int) := of_decide_eq_true asmB; have q166 : (ji25) < (x10_2.length : Int) := of_decide_eq_true asmB; obtain ⟨ad166, A166_0, c166_0, e166, hx166_0, hl166_0, hi166_0⟩ := at_L5 (Kd.S_reads' HO_10.out).2.2 (ji25) p166 q166; cases e166; obtain ⟨ce166, hce166, hMe166, hcc166⟩ := Kd.S_get HO_10.out [] (ji25) p166 (by first | exact q166 | exact of_decide_eq_true asmB | (have e_ := (Kd.S_reads' HO_10.out).1; omega)); obtain ⟨ve166_0, rfl, ge166_0⟩ := hMe166; have hv166_0 := hcc166 0 _ rfl; rw [Nat.add_zero, show ((Kd.slice 3 (Kd.int .i64))).sz = 1 from rfl, Nat.mul_one] at hv166_0; replace hv166_0 := Option.some.inj (hv166_0.symm.trans hx166_0); rw [hv166_0] at ge166_0; have HL166_0 := Aside0.mk (show Kd.R (Kd.int .i64) 3 _ _ _ _ (rd_L5 x10_2 (ji25)) from ge166_0); clear hv166_0 ge166_0; clear hcc166 hce166; have HR166_0 := Aside0.mk hi166_0; have HC166_0 := Aside0.mk hl166_0; clear hi166_0 hl166_0; replace p166 := eq_true p166; replace q166 := eq_true q166; have p167 : 0 ≤ (1 : Int) := (by omega); have q167 : 1 < ((rd_L5 x10_2 (ji25)).length : Int) := of_decide_eq_true asmB; obtain ⟨ad167, e167, hx167_0⟩ := Kd.at_int (by repeat (first | (with_reducible exact HR166_0.out) | (with_reducible refine Kd.C_alloc ?_ _) | (with_reducible refine Kd.C_drewN ?_ _) | (with_reducible refine Kd.C_drew ?_) | exact HR166_0.out)) 1 p167 q167; cases e167; (try simp only [show (1 : Int).toNat = 1 from rfl, Nat.reduceMul, Nat.reduceEqDiff, Go.Addr.add, ↓reduceIte] at hx167_0); have qi167 : (1 < (rd_L5 x10_2 (ji25)).length) = True := eq_true (by omega); (try rw [show ((1 : Int)).toNat = 1 from rfl] at hx167_0); replace p167 := eq_true p167; replace q167 := eq_true q167) | ((with_reducible refine gate_dst (N := 77) rfl ?_); refine Kd.R_lit (Kd.int .i64) _ 3 ?hg (N := 77) ?hd (xs := ([x11_2, x11_2] : List Int)) (inner := [.int .i64 x11_2, .int .i64 x11_2]) (ok := fun _ => True) (okp := fun _ => True) ?hr ?hp (fun _ hk => hk) trivial (Below.refl _ _) (Nat.le_refl _) (by simp) ?_; (case hd => rfl); (case hg => rfl); (case hr => first | (go_simp; done) | (go_simp; rfl)); (case hp => exact (Reps.one (show Kd.M (Kd.int .i64) _ _ _ x11_2 [.int .i64 x11_2] from rfl) (Reps.one (show Kd.M (Kd.int .i64) _ _ _ x11_2 [.int .i64 x11_2] from rfl) (Reps.none _ _)))); intro v175 w41 ho42 hb hg_ hnew_; clear hg_ hnew_; (first | rw [← Ny174.out] at ho42 | (simp only [Int.reduceToNat] at ho42; rw [← Ny174.out] at ho42)); have n0_ := Aside0.mk (Kd.S_elder' (by (with_reducible repeat (first | apply Kd.S_alloc | apply Kd.S_drewN | apply Kd.S_drew)); exact HO_10.out) (Kd.R_base ho42) hb); have n1_ := Aside0.mk (Kd.R_elder' (by (with_reducible repeat (first | apply Kd.R_alloc | apply Kd.R_drewN | apply Kd.R_drew)); exact HL166_0.out) (Kd.R_base ho42) hb); have n2_ := Aside0.mk (Kd.R_lower (Kd.R_new' ho42 (Kd.R_lt (by (with_reducible repeat (first | apply Kd.R_alloc | apply Kd.R_drewN | apply Kd.R_drew)); exact HL166_0.out))) (below_size (upB HB.out))); have n3_ := Aside0.mk (Kd.C_below (by repeat (first | (with_reducible exact HR166_0.out) | (with_reducible refine Kd.C_alloc ?_ _) | (with_reducible refine Kd.C_drewN ?_ _) | (with_reducible refine Kd.C_drew ?_) | exact HR166_0.out)) hb); have n4_ := Aside0.mk (below_step (upB HB.out) hb); clear HO_10; clear HL166_0; clear HR166_0; clear HB; have HO_10 := n0_; have HL166_0 := n1_; have HO176 := n2_; have HR166_0 := n3_; have HB := n4_; clear n0_ n1_ n2_ n3_ n4_; clear hb ho42; obtain ⟨Ao44, co44, eo44⟩ := Kd.R_slice HO176.out; subst eo44) | ((with_reducible refine gate_builtin (b := .append) (xs := #[.tmp 74, .tmp 78]) rfl ?_); at_builtin; refine Kd.S_append (Kd.slice 3 (Kd.int .i64)) (w0 := w) w.heap.size rfl (.tmp 74) (.tmp 78) 52 68 (.slice none 0 0) 24 rfl Tryd.underlying52 info68 rfl (by decide) (by omega) (.slice (some ad166) x10_2.length co40) x10_2 y174 [.slice Ao44 y174.length co44] (fun _ => True) (fun k_ => some k_ = (.slice Ao44 y174.length co44 : Value).ownBlock) rfl rfl ?aP (fun k_ hk_ => ((Kd.R_mono (ok' := fun k_ => ((fun _ => True)) k_ ∧ some k_ ≠ (.slice (some ad166) x10_2.length co40 : Value).ownBlock) (Kd.R_apart' (HO176.out) (Kd.S_typed HO_10.out) (by decide)) (fun k_ hk => ⟨trivial, hk.2⟩))).1 k_ hk_.symm) ?aF ?aO ?aB ?aS ?aL ?_; (case aP => exact Kd.M_row (Kd.R_mono (Kd.R_tight rfl (Kd.R_mono (ok' := fun k_ => ((fun _ => True)) k_ ∧ some k_ ≠ (.slice (some ad166) x10_2.length co40 : Value).ownBlock) (Kd.R_apart' (HO176.out) (Kd.S_typed HO_10.out) (by decide)) (fun k_ hk => ⟨trivial, hk.2⟩))) (fun _ h_ => h_))); (case aB => exact (upB HB.out)); (case aF => exact (fun _ _ => trivial)); (case aO => exact (by (with_reducible repeat (first | apply Kd.S_alloc | apply Kd.S_drewN | apply Kd.S_drew)); exact Kd.S_mono HO_10.out (fun k_ hk => ⟨trivial, fun e_ => hk.2 e_⟩))); (case aS => exact (below_size (upB HB.out))); (case aL => have := LMc38.out; omega); intro v178 w43 ho hb hg hat; rw [← Ny177.out] at ho; have n0_ := Aside0.mk (Kd.R_after (ok := (fun k_ => some k_ ≠ (.slice Ao44 y174.length co44 : Value).ownBlock)) (by (with_reducible repeat (first | apply Kd.R_alloc | apply Kd.R_drewN | apply Kd.R_drew)); exact Kd.R_mono HL166_0.out (fun _ hk => ⟨hk.2, hk.1.2⟩)) hg hat); have n1_ := Aside0.mk (hb); have n2_ := Aside0.mk (ho); clear HL166_0; clear HB; clear HO_10; clear HO176; have HL166_0 := n0_; have HB := n1_; have HO179 := n2_; clear n0_ n1_ n2_; clear ho hb hg hat))
                            go_roundg k2
                            case measure => have := HJ4.out; have := HK2.out; omega
                            case rel => exact ⟨(y177), (wrap64 (x11_2 + 1)), (by first | rfl | (simp; done) | (simp [*]; done)), H', ⟨by have := HJ4.out; have := HK2.out; omega⟩, ⟨by (with_reducible repeat (first | apply Kd.S_alloc | apply Kd.S_drewN | apply Kd.S_drew)); exact HO179.out⟩, ⟨(upB HB.out)⟩⟩
                          · rw [if_neg c38] at H
                            exact absurd H (by simp)
                      · rw [if_neg c28] at H
                        exact absurd H (by simp)
                    · rw [if_neg c27] at H
                      exact absurd H (by simp)
                  · rw [if_neg c26] at H
                    exact absurd H (by simp)
                · rw [if_neg c24] at H
                  have c24b0 : decide (0 < (x10_2.length : Int)) = false := decide_eq_false c24
                  have c24b1 : decide (0 < x10_2.length) = false := decide_eq_false (by omega)
                  clear c24
                  obtain ⟨y180, hy180⟩ : ∃ y_ : List Int, y_ = (([x11_2, x11_2] : List Int)) := ⟨_, rfl⟩
                  replace H : (if x10_2.length < 5864062014805 then (spec_FreeDays.l0 k2 l0 a1 a3 (x10_2 ++ [y180]) (wrap64 (x11_2 + 1))) else (none)) = some (r1, r2) := by first | (rw [hy180]; with_reducible exact H) | (have H2_ := (Option.bind_some _ _).symm.trans H; rw [hy180]; with_reducible exact H2_) | (have H2_ := (Option.bind_some _ _).symm.trans H; with_reducible exact H2_) | with_reducible exact H | (rw [hy180]; exact H) | exact H
                  have Ny180 := Aside0.mk hy180
                  clear hy180
                  by_cases c45 : x10_2.length < 5864062014805
                  · rw [if_pos c45] at H
                    have LMc45 := Aside0.mk c45
                    clear c45
                    obtain ⟨y183, hy183⟩ : ∃ y_ : List (List Int), y_ = (x10_2 ++ [y180]) := ⟨_, rfl⟩
                    replace H : (spec_FreeDays.l0 k2 l0 a1 a3 y183 (wrap64 (x11_2 + 1))) = some (r1, r2) := by first | (rw [hy183]; with_reducible exact H) | (have H2_ := (Option.bind_some _ _).symm.trans H; rw [hy183]; with_reducible exact H2_) | (have H2_ := (Option.bind_some _ _).symm.trans H; with_reducible exact H2_) | with_reducible exact H | (rw [hy183]; exact H) | exact H
                    have Ny183 := Aside0.mk hy183
                    clear hy183
                    have H' := Aside0.mk H
                    clear H
                    go_wp2_with (first | ((with_reducible refine gate_callee (f := 64) rfl ?_); refine goesL_ (some 43) rfl rfl Tryd.func64 (by kernel_rfl) rfl #[.slice A0 l0.length c0, .string a1, .int .i64 x11_2] rfl argsB ?_; (with_reducible refine (spec_l22On.calls k2 _ _ l0 a1 x11_2 t165 _ ?side1 ?side2 A21.out).mono ?_); (case side1 => repeat (first | exact (Kd.C_below HR0.out HB.out) | (with_reducible refine Kd.C_alloc ?_ _) | (with_reducible refine Kd.C_drewN ?_ _) | (with_reducible refine Kd.C_drew ?_))); (case side2 => exact HC0.out); rintro e w46 ⟨rfl, hb⟩; refine ⟨_, rfl, ?_⟩; have n0_ := Aside0.mk (Kd.S_below (by (with_reducible repeat (first | apply Kd.S_alloc | apply Kd.S_drewN | apply Kd.S_drew)); exact HO_10.out) hb); have n1_ := Aside0.mk (below_step (upB HB.out) hb); clear HO_10; clear HB; have HO_10 := n0_; have HB := n1_; clear n0_ n1_; (try clear hb); (try clear hk); obtain ⟨Ao47, co47, eo47⟩ := Kd.S_slice HO_10.out; subst eo47) | ((with_reducible refine gate_dst (N := 77) rfl ?_); refine Kd.R_lit (Kd.int .i64) _ 3 ?hg (N := 77) ?hd (xs := ([x11_2, x11_2] : List Int)) (inner := [.int .i64 x11_2, .int .i64 x11_2]) (ok := fun _ => True) (okp := fun _ => True) ?hr ?hp (fun _ hk => hk) trivial (Below.refl _ _) (Nat.le_refl _) (by simp) ?_; (case hd => rfl); (case hg => rfl); (case hr => first | (go_simp; done) | (go_simp; rfl)); (case hp => exact (Reps.one (show Kd.M (Kd.int .i64) _ _ _ x11_2 [.int .i64 x11_2] from rfl) (Reps.one (show Kd.M (Kd.int .i64) _ _ _ x11_2 [.int .i64 x11_2] from rfl) (Reps.none _ _)))); intro v181 w48 ho49 hb hg_ hnew_; clear hg_ hnew_; (first | rw [← Ny180.out] at ho49 | (simp only [Int.reduceToNat] at ho49; rw [← Ny180.out] at ho49)); have n0_ := Aside0.mk (Kd.S_elder' (by (with_reducible repeat (first | apply Kd.S_alloc | apply Kd.S_drewN | apply Kd.S_drew)); exact HO_10.out) (Kd.R_base ho49) hb); have n1_ := Aside0.mk (Kd.R_lower ho49 (below_size (upB HB.out))); have n2_ := Aside0.mk (below_step (upB HB.out) hb); clear HO_10; clear HB; have HO_10 := n0_; have HO182 := n1_; have HB := n2_; clear n0_ n1_ n2_; clear hb ho49; obtain ⟨Ao51, co51, eo51⟩ := Kd.R_slice HO182.out; subst eo51) | ((with_reducible refine gate_builtin (b := .append) (xs := #[.tmp 74, .tmp 78]) rfl ?_); at_builtin; refine Kd.S_append (Kd.slice 3 (Kd.int .i64)) (w0 := w) w.heap.size rfl (.tmp 74) (.tmp 78) 52 68 (.slice none 0 0) 24 rfl Tryd.underlying52 info68 rfl (by decide) (by omega) (.slice Ao47 x10_2.length co47) x10_2 y180 [.slice Ao51 y180.length co51] (fun _ => True) (fun k_ => some k_ = (.slice Ao51 y180.length co51 : Value).ownBlock) rfl rfl ?aP (fun k_ hk_ => ((Kd.R_mono (ok' := fun k_ => ((fun _ => True)) k_ ∧ some k_ ≠ (.slice Ao47 x10_2.length co47 : Value).ownBlock) (Kd.R_apart' (HO182.out) (Kd.S_typed HO_10.out) (by decide)) (fun k_ hk => ⟨trivial, hk.2⟩))).1 k_ hk_.symm) ?aF ?aO ?aB ?aS ?aL ?_; (case aP => exact Kd.M_row (Kd.R_mono (Kd.R_tight rfl (Kd.R_mono (ok' := fun k_ => ((fun _ => True)) k_ ∧ some k_ ≠ (.slice Ao47 x10_2.length co47 : Value).ownBlock) (Kd.R_apart' (HO182.out) (Kd.S_typed HO_10.out) (by decide)) (fun k_ hk => ⟨trivial, hk.2⟩))) (fun _ h_ => h_))); (case aB => exact (upB HB.out)); (case aF => exact (fun _ _ => trivial)); (case aO => exact (by (with_reducible repeat (first | apply Kd.S_alloc | apply Kd.S_drewN | apply Kd.S_drew)); exact Kd.S_mono HO_10.out (fun k_ hk => ⟨trivial, fun e_ => hk.2 e_⟩))); (case aS => exact (below_size (upB HB.out))); (case aL => have := LMc45.out; omega); intro v184 w50 ho hb hg hat; rw [← Ny183.out] at ho; have n0_ := Aside0.mk (hb); have n1_ := Aside0.mk (ho); clear HB; clear HO_10; clear HO182; have HB := n0_; have HO185 := n1_; clear n0_ n1_; clear ho hb hg hat))
                    go_roundg k2
                    case measure => have := HJ4.out; have := HK2.out; omega
                    case rel => exact ⟨(y183), (wrap64 (x11_2 + 1)), (by first | rfl | (simp; done) | (simp [*]; done)), H', ⟨by have := HJ4.out; have := HK2.out; omega⟩, ⟨by (with_reducible repeat (first | apply Kd.S_alloc | apply Kd.S_drewN | apply Kd.S_drew)); exact HO185.out⟩, ⟨(upB HB.out)⟩⟩
                  · rw [if_neg c45] at H
                    exact absurd H (by simp)
            · rw [if_neg c20] at H
              have c20b0 : decide (x11_2 ≤ a3) = false := decide_eq_false c20
              clear c20
              simp only [Option.some.injEq, Prod.mk.injEq] at H
              obtain ⟨rfl, rfl⟩ := H
              go_wp2
              go_ret2
              exact ⟨_, by first | rfl | (simp [errW_none, errW_some] <;> rfl) | (simp [*, errW_none, errW_some] <;> rfl), by (with_reducible repeat (first | apply Kd.S_alloc | apply Kd.S_drewN | apply Kd.S_drew)); exact HO_10.out, (upB HB.out)⟩

/-! ### impl_within: function 57 -/
def impl_within.f (a0 : Int) (a1 : Int) (a2 : Int) : Option (Bool) := if a0 ≥ a1 then (some (decide (a0 ≤ a2))) else (some false)
set_option maxHeartbeats 8000000 in
set_option maxRecDepth 100000 in
theorem impl_within.calls (a0 : Int) (a1 : Int) (a2 : Int) (r : Bool) (w : World) (h : impl_within.f a0 a1 a2 = some r) :
    Calls Tryd.prog 57 #[.int .i64 a0, .int .i64 a1, .int .i64 a2] w fun e w' => e = .returned (.bool r) ∧ Drawn0 w w' := by
  have H : (if a0 ≥ a1 then (some (decide (a0 ≤ a2))) else (some false)) = some r := h
  clear h
  by_cases c4 : a0 ≥ a1
  · rw [if_pos c4] at H
    have c4b0 : decide (a1 ≤ a0) = true := decide_eq_true c4
    clear c4
    obtain rfl := Option.some.inj H
    go_enter Tryd.func57, Tryd.ntmps57
    go_wp2
    go_ret
    exact ⟨by first | rfl | (simp; done) | (simp [*]; done), by repeat (first | exact Drawn0.refl _ | apply Drawn0.step)⟩
  · rw [if_neg c4] at H
    have c4b0 : decide (a1 ≤ a0) = false := decide_eq_false c4
    clear c4
    obtain rfl := Option.some.inj H
    go_enter Tryd.func57, Tryd.ntmps57
    go_wp2
    go_ret
    exact ⟨by first | rfl | (simp; done) | (simp [*]; done), by repeat (first | exact Drawn0.refl _ | apply Drawn0.step)⟩

/-! ### impl_isId: function 54 -/
def impl_isId.f (a0 : Int) : Option (Bool) := (impl_within.f a0 1 99).bind fun t186 => (some t186)
set_option maxHeartbeats 8000000 in
set_option maxRecDepth 100000 in
theorem impl_isId.calls (a0 : Int) (r : Bool) (w : World) (h : impl_isId.f a0 = some r) :
    Calls Tryd.prog 54 #[.int .i64 a0] w fun e w' => e = .returned (.bool r) ∧ Drawn0 w w' := by
  have H : ((impl_within.f a0 1 99).bind fun t186 => (some t186)) = some r := h
  clear h
  replace H := Option.bind_eq_some_iff.mp H
  obtain ⟨t186, A20, H⟩ := H
  replace H : (some t186) = some r := H
  have A2 := Aside0.mk A20
  clear A20
  obtain rfl := Option.some.inj H
  go_enter Tryd.func54, Tryd.ntmps54
  go_wp2_with (first | ((with_reducible refine gate_callee (f := 57) rfl ?_); refine goesL_ (some 4) rfl rfl Tryd.func57 (by kernel_rfl) rfl #[.int .i64 a0, .int .i64 1, .int .i64 99] rfl argsB ?_; (with_reducible refine (impl_within.calls a0 1 99 t186 _ A2.out).mono ?_); rintro e w' ⟨rfl, ⟨nd, rfl⟩⟩; refine ⟨_, rfl, ?_⟩))
  go_ret
  exact ⟨by first | rfl | (simp; done) | (simp [*]; done), by repeat (first | exact Drawn0.refl _ | apply Drawn0.step)⟩

/-! ### impl_isWord: function 55 -/
-- calls: none
def lower : List UInt8 := [97, 98, 99, 100, 101, 102, 103, 104, 105, 106, 107, 108, 109, 110, 111, 112, 113, 114, 115, 116, 117, 118, 119, 120, 121, 122]
theorem lower_mem (b : UInt8) : lower.contains b = decide (97 ≤ b.toNat ∧ b.toNat ≤ 122) := by
  have : ∀ n : Fin 256, lower.contains (UInt8.ofNat n.val) = decide (97 ≤ (UInt8.ofNat n.val).toNat ∧ (UInt8.ofNat n.val).toNat ≤ 122) := by decide +kernel
  have h := this ⟨b.toNat, b.toNat_lt⟩
  rwa [show UInt8.ofNat (Fin.mk b.toNat b.toNat_lt).val = b from UInt8.ofNat_toNat] at h
theorem dropWhile_nil {α : Type} (p : α → Bool) : ∀ l : List α, l.dropWhile p = [] ↔ ∀ x ∈ l, p x = true
  | [] => by simp
  | x :: l => by
    rw [List.dropWhile_cons]
    by_cases h : p x = true
    · rw [if_pos h, dropWhile_nil p l]
      simp [h]
    · rw [if_neg h]
      simp [h]
theorem trim_nil (l : List UInt8) : (Lib.trimS l lower).isEmpty = l.all (fun b => decide (97 ≤ b.toNat ∧ b.toNat ≤ 122)) := by
  have e : (fun b => lower.contains b) = (fun b : UInt8 => decide (97 ≤ b.toNat ∧ b.toNat ≤ 122)) := funext lower_mem
  unfold Lib.trimS Lib.trimLeftS Lib.trimRightS
  rw [e]
  generalize (fun b : UInt8 => decide (97 ≤ b.toNat ∧ b.toNat ≤ 122)) = p
  by_cases h : l.all p = true
  · rw [h]
    have h1 : l.reverse.dropWhile p = [] := by
      rw [dropWhile_nil]; intro x hx; exact List.all_eq_true.1 h x (List.mem_reverse.1 hx)
    rw [h1]; rfl
  · rw [Bool.eq_false_iff.2 h]
    rw [List.isEmpty_eq_false_iff]
    intro hn
    apply h
    rw [dropWhile_nil] at hn
    rw [List.all_eq_true]
    intro x hx
    by_cases hp : p x = true
    · exact hp
    · exfalso
      have hd : ∀ m : List UInt8, x ∈ m → x ∈ m.dropWhile p := by
        intro m
        induction m with
        | nil => intro h; cases h
        | cons y m ih =>
          intro hm
          rw [List.dropWhile_cons]
          split
          · rename_i hy
            rcases List.mem_cons.1 hm with rfl | hm
            · exact absurd hy hp
            · exact ih hm
          · exact hm
      exact hp (hn x (List.mem_reverse.2 (hd _ (List.mem_reverse.2 hx))))
def impl_isWord.f (a0 : ByteArray) : Option Bool := some (decide (1 ≤ a0.size) && (decide (a0.size ≤ 10) && a0.data.toList.all (fun b => decide (97 ≤ b.toNat ∧ b.toNat ≤ 122))))
set_option maxHeartbeats 8000000 in
set_option maxRecDepth 100000 in
theorem impl_isWord.calls (a0 : ByteArray) (r : Bool) (w : World) (h : impl_isWord.f a0 = some r) :
    Calls Tryd.prog 55 #[.string a0] w fun e w' => e = .returned (.bool r) ∧ Below w.heap.size w w' := by
  obtain rfl := Option.some.inj h
  by_cases c1 : 1 ≤ a0.size
  · by_cases c2 : a0.size ≤ 10
    · have hcon := Any.strings_Trim_laid Tryd.lays160 (by kernel_rfl) a0 ⟨lower.toArray⟩ w (by omega) (by decide) (ascii_of_all (by decide))
      change Calls Tryd.prog 90 _ _ (fun e w' => e = .returned (.string ⟨(Lib.trimS a0.data.toList lower).toArray⟩) ∧ Below w.heap.size w w') at hcon
      have ht := trim_nil a0.data.toList
      rw [decide_eq_true c1, decide_eq_true c2, Bool.true_and, Bool.true_and]
      rw [← ht]
      clear ht
      generalize Lib.trimS a0.data.toList lower = t at hcon ⊢
      go_enter Tryd.func55, Tryd.ntmps55
      go_wp2_with (go_at_call 90; refine hcon.mono ?_; rintro e w' ⟨rfl, hB⟩)
      go_ret
      exact ⟨rfl, hB⟩
    · rw [decide_eq_true c1, decide_eq_false c2]
      go_enter Tryd.func55, Tryd.ntmps55
      go_wp2
      go_ret
      exact ⟨by simp, Below.refl _ _⟩
  · rw [decide_eq_false c1]
    go_enter Tryd.func55, Tryd.ntmps55
    go_wp2
    go_ret
    exact ⟨by simp, Below.refl _ _⟩

/-! ### impl_isDay: function 56 -/
def impl_isDay.f (a0 : Int) : Option (Bool) := (impl_within.f a0 0 999).bind fun t187 => (some t187)
set_option maxHeartbeats 8000000 in
set_option maxRecDepth 100000 in
theorem impl_isDay.calls (a0 : Int) (r : Bool) (w : World) (h : impl_isDay.f a0 = some r) :
    Calls Tryd.prog 56 #[.int .i64 a0] w fun e w' => e = .returned (.bool r) ∧ Drawn0 w w' := by
  have H : ((impl_within.f a0 0 999).bind fun t187 => (some t187)) = some r := h
  clear h
  replace H := Option.bind_eq_some_iff.mp H
  obtain ⟨t187, A20, H⟩ := H
  replace H : (some t187) = some r := H
  have A2 := Aside0.mk A20
  clear A20
  obtain rfl := Option.some.inj H
  go_enter Tryd.func56, Tryd.ntmps56
  go_wp2_with (first | ((with_reducible refine gate_callee (f := 57) rfl ?_); refine goesL_ (some 4) rfl rfl Tryd.func57 (by kernel_rfl) rfl #[.int .i64 a0, .int .i64 0, .int .i64 999] rfl argsB ?_; (with_reducible refine (impl_within.calls a0 0 999 t187 _ A2.out).mono ?_); rintro e w' ⟨rfl, ⟨nd, rfl⟩⟩; refine ⟨_, rfl, ?_⟩))
  go_ret
  exact ⟨by first | rfl | (simp; done) | (simp [*]; done), by repeat (first | exact Drawn0.refl _ | apply Drawn0.step)⟩

/-! ### impl_IsPermit: function 17 -/
def impl_IsPermit.f (a0_0 : Int) (a0_1 : ByteArray) (a0_2 : Int) (a0_3 : Int) (a0_4 : Int) (a0_5 : Int) : Option (Bool) := (impl_isId.f a0_0).bind fun t189 => (if t189 = true then ((impl_isWord.f a0_1).bind fun t190 => (if t190 = true then ((impl_isDay.f a0_2).bind fun t191 => (if t191 = true then ((impl_within.f a0_3 a0_2 999).bind fun t192 => (if t192 = true then ((impl_within.f a0_4 1 12).bind fun t193 => (if t193 = true then ((impl_within.f a0_5 0 4).bind fun t194 => (some t194)) else (some false))) else (some false))) else (some false))) else (some false))) else (some false))
set_option maxHeartbeats 8000000 in
set_option maxRecDepth 100000 in
theorem impl_IsPermit.calls (a0_0 : Int) (a0_1 : ByteArray) (a0_2 : Int) (a0_3 : Int) (a0_4 : Int) (a0_5 : Int) (r : Bool) (w : World) (h : impl_IsPermit.f a0_0 a0_1 a0_2 a0_3 a0_4 a0_5 = some r) :
    Calls Tryd.prog 17 #[.agg #[.int .i64 a0_0, .string a0_1, .int .i64 a0_2, .int .i64 a0_3, .int .i64 a0_4, .int .i64 a0_5]] w fun e w' => e = .returned (.bool r) ∧ Below w.heap.size w w' := by
  have hu26 := Tryd.underlying26
  have HB := Aside0.mk (Below.refl w.heap.size w)
  have H : ((impl_isId.f a0_0).bind fun t189 => (if t189 = true then ((impl_isWord.f a0_1).bind fun t190 => (if t190 = true then ((impl_isDay.f a0_2).bind fun t191 => (if t191 = true then ((impl_within.f a0_3 a0_2 999).bind fun t192 => (if t192 = true then ((impl_within.f a0_4 1 12).bind fun t193 => (if t193 = true then ((impl_within.f a0_5 0 4).bind fun t194 => (some t194)) else (some false))) else (some false))) else (some false))) else (some false))) else (some false))) = some r := h
  clear h
  replace H := Option.bind_eq_some_iff.mp H
  obtain ⟨t189, A20, H⟩ := H
  replace H : (if t189 = true then ((impl_isWord.f a0_1).bind fun t190 => (if t190 = true then ((impl_isDay.f a0_2).bind fun t191 => (if t191 = true then ((impl_within.f a0_3 a0_2 999).bind fun t192 => (if t192 = true then ((impl_within.f a0_4 1 12).bind fun t193 => (if t193 = true then ((impl_within.f a0_5 0 4).bind fun t194 => (some t194)) else (some false))) else (some false))) else (some false))) else (some false))) else (some false)) = some r := H
  have A2 := Aside0.mk A20
  clear A20
  by_cases c3 : t189 = true
  · subst c3
    have H1 : ((impl_isWord.f a0_1).bind fun t190 => (if t190 = true then ((impl_isDay.f a0_2).bind fun t191 => (if t191 = true then ((impl_within.f a0_3 a0_2 999).bind fun t192 => (if t192 = true then ((impl_within.f a0_4 1 12).bind fun t193 => (if t193 = true then ((impl_within.f a0_5 0 4).bind fun t194 => (some t194)) else (some false))) else (some false))) else (some false))) else (some false))) = some r := by rw [if_pos rfl] at H; exact H
    clear H
    have H := H1
    clear H1
    replace H := Option.bind_eq_some_iff.mp H
    obtain ⟨t190, A40, H⟩ := H
    replace H : (if t190 = true then ((impl_isDay.f a0_2).bind fun t191 => (if t191 = true then ((impl_within.f a0_3 a0_2 999).bind fun t192 => (if t192 = true then ((impl_within.f a0_4 1 12).bind fun t193 => (if t193 = true then ((impl_within.f a0_5 0 4).bind fun t194 => (some t194)) else (some false))) else (some false))) else (some false))) else (some false)) = some r := H
    have A4 := Aside0.mk A40
    clear A40
    by_cases c5 : t190 = true
    · subst c5
      have H1 : ((impl_isDay.f a0_2).bind fun t191 => (if t191 = true then ((impl_within.f a0_3 a0_2 999).bind fun t192 => (if t192 = true then ((impl_within.f a0_4 1 12).bind fun t193 => (if t193 = true then ((impl_within.f a0_5 0 4).bind fun t194 => (some t194)) else (some false))) else (some false))) else (some false))) = some r := by rw [if_pos rfl] at H; exact H
      clear H
      have H := H1
      clear H1
      replace H := Option.bind_eq_some_iff.mp H
      obtain ⟨t191, A60, H⟩ := H
      replace H : (if t191 = true then ((impl_within.f a0_3 a0_2 999).bind fun t192 => (if t192 = true then ((impl_within.f a0_4 1 12).bind fun t193 => (if t193 = true then ((impl_within.f a0_5 0 4).bind fun t194 => (some t194)) else (some false))) else (some false))) else (some false)) = some r := H
      have A6 := Aside0.mk A60
      clear A60
      by_cases c7 : t191 = true
      · subst c7
        have H1 : ((impl_within.f a0_3 a0_2 999).bind fun t192 => (if t192 = true then ((impl_within.f a0_4 1 12).bind fun t193 => (if t193 = true then ((impl_within.f a0_5 0 4).bind fun t194 => (some t194)) else (some false))) else (some false))) = some r := by rw [if_pos rfl] at H; exact H
        clear H
        have H := H1
        clear H1
        replace H := Option.bind_eq_some_iff.mp H
        obtain ⟨t192, A80, H⟩ := H
        replace H : (if t192 = true then ((impl_within.f a0_4 1 12).bind fun t193 => (if t193 = true then ((impl_within.f a0_5 0 4).bind fun t194 => (some t194)) else (some false))) else (some false)) = some r := H
        have A8 := Aside0.mk A80
        clear A80
        by_cases c9 : t192 = true
        · subst c9
          have H1 : ((impl_within.f a0_4 1 12).bind fun t193 => (if t193 = true then ((impl_within.f a0_5 0 4).bind fun t194 => (some t194)) else (some false))) = some r := by rw [if_pos rfl] at H; exact H
          clear H
          have H := H1
          clear H1
          replace H := Option.bind_eq_some_iff.mp H
          obtain ⟨t193, A100, H⟩ := H
          replace H : (if t193 = true then ((impl_within.f a0_5 0 4).bind fun t194 => (some t194)) else (some false)) = some r := H
          have A10 := Aside0.mk A100
          clear A100
          by_cases c11 : t193 = true
          · subst c11
            have H1 : ((impl_within.f a0_5 0 4).bind fun t194 => (some t194)) = some r := by rw [if_pos rfl] at H; exact H
            clear H
            have H := H1
            clear H1
            replace H := Option.bind_eq_some_iff.mp H
            obtain ⟨t194, A120, H⟩ := H
            replace H : (some t194) = some r := H
            have A12 := Aside0.mk A120
            clear A120
            obtain rfl := Option.some.inj H
            go_enter Tryd.func17, Tryd.ntmps17
            go_wp2_with (first | ((with_reducible refine gate_dst (N := 1) rfl ?_); refine box_event ?hg (N := 1) ?hd (cs := #[.int .i64 a0_0, .string a0_1, .int .i64 a0_2, .int .i64 a0_3, .int .i64 a0_4, .int .i64 a0_5]) (t := 26) ?hr ?_; (case hd => rfl); (case hg => rfl); (case hr => first | (go_simp; done) | (go_simp; rfl)); intro gb188 hg w13 hbox hb; have n0_ := Aside0.mk (below_step (upB HB.out) hb); have n1_ := Aside0.mk (hbox); have n2_ := Aside0.mk ((by rw [hg]; exact (below_size (upB HB.out)) : w.heap.size ≤ gb188)); have n3_ := Aside0.mk ((by rw [hg]; exact (below_size (upB HB.out)) : w.heap.size ≤ gb188)); clear HB; have HB := n0_; have BK188 := n1_; have GW188 := n2_; have GE188 := n3_; clear n0_ n1_ n2_ n3_; clear hb hbox hg; have hcz14_0 := ci BK188.out 0 a0_0 rfl; have hcz14_1 : w13.cell? ⟨gb188, 1, none⟩ = some (.string a0_1) := (blk_cell BK188.out 1).trans rfl; have hcz14_2 := ci BK188.out 2 a0_2 rfl; have hcz14_3 := ci BK188.out 3 a0_3 rfl; have hcz14_4 := ci BK188.out 4 a0_4 rfl; have hcz14_5 := ci BK188.out 5 a0_5 rfl; have hfz14_0 := fun j_ : Nat => blk_frozen BK188.out j_) | ((with_reducible refine gate_callee (f := 54) rfl ?_); refine goesL_ (some 5) rfl rfl Tryd.func54 (by kernel_rfl) rfl #[.int .i64 a0_0] rfl argsB ?_; (with_reducible refine (impl_isId.calls a0_0 true _ A2.out).mono ?_); rintro e w' ⟨rfl, ⟨nd, rfl⟩⟩; refine ⟨_, rfl, ?_⟩) | (go_at_call 55; (with_reducible refine (impl_isWord.calls a0_1 true _ A4.out).mono ?_); rintro e w15 ⟨rfl, hb⟩; have n0_ := Aside0.mk (blk_below (g := gb188) (o := .cells #[.int .i64 a0_0, .string a0_1, .int .i64 a0_2, .int .i64 a0_3, .int .i64 a0_4, .int .i64 a0_5] 26 (0, 0)) (upK BK188.out) hb); have n1_ := Aside0.mk (below_step (upB1 HB.out GE188.out) hb); clear BK188; clear HB; have BK188 := n0_; have HB := n1_; clear n0_ n1_; (try clear hb); have hcz16_0 := ci BK188.out 0 a0_0 rfl; have hcz16_1 : w15.cell? ⟨gb188, 1, none⟩ = some (.string a0_1) := (blk_cell BK188.out 1).trans rfl; have hcz16_2 := ci BK188.out 2 a0_2 rfl; have hcz16_3 := ci BK188.out 3 a0_3 rfl; have hcz16_4 := ci BK188.out 4 a0_4 rfl; have hcz16_5 := ci BK188.out 5 a0_5 rfl; have hfz16_0 := fun j_ : Nat => blk_frozen BK188.out j_) | (go_at_call 56; (with_reducible refine (impl_isDay.calls a0_2 true _ A6.out).mono ?_); rintro e w' ⟨rfl, ⟨nd, rfl⟩⟩) | (go_at_call 57; (with_reducible refine (impl_within.calls a0_3 a0_2 999 true _ A8.out).mono ?_); rintro e w' ⟨rfl, ⟨nd, rfl⟩⟩) | (go_at_call 57; (with_reducible refine (impl_within.calls a0_4 1 12 true _ A10.out).mono ?_); rintro e w' ⟨rfl, ⟨nd, rfl⟩⟩) | (go_at_call 57; (with_reducible refine (impl_within.calls a0_5 0 4 t194 _ A12.out).mono ?_); rintro e w' ⟨rfl, ⟨nd, rfl⟩⟩))
            go_ret
            exact ⟨by first | rfl | (simp [errW_none, errW_some] <;> rfl) | (simp [*, errW_none, errW_some] <;> rfl), (upB1 HB.out GE188.out)⟩
          · replace c11 := Bool.eq_false_iff.mpr c11
            subst c11
            have H1 : (some false) = some r := by rw [if_neg (show ¬ (false = true) by decide)] at H; exact H
            clear H
            have H := H1
            clear H1
            obtain rfl := Option.some.inj H
            go_enter Tryd.func17, Tryd.ntmps17
            go_wp2_with (first | ((with_reducible refine gate_dst (N := 1) rfl ?_); refine box_event ?hg (N := 1) ?hd (cs := #[.int .i64 a0_0, .string a0_1, .int .i64 a0_2, .int .i64 a0_3, .int .i64 a0_4, .int .i64 a0_5]) (t := 26) ?hr ?_; (case hd => rfl); (case hg => rfl); (case hr => first | (go_simp; done) | (go_simp; rfl)); intro gb188 hg w17 hbox hb; have n0_ := Aside0.mk (below_step (upB HB.out) hb); have n1_ := Aside0.mk (hbox); have n2_ := Aside0.mk ((by rw [hg]; exact (below_size (upB HB.out)) : w.heap.size ≤ gb188)); have n3_ := Aside0.mk ((by rw [hg]; exact (below_size (upB HB.out)) : w.heap.size ≤ gb188)); clear HB; have HB := n0_; have BK188 := n1_; have GW188 := n2_; have GE188 := n3_; clear n0_ n1_ n2_ n3_; clear hb hbox hg; have hcz18_0 := ci BK188.out 0 a0_0 rfl; have hcz18_1 : w17.cell? ⟨gb188, 1, none⟩ = some (.string a0_1) := (blk_cell BK188.out 1).trans rfl; have hcz18_2 := ci BK188.out 2 a0_2 rfl; have hcz18_3 := ci BK188.out 3 a0_3 rfl; have hcz18_4 := ci BK188.out 4 a0_4 rfl; have hcz18_5 := ci BK188.out 5 a0_5 rfl; have hfz18_0 := fun j_ : Nat => blk_frozen BK188.out j_) | ((with_reducible refine gate_callee (f := 54) rfl ?_); refine goesL_ (some 5) rfl rfl Tryd.func54 (by kernel_rfl) rfl #[.int .i64 a0_0] rfl argsB ?_; (with_reducible refine (impl_isId.calls a0_0 true _ A2.out).mono ?_); rintro e w' ⟨rfl, ⟨nd, rfl⟩⟩; refine ⟨_, rfl, ?_⟩) | (go_at_call 55; (with_reducible refine (impl_isWord.calls a0_1 true _ A4.out).mono ?_); rintro e w19 ⟨rfl, hb⟩; have n0_ := Aside0.mk (blk_below (g := gb188) (o := .cells #[.int .i64 a0_0, .string a0_1, .int .i64 a0_2, .int .i64 a0_3, .int .i64 a0_4, .int .i64 a0_5] 26 (0, 0)) (upK BK188.out) hb); have n1_ := Aside0.mk (below_step (upB1 HB.out GE188.out) hb); clear BK188; clear HB; have BK188 := n0_; have HB := n1_; clear n0_ n1_; (try clear hb); have hcz20_0 := ci BK188.out 0 a0_0 rfl; have hcz20_1 : w19.cell? ⟨gb188, 1, none⟩ = some (.string a0_1) := (blk_cell BK188.out 1).trans rfl; have hcz20_2 := ci BK188.out 2 a0_2 rfl; have hcz20_3 := ci BK188.out 3 a0_3 rfl; have hcz20_4 := ci BK188.out 4 a0_4 rfl; have hcz20_5 := ci BK188.out 5 a0_5 rfl; have hfz20_0 := fun j_ : Nat => blk_frozen BK188.out j_) | (go_at_call 56; (with_reducible refine (impl_isDay.calls a0_2 true _ A6.out).mono ?_); rintro e w' ⟨rfl, ⟨nd, rfl⟩⟩) | (go_at_call 57; (with_reducible refine (impl_within.calls a0_3 a0_2 999 true _ A8.out).mono ?_); rintro e w' ⟨rfl, ⟨nd, rfl⟩⟩) | (go_at_call 57; (with_reducible refine (impl_within.calls a0_4 1 12 false _ A10.out).mono ?_); rintro e w' ⟨rfl, ⟨nd, rfl⟩⟩))
            go_ret
            exact ⟨by first | rfl | (simp [errW_none, errW_some] <;> rfl) | (simp [*, errW_none, errW_some] <;> rfl), (upB1 HB.out GE188.out)⟩
        · replace c9 := Bool.eq_false_iff.mpr c9
          subst c9
          have H1 : (some false) = some r := by rw [if_neg (show ¬ (false = true) by decide)] at H; exact H
          clear H
          have H := H1
          clear H1
          obtain rfl := Option.some.inj H
          go_enter Tryd.func17, Tryd.ntmps17
          go_wp2_with (first | ((with_reducible refine gate_dst (N := 1) rfl ?_); refine box_event ?hg (N := 1) ?hd (cs := #[.int .i64 a0_0, .string a0_1, .int .i64 a0_2, .int .i64 a0_3, .int .i64 a0_4, .int .i64 a0_5]) (t := 26) ?hr ?_; (case hd => rfl); (case hg => rfl); (case hr => first | (go_simp; done) | (go_simp; rfl)); intro gb188 hg w21 hbox hb; have n0_ := Aside0.mk (below_step (upB HB.out) hb); have n1_ := Aside0.mk (hbox); have n2_ := Aside0.mk ((by rw [hg]; exact (below_size (upB HB.out)) : w.heap.size ≤ gb188)); have n3_ := Aside0.mk ((by rw [hg]; exact (below_size (upB HB.out)) : w.heap.size ≤ gb188)); clear HB; have HB := n0_; have BK188 := n1_; have GW188 := n2_; have GE188 := n3_; clear n0_ n1_ n2_ n3_; clear hb hbox hg; have hcz22_0 := ci BK188.out 0 a0_0 rfl; have hcz22_1 : w21.cell? ⟨gb188, 1, none⟩ = some (.string a0_1) := (blk_cell BK188.out 1).trans rfl; have hcz22_2 := ci BK188.out 2 a0_2 rfl; have hcz22_3 := ci BK188.out 3 a0_3 rfl; have hcz22_4 := ci BK188.out 4 a0_4 rfl; have hcz22_5 := ci BK188.out 5 a0_5 rfl; have hfz22_0 := fun j_ : Nat => blk_frozen BK188.out j_) | ((with_reducible refine gate_callee (f := 54) rfl ?_); refine goesL_ (some 5) rfl rfl Tryd.func54 (by kernel_rfl) rfl #[.int .i64 a0_0] rfl argsB ?_; (with_reducible refine (impl_isId.calls a0_0 true _ A2.out).mono ?_); rintro e w' ⟨rfl, ⟨nd, rfl⟩⟩; refine ⟨_, rfl, ?_⟩) | (go_at_call 55; (with_reducible refine (impl_isWord.calls a0_1 true _ A4.out).mono ?_); rintro e w23 ⟨rfl, hb⟩; have n0_ := Aside0.mk (blk_below (g := gb188) (o := .cells #[.int .i64 a0_0, .string a0_1, .int .i64 a0_2, .int .i64 a0_3, .int .i64 a0_4, .int .i64 a0_5] 26 (0, 0)) (upK BK188.out) hb); have n1_ := Aside0.mk (below_step (upB1 HB.out GE188.out) hb); clear BK188; clear HB; have BK188 := n0_; have HB := n1_; clear n0_ n1_; (try clear hb); have hcz24_0 := ci BK188.out 0 a0_0 rfl; have hcz24_1 : w23.cell? ⟨gb188, 1, none⟩ = some (.string a0_1) := (blk_cell BK188.out 1).trans rfl; have hcz24_2 := ci BK188.out 2 a0_2 rfl; have hcz24_3 := ci BK188.out 3 a0_3 rfl; have hcz24_4 := ci BK188.out 4 a0_4 rfl; have hcz24_5 := ci BK188.out 5 a0_5 rfl; have hfz24_0 := fun j_ : Nat => blk_frozen BK188.out j_) | (go_at_call 56; (with_reducible refine (impl_isDay.calls a0_2 true _ A6.out).mono ?_); rintro e w' ⟨rfl, ⟨nd, rfl⟩⟩) | (go_at_call 57; (with_reducible refine (impl_within.calls a0_3 a0_2 999 false _ A8.out).mono ?_); rintro e w' ⟨rfl, ⟨nd, rfl⟩⟩))
          go_ret
          exact ⟨by first | rfl | (simp [errW_none, errW_some] <;> rfl) | (simp [*, errW_none, errW_some] <;> rfl), (upB1 HB.out GE188.out)⟩
      · replace c7 := Bool.eq_false_iff.mpr c7
        subst c7
        have H1 : (some false) = some r := by rw [if_neg (show ¬ (false = true) by decide)] at H; exact H
        clear H
        have H := H1
        clear H1
        obtain rfl := Option.some.inj H
        go_enter Tryd.func17, Tryd.ntmps17
        go_wp2_with (first | ((with_reducible refine gate_dst (N := 1) rfl ?_); refine box_event ?hg (N := 1) ?hd (cs := #[.int .i64 a0_0, .string a0_1, .int .i64 a0_2, .int .i64 a0_3, .int .i64 a0_4, .int .i64 a0_5]) (t := 26) ?hr ?_; (case hd => rfl); (case hg => rfl); (case hr => first | (go_simp; done) | (go_simp; rfl)); intro gb188 hg w25 hbox hb; have n0_ := Aside0.mk (below_step (upB HB.out) hb); have n1_ := Aside0.mk (hbox); have n2_ := Aside0.mk ((by rw [hg]; exact (below_size (upB HB.out)) : w.heap.size ≤ gb188)); have n3_ := Aside0.mk ((by rw [hg]; exact (below_size (upB HB.out)) : w.heap.size ≤ gb188)); clear HB; have HB := n0_; have BK188 := n1_; have GW188 := n2_; have GE188 := n3_; clear n0_ n1_ n2_ n3_; clear hb hbox hg; have hcz26_0 := ci BK188.out 0 a0_0 rfl; have hcz26_1 : w25.cell? ⟨gb188, 1, none⟩ = some (.string a0_1) := (blk_cell BK188.out 1).trans rfl; have hcz26_2 := ci BK188.out 2 a0_2 rfl; have hcz26_3 := ci BK188.out 3 a0_3 rfl; have hcz26_4 := ci BK188.out 4 a0_4 rfl; have hcz26_5 := ci BK188.out 5 a0_5 rfl; have hfz26_0 := fun j_ : Nat => blk_frozen BK188.out j_) | ((with_reducible refine gate_callee (f := 54) rfl ?_); refine goesL_ (some 5) rfl rfl Tryd.func54 (by kernel_rfl) rfl #[.int .i64 a0_0] rfl argsB ?_; (with_reducible refine (impl_isId.calls a0_0 true _ A2.out).mono ?_); rintro e w' ⟨rfl, ⟨nd, rfl⟩⟩; refine ⟨_, rfl, ?_⟩) | (go_at_call 55; (with_reducible refine (impl_isWord.calls a0_1 true _ A4.out).mono ?_); rintro e w27 ⟨rfl, hb⟩; have n0_ := Aside0.mk (blk_below (g := gb188) (o := .cells #[.int .i64 a0_0, .string a0_1, .int .i64 a0_2, .int .i64 a0_3, .int .i64 a0_4, .int .i64 a0_5] 26 (0, 0)) (upK BK188.out) hb); have n1_ := Aside0.mk (below_step (upB1 HB.out GE188.out) hb); clear BK188; clear HB; have BK188 := n0_; have HB := n1_; clear n0_ n1_; (try clear hb); have hcz28_0 := ci BK188.out 0 a0_0 rfl; have hcz28_1 : w27.cell? ⟨gb188, 1, none⟩ = some (.string a0_1) := (blk_cell BK188.out 1).trans rfl; have hcz28_2 := ci BK188.out 2 a0_2 rfl; have hcz28_3 := ci BK188.out 3 a0_3 rfl; have hcz28_4 := ci BK188.out 4 a0_4 rfl; have hcz28_5 := ci BK188.out 5 a0_5 rfl; have hfz28_0 := fun j_ : Nat => blk_frozen BK188.out j_) | (go_at_call 56; (with_reducible refine (impl_isDay.calls a0_2 false _ A6.out).mono ?_); rintro e w' ⟨rfl, ⟨nd, rfl⟩⟩))
        go_ret
        exact ⟨by first | rfl | (simp [errW_none, errW_some] <;> rfl) | (simp [*, errW_none, errW_some] <;> rfl), (upB1 HB.out GE188.out)⟩
    · replace c5 := Bool.eq_false_iff.mpr c5
      subst c5
      have H1 : (some false) = some r := by rw [if_neg (show ¬ (false = true) by decide)] at H; exact H
      clear H
      have H := H1
      clear H1
      obtain rfl := Option.some.inj H
      go_enter Tryd.func17, Tryd.ntmps17
      go_wp2_with (first | ((with_reducible refine gate_dst (N := 1) rfl ?_); refine box_event ?hg (N := 1) ?hd (cs := #[.int .i64 a0_0, .string a0_1, .int .i64 a0_2, .int .i64 a0_3, .int .i64 a0_4, .int .i64 a0_5]) (t := 26) ?hr ?_; (case hd => rfl); (case hg => rfl); (case hr => first | (go_simp; done) | (go_simp; rfl)); intro gb188 hg w29 hbox hb; have n0_ := Aside0.mk (below_step (upB HB.out) hb); have n1_ := Aside0.mk (hbox); have n2_ := Aside0.mk ((by rw [hg]; exact (below_size (upB HB.out)) : w.heap.size ≤ gb188)); have n3_ := Aside0.mk ((by rw [hg]; exact (below_size (upB HB.out)) : w.heap.size ≤ gb188)); clear HB; have HB := n0_; have BK188 := n1_; have GW188 := n2_; have GE188 := n3_; clear n0_ n1_ n2_ n3_; clear hb hbox hg; have hcz30_0 := ci BK188.out 0 a0_0 rfl; have hcz30_1 : w29.cell? ⟨gb188, 1, none⟩ = some (.string a0_1) := (blk_cell BK188.out 1).trans rfl; have hcz30_2 := ci BK188.out 2 a0_2 rfl; have hcz30_3 := ci BK188.out 3 a0_3 rfl; have hcz30_4 := ci BK188.out 4 a0_4 rfl; have hcz30_5 := ci BK188.out 5 a0_5 rfl; have hfz30_0 := fun j_ : Nat => blk_frozen BK188.out j_) | ((with_reducible refine gate_callee (f := 54) rfl ?_); refine goesL_ (some 5) rfl rfl Tryd.func54 (by kernel_rfl) rfl #[.int .i64 a0_0] rfl argsB ?_; (with_reducible refine (impl_isId.calls a0_0 true _ A2.out).mono ?_); rintro e w' ⟨rfl, ⟨nd, rfl⟩⟩; refine ⟨_, rfl, ?_⟩) | (go_at_call 55; (with_reducible refine (impl_isWord.calls a0_1 false _ A4.out).mono ?_); rintro e w31 ⟨rfl, hb⟩; have n0_ := Aside0.mk (blk_below (g := gb188) (o := .cells #[.int .i64 a0_0, .string a0_1, .int .i64 a0_2, .int .i64 a0_3, .int .i64 a0_4, .int .i64 a0_5] 26 (0, 0)) (upK BK188.out) hb); have n1_ := Aside0.mk (below_step (upB1 HB.out GE188.out) hb); clear BK188; clear HB; have BK188 := n0_; have HB := n1_; clear n0_ n1_; (try clear hb)))
      go_ret
      exact ⟨by first | rfl | (simp [errW_none, errW_some] <;> rfl) | (simp [*, errW_none, errW_some] <;> rfl), (upB1 HB.out GE188.out)⟩
  · replace c3 := Bool.eq_false_iff.mpr c3
    subst c3
    have H1 : (some false) = some r := by rw [if_neg (show ¬ (false = true) by decide)] at H; exact H
    clear H
    have H := H1
    clear H1
    obtain rfl := Option.some.inj H
    go_enter Tryd.func17, Tryd.ntmps17
    go_wp2_with (first | ((with_reducible refine gate_dst (N := 1) rfl ?_); refine box_event ?hg (N := 1) ?hd (cs := #[.int .i64 a0_0, .string a0_1, .int .i64 a0_2, .int .i64 a0_3, .int .i64 a0_4, .int .i64 a0_5]) (t := 26) ?hr ?_; (case hd => rfl); (case hg => rfl); (case hr => first | (go_simp; done) | (go_simp; rfl)); intro gb188 hg w32 hbox hb; have n0_ := Aside0.mk (below_step (upB HB.out) hb); have n1_ := Aside0.mk (hbox); have n2_ := Aside0.mk ((by rw [hg]; exact (below_size (upB HB.out)) : w.heap.size ≤ gb188)); have n3_ := Aside0.mk ((by rw [hg]; exact (below_size (upB HB.out)) : w.heap.size ≤ gb188)); clear HB; have HB := n0_; have BK188 := n1_; have GW188 := n2_; have GE188 := n3_; clear n0_ n1_ n2_ n3_; clear hb hbox hg; have hcz33_0 := ci BK188.out 0 a0_0 rfl; have hcz33_1 : w32.cell? ⟨gb188, 1, none⟩ = some (.string a0_1) := (blk_cell BK188.out 1).trans rfl; have hcz33_2 := ci BK188.out 2 a0_2 rfl; have hcz33_3 := ci BK188.out 3 a0_3 rfl; have hcz33_4 := ci BK188.out 4 a0_4 rfl; have hcz33_5 := ci BK188.out 5 a0_5 rfl; have hfz33_0 := fun j_ : Nat => blk_frozen BK188.out j_) | ((with_reducible refine gate_callee (f := 54) rfl ?_); refine goesL_ (some 5) rfl rfl Tryd.func54 (by kernel_rfl) rfl #[.int .i64 a0_0] rfl argsB ?_; (with_reducible refine (impl_isId.calls a0_0 false _ A2.out).mono ?_); rintro e w' ⟨rfl, ⟨nd, rfl⟩⟩; refine ⟨_, rfl, ?_⟩))
    go_ret
    exact ⟨by first | rfl | (simp [errW_none, errW_some] <;> rfl) | (simp [*, errW_none, errW_some] <;> rfl), (upB1 HB.out GE188.out)⟩

-- NOT PRINTED: function 92 (impl_Permit_92)

-- NOT PRINTED: function 59 (impl_Permit_59)

/-! ### impl_Permit_counts: function 72 -/
def impl_Permit_counts.f (a0_0 : Int) (a0_1 : ByteArray) (a0_2 : Int) (a0_3 : Int) (a0_4 : Int) (a0_5 : Int) : Option (Bool) := if a0_5 = 1 then (some true) else (some (a0_5 == 3))
set_option maxHeartbeats 8000000 in
set_option maxRecDepth 100000 in
theorem impl_Permit_counts.calls (a0_0 : Int) (a0_1 : ByteArray) (a0_2 : Int) (a0_3 : Int) (a0_4 : Int) (a0_5 : Int) (r : Bool) (w : World) (h : impl_Permit_counts.f a0_0 a0_1 a0_2 a0_3 a0_4 a0_5 = some r) :
    Calls Tryd.prog 72 #[.agg #[.int .i64 a0_0, .string a0_1, .int .i64 a0_2, .int .i64 a0_3, .int .i64 a0_4, .int .i64 a0_5]] w fun e w' => e = .returned (.bool r) ∧ Below w.heap.size w w' := by
  have hu26 := Tryd.underlying26
  have HB := Aside0.mk (Below.refl w.heap.size w)
  have H : (if a0_5 = 1 then (some true) else (some (a0_5 == 3))) = some r := h
  clear h
  by_cases c2 : a0_5 = 1
  · rw [if_pos c2] at H
    have c2b0 : (a0_5 == 1) = true := beq_iff_eq.mpr c2
    have c2b1 : (a0_5 != 1) = false := bne_eq_false_iff_eq.mpr c2
    clear c2
    obtain rfl := Option.some.inj H
    go_enter Tryd.func72, Tryd.ntmps72
    go_wp2_with (first | ((with_reducible refine gate_dst (N := 1) rfl ?_); refine box_event ?hg (N := 1) ?hd (cs := #[.int .i64 a0_0, .string a0_1, .int .i64 a0_2, .int .i64 a0_3, .int .i64 a0_4, .int .i64 a0_5]) (t := 26) ?hr ?_; (case hd => rfl); (case hg => rfl); (case hr => first | (go_simp; done) | (go_simp; rfl)); intro gb195 hg w3 hbox hb; have n0_ := Aside0.mk (below_step (upB HB.out) hb); have n1_ := Aside0.mk (hbox); have n2_ := Aside0.mk ((by rw [hg]; exact (below_size (upB HB.out)) : w.heap.size ≤ gb195)); have n3_ := Aside0.mk ((by rw [hg]; exact (below_size (upB HB.out)) : w.heap.size ≤ gb195)); clear HB; have HB := n0_; have BK195 := n1_; have GW195 := n2_; have GE195 := n3_; clear n0_ n1_ n2_ n3_; clear hb hbox hg; have hcz4_0 := ci BK195.out 0 a0_0 rfl; have hcz4_1 : w3.cell? ⟨gb195, 1, none⟩ = some (.string a0_1) := (blk_cell BK195.out 1).trans rfl; have hcz4_2 := ci BK195.out 2 a0_2 rfl; have hcz4_3 := ci BK195.out 3 a0_3 rfl; have hcz4_4 := ci BK195.out 4 a0_4 rfl; have hcz4_5 := ci BK195.out 5 a0_5 rfl; have hfz4_0 := fun j_ : Nat => blk_frozen BK195.out j_))
    go_ret
    exact ⟨by first | rfl | (simp [errW_none, errW_some] <;> rfl) | (simp [*, errW_none, errW_some] <;> rfl), (upB1 HB.out GE195.out)⟩
  · rw [if_neg c2] at H
    have c2b0 : (a0_5 == 1) = false := beq_eq_false_iff_ne.mpr c2
    have c2b1 : (a0_5 != 1) = true := bne_iff_ne.mpr c2
    obtain rfl := Option.some.inj H
    go_enter Tryd.func72, Tryd.ntmps72
    go_wp2_with (first | ((with_reducible refine gate_dst (N := 1) rfl ?_); refine box_event ?hg (N := 1) ?hd (cs := #[.int .i64 a0_0, .string a0_1, .int .i64 a0_2, .int .i64 a0_3, .int .i64 a0_4, .int .i64 a0_5]) (t := 26) ?hr ?_; (case hd => rfl); (case hg => rfl); (case hr => first | (go_simp; done) | (go_simp; rfl)); intro gb195 hg w5 hbox hb; have n0_ := Aside0.mk (below_step (upB HB.out) hb); have n1_ := Aside0.mk (hbox); have n2_ := Aside0.mk ((by rw [hg]; exact (below_size (upB HB.out)) : w.heap.size ≤ gb195)); have n3_ := Aside0.mk ((by rw [hg]; exact (below_size (upB HB.out)) : w.heap.size ≤ gb195)); clear HB; have HB := n0_; have BK195 := n1_; have GW195 := n2_; have GE195 := n3_; clear n0_ n1_ n2_ n3_; clear hb hbox hg; have hcz6_0 := ci BK195.out 0 a0_0 rfl; have hcz6_1 : w5.cell? ⟨gb195, 1, none⟩ = some (.string a0_1) := (blk_cell BK195.out 1).trans rfl; have hcz6_2 := ci BK195.out 2 a0_2 rfl; have hcz6_3 := ci BK195.out 3 a0_3 rfl; have hcz6_4 := ci BK195.out 4 a0_4 rfl; have hcz6_5 := ci BK195.out 5 a0_5 rfl; have hfz6_0 := fun j_ : Nat => blk_frozen BK195.out j_))
    go_ret
    exact ⟨by first | rfl | (simp [errW_none, errW_some] <;> rfl) | (simp [*, errW_none, errW_some] <;> rfl), (upB1 HB.out GE195.out)⟩

end Go.Proofs.YtgeioccfjgpijaaDoor.QFnExactFreeDays
