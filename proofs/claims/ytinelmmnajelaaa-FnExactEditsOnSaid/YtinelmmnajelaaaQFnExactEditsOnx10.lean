/- Contracts of Go functions that FnExactEditsOn reaches: the call computes what the plain function says. No condition. -/
import Derived.Test.YtinelmmnajelaaaQFnExactEditsOnx0
import Derived.Test.YtinelmmnajelaaaQFnExactEditsOnx6
import Derived.Test.YtinelmmnajelaaaQFnExactEditsOnx9
namespace Go.Proofs.Ytinelmmnajelaaa.QFnExactEditsOn
open Go.RowKit Go.Proofs.YtinelmmnajelaaaW.PrintWords Go.Proofs.YtinelmmnajelaaaW.PrintLast Go.Proofs.YtinelmmnajelaaaW.PrintMore
attribute [local go_sem] max2_int min2_int max_two min_two max_three min_three max_four min_four   -- for this text's walks alone
set_option linter.unusedVariables false
set_option linter.unusedSimpArgs false

/-! ### impl_EditsOn: function 36 -/
mutual
def impl_EditsOn.j0 : Nat → List (S28) → Int → Bool → Option (List Int × Bool)
  | 0, _, _, _ => none
  | k + 1, x1, x2, x19 => if x19 = true then (some (([] : List Int), false)) else (impl_EditsOn.l0 k x2 ([] : List Int) x1 (x1.length : Int) 0)
def impl_EditsOn.l0 : Nat → Int → List Int → List (S28) → Int → Int → Option (List Int × Bool)
  | 0, _, _, _, _, _ => none
  | k + 1, x2, x8, x20, x21, x22 => if x22 < x21 then (if 0 ≤ x22 then (if x22 < (x20.length : Int) then ((impl_touches.f ((rd_T28 x20 x22).f2.f0) ((rd_T28 x20 x22).f2.f1) ((rd_T28 x20 x22).f2.f2) ((rd_T28 x20 x22).f2.f3) ((rd_T28 x20 x22).f2.f4) x2).bind fun t322 => (if t322 = true then (if x8.length < 17592186044416 then (impl_EditsOn.l0 k x2 (x8 ++ [x22]) x20 x21 (wrap64 (x22 + 1))) else (none)) else ((impl_touches.f ((rd_T28 x20 x22).f3.f0) ((rd_T28 x20 x22).f3.f1) ((rd_T28 x20 x22).f3.f2) ((rd_T28 x20 x22).f3.f3) ((rd_T28 x20 x22).f3.f4) x2).bind fun t326 => (if t326 = true then (if x8.length < 17592186044416 then (impl_EditsOn.l0 k x2 (x8 ++ [x22]) x20 x21 (wrap64 (x22 + 1))) else (none)) else (impl_EditsOn.l0 k x2 x8 x20 x21 (wrap64 (x22 + 1))))))) else (none)) else (none)) else (some (x8, true))
end
def impl_EditsOn.f (k : Nat) (l0 : List (S26)) (l1 : List (S28)) (a2 : Int) : Option (List Int × Bool) := (impl_IsHistory.f k l0 l1).bind fun t318 => (if t318 = true then ((impl_isStation.f a2).bind fun t319 => (impl_EditsOn.j0 k l1 a2 (!t319))) else (impl_EditsOn.j0 k l1 a2 true))
theorem impl_EditsOn.mono_l : ∀ k, (∀ y0 y1 y2, LeO (impl_EditsOn.j0 k y0 y1 y2) (impl_EditsOn.j0 (k + 1) y0 y1 y2)) ∧ (∀ y0 y1 y2 y3 y4, LeO (impl_EditsOn.l0 k y0 y1 y2 y3 y4) (impl_EditsOn.l0 (k + 1) y0 y1 y2 y3 y4))
  | 0 => ⟨fun _ _ _ r h => by simp [impl_EditsOn.j0] at h, fun _ _ _ _ _ r h => by simp [impl_EditsOn.l0] at h⟩
  | k + 1 => by
    obtain ⟨ih0, ih1⟩ := impl_EditsOn.mono_l k
    refine ⟨?_, ?_⟩
    · intro y0 y1 y2
      unfold impl_EditsOn.j0
      repeat' first
      | (with_reducible exact ih0 _ _ _)
      | (with_reducible exact ih1 _ _ _ _ _)
      | (with_reducible exact impl_IsHistory.mono _ _ _)
      | (with_reducible exact LeO.refl _)
      | (with_reducible exact LeO.none _)
      | (with_reducible refine LeO.ite ?_ ?_)
      | (with_reducible refine LeO.bind ?_ (fun _ => ?_))
      | exact ih0 _ _ _
      | exact ih1 _ _ _ _ _
      | exact impl_IsHistory.mono _ _ _
      | exact LeO.none _
      | refine LeO.ite ?_ ?_
      | refine LeO.bind ?_ (fun _ => ?_)
    · intro y0 y1 y2 y3 y4
      unfold impl_EditsOn.l0
      repeat' first
      | (with_reducible exact ih0 _ _ _)
      | (with_reducible exact ih1 _ _ _ _ _)
      | (with_reducible exact impl_IsHistory.mono _ _ _)
      | (with_reducible exact LeO.refl _)
      | (with_reducible exact LeO.none _)
      | (with_reducible refine LeO.ite ?_ ?_)
      | (with_reducible refine LeO.bind ?_ (fun _ => ?_))
      | exact ih0 _ _ _
      | exact ih1 _ _ _ _ _
      | exact impl_IsHistory.mono _ _ _
      | exact LeO.none _
      | refine LeO.ite ?_ ?_
      | refine LeO.bind ?_ (fun _ => ?_)
theorem impl_EditsOn.mono : ∀ a0 a1 a2 k, LeO (impl_EditsOn.f k a0 a1 a2) (impl_EditsOn.f (k + 1) a0 a1 a2) := by
  intro a0 a1 a2 k
  obtain ⟨ih0, ih1⟩ := impl_EditsOn.mono_l k
  unfold impl_EditsOn.f
  repeat' first
      | (with_reducible exact ih0 _ _ _)
      | (with_reducible exact ih1 _ _ _ _ _)
      | (with_reducible exact impl_IsHistory.mono _ _ _)
      | (with_reducible exact LeO.refl _)
      | (with_reducible exact LeO.none _)
      | (with_reducible refine LeO.ite ?_ ?_)
      | (with_reducible refine LeO.bind ?_ (fun _ => ?_))
      | exact ih0 _ _ _
      | exact ih1 _ _ _ _ _
      | exact impl_IsHistory.mono _ _ _
      | exact LeO.none _
      | refine LeO.ite ?_ ?_
      | refine LeO.bind ?_ (fun _ => ?_)
set_option maxHeartbeats 8000000 in
set_option maxRecDepth 100000 in
theorem impl_EditsOn.calls (k : Nat) (A0 : Option Addr) (c0 : Nat) (l0 : List (S26)) (A1 : Option Addr) (c1 : Nat) (l1 : List (S28)) (a2 : Int) (r1 : List Int) (r2 : Bool) (w : World) (hr0 : Kd.C k26 w A0 l0.length l0) (hc0 : l0.length ≤ c0) (hr1 : Kd.C k28 w A1 l1.length l1) (hc1 : l1.length ≤ c1) (h : impl_EditsOn.f k l0 l1 a2 = some (r1, r2)) :
    Calls Try.prog 36 #[.slice A0 l0.length c0, .slice A1 l1.length c1, .int .i64 a2] w fun e w' => ∃ v0_ : Value, e = .returned (.tuple #[v0_, .bool r2]) ∧ Kd.R (Kd.int .i64) 3 w' w.heap.size (fun _ => True) v0_ r1 ∧ Below w.heap.size w w' := by
  have hu28 := Try.underlying28
  have hu26 := Try.underlying26
  have HR0 := Aside0.mk hr0
  have HC0 := Aside0.mk hc0
  clear hr0 hc0
  have HR1 := Aside0.mk hr1
  have HC1 := Aside0.mk hc1
  clear hr1 hc1
  have HB := Aside0.mk (Below.refl w.heap.size w)
  have H : ((impl_IsHistory.f k l0 l1).bind fun t318 => (if t318 = true then ((impl_isStation.f a2).bind fun t319 => (impl_EditsOn.j0 k l1 a2 (!t319))) else (impl_EditsOn.j0 k l1 a2 true))) = some (r1, r2) := h
  clear h
  have HC4 := Aside0.mk H
  clear H
  go_enter Try.func36, Try.ntmps36
  go_upto_region 1 with (fail)
  go_cut [19] (fun v19 wc => ∃ (kq : Nat) (x19_3 : Bool), v19 = .bool x19_3 ∧ Aside0 (impl_EditsOn.j0 kq l1 a2 x19_3 = some (r1, r2)) ∧ Aside0 (kq ≤ k) ∧ Aside0 (Below w.heap.size w wc))
  case first =>
    have H := HC4.out
    clear HC4
    replace H := Option.bind_eq_some_iff.mp H
    obtain ⟨t318, A50, H⟩ := H
    replace H : (if t318 = true then ((impl_isStation.f a2).bind fun t319 => (impl_EditsOn.j0 k l1 a2 (!t319))) else (impl_EditsOn.j0 k l1 a2 true)) = some (r1, r2) := H
    have A5 := Aside0.mk A50
    clear A50
    by_cases c6 : t318 = true
    · subst c6
      have H1 : ((impl_isStation.f a2).bind fun t319 => (impl_EditsOn.j0 k l1 a2 (!t319))) = some (r1, r2) := by rw [if_pos rfl] at H; exact H
      clear H
      have H := H1
      clear H1
      replace H := Option.bind_eq_some_iff.mp H
      obtain ⟨t319, A70, H⟩ := H
      replace H : (impl_EditsOn.j0 k l1 a2 (!t319)) = some (r1, r2) := H
      have A7 := Aside0.mk A70
      clear A70
      have H' := Aside0.mk H
      clear H
      go_wp2_with (first | ((with_reducible refine gate_callee (f := 32) rfl ?_); refine goesL_ (some 13) rfl rfl Try.func32 (by kernel_rfl) rfl #[.slice A0 l0.length c0, .slice A1 l1.length c1] rfl argsB ?_; (with_reducible refine (impl_IsHistory.calls k _ _ l0 _ _ l1 true _ ?side1 ?side2 ?side3 ?side4 A5.out).mono ?_); (case side1 => repeat (first | exact (Kd.C_below HR0.out HB.out) | (with_reducible refine Kd.C_alloc ?_ _) | (with_reducible refine Kd.C_drewN ?_ _) | (with_reducible refine Kd.C_drew ?_))); (case side2 => exact HC0.out); (case side3 => repeat (first | exact (Kd.C_below HR1.out HB.out) | (with_reducible refine Kd.C_alloc ?_ _) | (with_reducible refine Kd.C_drewN ?_ _) | (with_reducible refine Kd.C_drew ?_))); (case side4 => exact HC1.out); rintro e w8 ⟨rfl, hb⟩; refine ⟨_, rfl, ?_⟩; have n0_ := Aside0.mk (below_step (upB HB.out) hb); clear HB; have HB := n0_; clear n0_; (try clear hb); (try clear hk)) | (go_at_call 75; (with_reducible refine (impl_isStation.calls a2 t319 _ A7.out).mono ?_); rintro e w' ⟨rfl, ⟨nd, rfl⟩⟩))
      go_meet
      case rel => exact ⟨_, (!t319), (by first | rfl | (simp; done) | (simp [*]; done)), H', ⟨by first | omega | exact Nat.le_refl _⟩, ⟨(upB HB.out)⟩⟩
    · replace c6 := Bool.eq_false_iff.mpr c6
      subst c6
      have H1 : (impl_EditsOn.j0 k l1 a2 true) = some (r1, r2) := by rw [if_neg (show ¬ (false = true) by decide)] at H; exact H
      clear H
      have H := H1
      clear H1
      have H' := Aside0.mk H
      clear H
      go_wp2_with (first | ((with_reducible refine gate_callee (f := 32) rfl ?_); refine goesL_ (some 13) rfl rfl Try.func32 (by kernel_rfl) rfl #[.slice A0 l0.length c0, .slice A1 l1.length c1] rfl argsB ?_; (with_reducible refine (impl_IsHistory.calls k _ _ l0 _ _ l1 false _ ?side1 ?side2 ?side3 ?side4 A5.out).mono ?_); (case side1 => repeat (first | exact (Kd.C_below HR0.out HB.out) | (with_reducible refine Kd.C_alloc ?_ _) | (with_reducible refine Kd.C_drewN ?_ _) | (with_reducible refine Kd.C_drew ?_))); (case side2 => exact HC0.out); (case side3 => repeat (first | exact (Kd.C_below HR1.out HB.out) | (with_reducible refine Kd.C_alloc ?_ _) | (with_reducible refine Kd.C_drewN ?_ _) | (with_reducible refine Kd.C_drew ?_))); (case side4 => exact HC1.out); rintro e w9 ⟨rfl, hb⟩; refine ⟨_, rfl, ?_⟩; have n0_ := Aside0.mk (below_step (upB HB.out) hb); clear HB; have HB := n0_; clear n0_; (try clear hb); (try clear hk)))
      go_meet
      case rel => exact ⟨_, (true), (by first | rfl | (simp; done) | (simp [*]; done)), H', ⟨by first | omega | exact Nat.le_refl _⟩, ⟨(upB HB.out)⟩⟩
  case rest =>
    clear HC4
    try clear c1
    try clear c6
    obtain ⟨kq, x19_3, rfl, HA, HJ3, HB⟩ := hcut
    cases kq with
    | zero => exact absurd HA.out (by simp [impl_EditsOn.j0])
    | succ kj3 =>
      have H := HA.out
      clear HA
      simp only [impl_EditsOn.j0] at H
      by_cases c10 : x19_3 = true
      · subst c10
        have H1 : (some (([] : List Int), false)) = some (r1, r2) := by rw [if_pos rfl] at H; exact H
        clear H
        have H := H1
        clear H1
        simp only [Option.some.injEq, Prod.mk.injEq] at H
        obtain ⟨rfl, rfl⟩ := H
        go_wp2
        go_ret2
        exact ⟨_, by first | rfl | (simp [errW_none, errW_some] <;> rfl) | (simp [*, errW_none, errW_some] <;> rfl), by first | exact Kd.R_nil _ _ _ _ _ | exact Kd.N_nil _ _ _ _ _ | exact Kd.V_nil _ _ _ _ _ | exact Kd.Q_nil _ _ _ _ _ | exact Kd.S_nil _ _ _ _ _, (upB HB.out)⟩
      · replace c10 := Bool.eq_false_iff.mpr c10
        subst c10
        have H1 : (impl_EditsOn.l0 kj3 a2 ([] : List Int) l1 (l1.length : Int) 0) = some (r1, r2) := by rw [if_neg (show ¬ (false = true) by decide)] at H; exact H
        clear H
        have H := H1
        clear H1
        have H' := Aside0.mk H
        clear H
        go_wp2
        go_loopg [8, 22] kj3 (fun kq v8 v22 w' => ∃ (x8_2 : List Int) (x22_2 : Int), v22 = .int .i64 x22_2 ∧ Aside0 (impl_EditsOn.l0 kq a2 x8_2 l1 (l1.length : Int) x22_2 = some (r1, r2)) ∧ Aside0 (kq ≤ kj3) ∧ Aside0 (Kd.R (Kd.int .i64) 3 w' w.heap.size (fun _ => True) v8 x8_2) ∧ Aside0 (Below w.heap.size w w'))
        case atStart => exact ⟨(([] : List Int)), (0), (by first | rfl | (simp; done) | (simp [*]; done)), H', ⟨Nat.le_refl _⟩, ⟨by first | exact Kd.R_nil _ _ _ _ _ | exact Kd.N_nil _ _ _ _ _ | exact Kd.V_nil _ _ _ _ _ | exact Kd.Q_nil _ _ _ _ _ | exact Kd.S_nil _ _ _ _ _⟩, ⟨(upB HB.out)⟩⟩
        case round =>
          clear H'
          try clear c1
          try clear c6
          try clear c10
          obtain ⟨x8_2, x22_2, rfl, HA, HK2, HO_8, HB⟩ := hrel
          cases gk with
          | zero => exact absurd HA.out (by simp [impl_EditsOn.l0])
          | succ k2 =>
            have H := HA.out
            clear HA
            simp only [impl_EditsOn.l0] at H
            by_cases c11 : x22_2 < (l1.length : Int)
            · rw [if_pos c11] at H
              have c11b0 : decide (x22_2 < (l1.length : Int)) = true := decide_eq_true c11
              clear c11
              by_cases c12 : 0 ≤ x22_2
              · rw [if_pos c12] at H
                have c12b0 : decide (0 ≤ x22_2) = true := decide_eq_true c12
                clear c12
                by_cases c13 : x22_2 < (l1.length : Int)
                · rw [if_pos c13] at H
                  have c13b0 : decide (x22_2 < (l1.length : Int)) = true := decide_eq_true c13
                  clear c13
                  replace H := Option.bind_eq_some_iff.mp H
                  obtain ⟨t322, A140, H⟩ := H
                  replace H : (if t322 = true then (if x8_2.length < 17592186044416 then (impl_EditsOn.l0 k2 a2 (x8_2 ++ [x22_2]) l1 (l1.length : Int) (wrap64 (x22_2 + 1))) else (none)) else ((impl_touches.f ((rd_T28 l1 x22_2).f3.f0) ((rd_T28 l1 x22_2).f3.f1) ((rd_T28 l1 x22_2).f3.f2) ((rd_T28 l1 x22_2).f3.f3) ((rd_T28 l1 x22_2).f3.f4) a2).bind fun t326 => (if t326 = true then (if x8_2.length < 17592186044416 then (impl_EditsOn.l0 k2 a2 (x8_2 ++ [x22_2]) l1 (l1.length : Int) (wrap64 (x22_2 + 1))) else (none)) else (impl_EditsOn.l0 k2 a2 x8_2 l1 (l1.length : Int) (wrap64 (x22_2 + 1)))))) = some (r1, r2) := H
                  have A14 := Aside0.mk A140
                  clear A140
                  by_cases c15 : t322 = true
                  · subst c15
                    have H1 : (if x8_2.length < 17592186044416 then (impl_EditsOn.l0 k2 a2 (x8_2 ++ [x22_2]) l1 (l1.length : Int) (wrap64 (x22_2 + 1))) else (none)) = some (r1, r2) := by rw [if_pos rfl] at H; exact H
                    clear H
                    have H := H1
                    clear H1
                    by_cases c16 : x8_2.length < 17592186044416
                    · rw [if_pos c16] at H
                      have LMc16 := Aside0.mk c16
                      clear c16
                      obtain ⟨y323, hy323⟩ : ∃ y_ : List Int, y_ = (x8_2 ++ [x22_2]) := ⟨_, rfl⟩
                      replace H : (impl_EditsOn.l0 k2 a2 y323 l1 (l1.length : Int) (wrap64 (x22_2 + 1))) = some (r1, r2) := by first | (rw [hy323]; with_reducible exact H) | (have H2_ := (Option.bind_some _ _).symm.trans H; rw [hy323]; with_reducible exact H2_) | (have H2_ := (Option.bind_some _ _).symm.trans H; with_reducible exact H2_) | with_reducible exact H | (rw [hy323]; exact H) | exact H
                      have Ny323 := Aside0.mk hy323
                      clear hy323
                      have H' := Aside0.mk H
                      clear H
                      have p320 : 0 ≤ (x22_2 : Int) := of_decide_eq_true asmB
                      have q320 : x22_2 < (l1.length : Int) := of_decide_eq_true asmB
                      obtain ⟨ad320, e320, hx320_0, hx320_1, hx320_2, hx320_3, hx320_4, hx320_5, hx320_6, hx320_7, hx320_8, hx320_9, hx320_10, hx320_11⟩ := at_T28 HR1.out x22_2 p320 q320
                      cases e320
                      replace hx320_0 := bx HB.out hx320_0
                      replace hx320_1 := bx HB.out hx320_1
                      replace hx320_2 := bx HB.out hx320_2
                      replace hx320_3 := bx HB.out hx320_3
                      replace hx320_4 := bx HB.out hx320_4
                      replace hx320_5 := bx HB.out hx320_5
                      replace hx320_6 := bx HB.out hx320_6
                      replace hx320_7 := bx HB.out hx320_7
                      replace hx320_8 := bx HB.out hx320_8
                      replace hx320_9 := bx HB.out hx320_9
                      replace hx320_10 := bx HB.out hx320_10
                      replace hx320_11 := bx HB.out hx320_11
                      replace p320 := eq_true p320
                      replace q320 := eq_true q320
                      go_wp2_with (first | ((with_reducible refine gate_dst (N := 10) rfl ?_); refine box_event ?hg (N := 10) ?hd (cs := #[.int .i64 0, .int .i64 0, .int .i64 0, .int .i64 0, .int .i64 0, .int .i64 0, .int .i64 0, .int .i64 0, .int .i64 0, .int .i64 0, .int .i64 0, .int .i64 0]) (t := 28) ?hr ?_; (case hd => rfl); (case hg => rfl); (case hr => first | (go_simp; done) | (go_simp; rfl)); intro gb321 hg w17 hbox hb; have n0_ := Aside0.mk (Kd.R_below (upR HO_8.out) hb); have n1_ := Aside0.mk (below_step (upB HB.out) hb); have n2_ := Aside0.mk (hbox); have n3_ := Aside0.mk ((by rw [hg]; exact (below_size (upB HB.out)) : w.heap.size ≤ gb321)); have n4_ := Aside0.mk ((by rw [hg]; exact (below_size (upB HB.out)) : w.heap.size ≤ gb321)); clear HO_8; clear HB; have HO_8 := n0_; have HB := n1_; have BK321 := n2_; have GW321 := n3_; have GE321 := n4_; clear n0_ n1_ n2_ n3_ n4_; clear hb hbox hg; have hcz18_0 := ci BK321.out 0 0 rfl; have hcz18_1 := ci BK321.out 1 0 rfl; have hcz18_2 := ci BK321.out 2 0 rfl; have hcz18_3 := ci BK321.out 3 0 rfl; have hcz18_4 := ci BK321.out 4 0 rfl; have hcz18_5 := ci BK321.out 5 0 rfl; have hcz18_6 := ci BK321.out 6 0 rfl; have hcz18_7 := ci BK321.out 7 0 rfl; have hcz18_8 := ci BK321.out 8 0 rfl; have hcz18_9 := ci BK321.out 9 0 rfl; have hcz18_10 := ci BK321.out 10 0 rfl; have hcz18_11 := ci BK321.out 11 0 rfl; have hfz18_0 := fun j_ : Nat => blk_frozen BK321.out j_) | ((with_reducible refine gate_callee (f := 76) rfl ?_); refine goesL_ (some 30) rfl rfl Try.func76 (by kernel_rfl) rfl #[.agg #[.int .i64 ((rd_T28 l1 x22_2).f2.f0), .int .i64 ((rd_T28 l1 x22_2).f2.f1), .int .i64 ((rd_T28 l1 x22_2).f2.f2), .int .i64 ((rd_T28 l1 x22_2).f2.f3), .int .i64 ((rd_T28 l1 x22_2).f2.f4)], .int .i64 a2] rfl argsB ?_; (with_reducible refine (impl_touches.calls ((rd_T28 l1 x22_2).f2.f0) ((rd_T28 l1 x22_2).f2.f1) ((rd_T28 l1 x22_2).f2.f2) ((rd_T28 l1 x22_2).f2.f3) ((rd_T28 l1 x22_2).f2.f4) a2 true _ A14.out).mono ?_); rintro e w19 ⟨rfl, hb⟩; refine ⟨_, rfl, ?_⟩; have n0_ := Aside0.mk (Kd.R_below (by (with_reducible repeat (first | apply Kd.R_alloc | apply Kd.R_drewN | apply Kd.R_drew)); exact (Kd.R_mono (Kd.R_far (p := ⟨gb321, 11, none⟩) (Kd.R_far (p := ⟨gb321, 10, none⟩) (Kd.R_far (p := ⟨gb321, 9, none⟩) (Kd.R_far (p := ⟨gb321, 8, none⟩) (Kd.R_far (p := ⟨gb321, 7, none⟩) (Kd.R_far (p := ⟨gb321, 6, none⟩) (Kd.R_far (p := ⟨gb321, 5, none⟩) (Kd.R_far (p := ⟨gb321, 4, none⟩) (Kd.R_far (p := ⟨gb321, 3, none⟩) (Kd.R_far (p := ⟨gb321, 2, none⟩) (Kd.R_far (p := ⟨gb321, 1, none⟩) (Kd.R_far (p := ⟨gb321, 0, none⟩) (Kd.R_types HO_8.out BK321.out (by decide)) (fun _ hk => hk.2) (.int .i64 ((rd_T28 l1 x22_2).f0))) (fun _ hk => hk.2) (.int .i64 ((rd_T28 l1 x22_2).f1))) (fun _ hk => hk.2) (.int .i64 ((rd_T28 l1 x22_2).f2.f0))) (fun _ hk => hk.2) (.int .i64 ((rd_T28 l1 x22_2).f2.f1))) (fun _ hk => hk.2) (.int .i64 ((rd_T28 l1 x22_2).f2.f2))) (fun _ hk => hk.2) (.int .i64 ((rd_T28 l1 x22_2).f2.f3))) (fun _ hk => hk.2) (.int .i64 ((rd_T28 l1 x22_2).f2.f4))) (fun _ hk => hk.2) (.int .i64 ((rd_T28 l1 x22_2).f3.f0))) (fun _ hk => hk.2) (.int .i64 ((rd_T28 l1 x22_2).f3.f1))) (fun _ hk => hk.2) (.int .i64 ((rd_T28 l1 x22_2).f3.f2))) (fun _ hk => hk.2) (.int .i64 ((rd_T28 l1 x22_2).f3.f3))) (fun _ hk => hk.2) (.int .i64 ((rd_T28 l1 x22_2).f3.f4))) (fun _ h_ => h_.1))) hb); have n1_ := Aside0.mk (blk_below (g := gb321) (o := .cells #[.int .i64 ((rd_T28 l1 x22_2).f0), .int .i64 ((rd_T28 l1 x22_2).f1), .int .i64 ((rd_T28 l1 x22_2).f2.f0), .int .i64 ((rd_T28 l1 x22_2).f2.f1), .int .i64 ((rd_T28 l1 x22_2).f2.f2), .int .i64 ((rd_T28 l1 x22_2).f2.f3), .int .i64 ((rd_T28 l1 x22_2).f2.f4), .int .i64 ((rd_T28 l1 x22_2).f3.f0), .int .i64 ((rd_T28 l1 x22_2).f3.f1), .int .i64 ((rd_T28 l1 x22_2).f3.f2), .int .i64 ((rd_T28 l1 x22_2).f3.f3), .int .i64 ((rd_T28 l1 x22_2).f3.f4)] 28 (0, 0)) (by (with_reducible repeat (first | refine blk_drewN ?_ _ | refine blk_drew ?_ | refine blk_alloc ?_ _)); refine blk_put (cs := #[.int .i64 ((rd_T28 l1 x22_2).f0), .int .i64 ((rd_T28 l1 x22_2).f1), .int .i64 ((rd_T28 l1 x22_2).f2.f0), .int .i64 ((rd_T28 l1 x22_2).f2.f1), .int .i64 ((rd_T28 l1 x22_2).f2.f2), .int .i64 ((rd_T28 l1 x22_2).f2.f3), .int .i64 ((rd_T28 l1 x22_2).f2.f4), .int .i64 ((rd_T28 l1 x22_2).f3.f0), .int .i64 ((rd_T28 l1 x22_2).f3.f1), .int .i64 ((rd_T28 l1 x22_2).f3.f2), .int .i64 ((rd_T28 l1 x22_2).f3.f3), .int .i64 0]) ?_ 11 _ rfl; (with_reducible repeat (first | refine blk_drewN ?_ _ | refine blk_drew ?_ | refine blk_alloc ?_ _)); refine blk_put (cs := #[.int .i64 ((rd_T28 l1 x22_2).f0), .int .i64 ((rd_T28 l1 x22_2).f1), .int .i64 ((rd_T28 l1 x22_2).f2.f0), .int .i64 ((rd_T28 l1 x22_2).f2.f1), .int .i64 ((rd_T28 l1 x22_2).f2.f2), .int .i64 ((rd_T28 l1 x22_2).f2.f3), .int .i64 ((rd_T28 l1 x22_2).f2.f4), .int .i64 ((rd_T28 l1 x22_2).f3.f0), .int .i64 ((rd_T28 l1 x22_2).f3.f1), .int .i64 ((rd_T28 l1 x22_2).f3.f2), .int .i64 0, .int .i64 0]) ?_ 10 _ rfl; (with_reducible repeat (first | refine blk_drewN ?_ _ | refine blk_drew ?_ | refine blk_alloc ?_ _)); refine blk_put (cs := #[.int .i64 ((rd_T28 l1 x22_2).f0), .int .i64 ((rd_T28 l1 x22_2).f1), .int .i64 ((rd_T28 l1 x22_2).f2.f0), .int .i64 ((rd_T28 l1 x22_2).f2.f1), .int .i64 ((rd_T28 l1 x22_2).f2.f2), .int .i64 ((rd_T28 l1 x22_2).f2.f3), .int .i64 ((rd_T28 l1 x22_2).f2.f4), .int .i64 ((rd_T28 l1 x22_2).f3.f0), .int .i64 ((rd_T28 l1 x22_2).f3.f1), .int .i64 0, .int .i64 0, .int .i64 0]) ?_ 9 _ rfl; (with_reducible repeat (first | refine blk_drewN ?_ _ | refine blk_drew ?_ | refine blk_alloc ?_ _)); refine blk_put (cs := #[.int .i64 ((rd_T28 l1 x22_2).f0), .int .i64 ((rd_T28 l1 x22_2).f1), .int .i64 ((rd_T28 l1 x22_2).f2.f0), .int .i64 ((rd_T28 l1 x22_2).f2.f1), .int .i64 ((rd_T28 l1 x22_2).f2.f2), .int .i64 ((rd_T28 l1 x22_2).f2.f3), .int .i64 ((rd_T28 l1 x22_2).f2.f4), .int .i64 ((rd_T28 l1 x22_2).f3.f0), .int .i64 0, .int .i64 0, .int .i64 0, .int .i64 0]) ?_ 8 _ rfl; (with_reducible repeat (first | refine blk_drewN ?_ _ | refine blk_drew ?_ | refine blk_alloc ?_ _)); refine blk_put (cs := #[.int .i64 ((rd_T28 l1 x22_2).f0), .int .i64 ((rd_T28 l1 x22_2).f1), .int .i64 ((rd_T28 l1 x22_2).f2.f0), .int .i64 ((rd_T28 l1 x22_2).f2.f1), .int .i64 ((rd_T28 l1 x22_2).f2.f2), .int .i64 ((rd_T28 l1 x22_2).f2.f3), .int .i64 ((rd_T28 l1 x22_2).f2.f4), .int .i64 0, .int .i64 0, .int .i64 0, .int .i64 0, .int .i64 0]) ?_ 7 _ rfl; (with_reducible repeat (first | refine blk_drewN ?_ _ | refine blk_drew ?_ | refine blk_alloc ?_ _)); refine blk_put (cs := #[.int .i64 ((rd_T28 l1 x22_2).f0), .int .i64 ((rd_T28 l1 x22_2).f1), .int .i64 ((rd_T28 l1 x22_2).f2.f0), .int .i64 ((rd_T28 l1 x22_2).f2.f1), .int .i64 ((rd_T28 l1 x22_2).f2.f2), .int .i64 ((rd_T28 l1 x22_2).f2.f3), .int .i64 0, .int .i64 0, .int .i64 0, .int .i64 0, .int .i64 0, .int .i64 0]) ?_ 6 _ rfl; (with_reducible repeat (first | refine blk_drewN ?_ _ | refine blk_drew ?_ | refine blk_alloc ?_ _)); refine blk_put (cs := #[.int .i64 ((rd_T28 l1 x22_2).f0), .int .i64 ((rd_T28 l1 x22_2).f1), .int .i64 ((rd_T28 l1 x22_2).f2.f0), .int .i64 ((rd_T28 l1 x22_2).f2.f1), .int .i64 ((rd_T28 l1 x22_2).f2.f2), .int .i64 0, .int .i64 0, .int .i64 0, .int .i64 0, .int .i64 0, .int .i64 0, .int .i64 0]) ?_ 5 _ rfl; (with_reducible repeat (first | refine blk_drewN ?_ _ | refine blk_drew ?_ | refine blk_alloc ?_ _)); refine blk_put (cs := #[.int .i64 ((rd_T28 l1 x22_2).f0), .int .i64 ((rd_T28 l1 x22_2).f1), .int .i64 ((rd_T28 l1 x22_2).f2.f0), .int .i64 ((rd_T28 l1 x22_2).f2.f1), .int .i64 0, .int .i64 0, .int .i64 0, .int .i64 0, .int .i64 0, .int .i64 0, .int .i64 0, .int .i64 0]) ?_ 4 _ rfl; (with_reducible repeat (first | refine blk_drewN ?_ _ | refine blk_drew ?_ | refine blk_alloc ?_ _)); refine blk_put (cs := #[.int .i64 ((rd_T28 l1 x22_2).f0), .int .i64 ((rd_T28 l1 x22_2).f1), .int .i64 ((rd_T28 l1 x22_2).f2.f0), .int .i64 0, .int .i64 0, .int .i64 0, .int .i64 0, .int .i64 0, .int .i64 0, .int .i64 0, .int .i64 0, .int .i64 0]) ?_ 3 _ rfl; (with_reducible repeat (first | refine blk_drewN ?_ _ | refine blk_drew ?_ | refine blk_alloc ?_ _)); refine blk_put (cs := #[.int .i64 ((rd_T28 l1 x22_2).f0), .int .i64 ((rd_T28 l1 x22_2).f1), .int .i64 0, .int .i64 0, .int .i64 0, .int .i64 0, .int .i64 0, .int .i64 0, .int .i64 0, .int .i64 0, .int .i64 0, .int .i64 0]) ?_ 2 _ rfl; (with_reducible repeat (first | refine blk_drewN ?_ _ | refine blk_drew ?_ | refine blk_alloc ?_ _)); refine blk_put (cs := #[.int .i64 ((rd_T28 l1 x22_2).f0), .int .i64 0, .int .i64 0, .int .i64 0, .int .i64 0, .int .i64 0, .int .i64 0, .int .i64 0, .int .i64 0, .int .i64 0, .int .i64 0, .int .i64 0]) ?_ 1 _ rfl; (with_reducible repeat (first | refine blk_drewN ?_ _ | refine blk_drew ?_ | refine blk_alloc ?_ _)); refine blk_put (cs := #[.int .i64 0, .int .i64 0, .int .i64 0, .int .i64 0, .int .i64 0, .int .i64 0, .int .i64 0, .int .i64 0, .int .i64 0, .int .i64 0, .int .i64 0, .int .i64 0]) ?_ 0 _ rfl; (with_reducible repeat (first | refine blk_drewN ?_ _ | refine blk_drew ?_ | refine blk_alloc ?_ _)); exact BK321.out) hb); have n2_ := Aside0.mk (below_step (upB1 HB.out GE321.out) hb); clear HO_8; clear BK321; clear HB; have HO_8 := n0_; have BK321 := n1_; have HB := n2_; clear n0_ n1_ n2_; (try clear hb); (try clear hk)) | ((with_reducible refine gate_builtin (b := .append) (xs := #[.tmp 37, .tmp 39]) rfl ?_); at_builtin; refine Kd.R_append (Kd.int .i64) (w0 := w) w.heap.size rfl (.tmp 37) (.tmp 39) 56 3 (.int .i64 0) 8 rfl Try.underlying56 info3 rfl (by decide) (by omega) u8 x8_2 x22_2 [.int .i64 x22_2] (fun _ => True) (fun _ => False) rfl rfl ?aP (fun _ hk => hk.elim) ?aF ?aO ?aB ?aS ?aL ?_; (case aP => exact rfl); (case aB => exact (upB1 HB.out GE321.out)); (case aF => exact (fun _ _ => trivial)); (case aO => exact (upR HO_8.out)); (case aS => exact (below_size (upB1 HB.out GE321.out))); (case aL => have := LMc16.out; omega); intro v324 w20 ho hb hg hat; rw [← Ny323.out] at ho; have n0_ := Aside0.mk (blk_grown (g := gb321) (o := .cells #[.int .i64 ((rd_T28 l1 x22_2).f0), .int .i64 ((rd_T28 l1 x22_2).f1), .int .i64 ((rd_T28 l1 x22_2).f2.f0), .int .i64 ((rd_T28 l1 x22_2).f2.f1), .int .i64 ((rd_T28 l1 x22_2).f2.f2), .int .i64 ((rd_T28 l1 x22_2).f2.f3), .int .i64 ((rd_T28 l1 x22_2).f2.f4), .int .i64 ((rd_T28 l1 x22_2).f3.f0), .int .i64 ((rd_T28 l1 x22_2).f3.f1), .int .i64 ((rd_T28 l1 x22_2).f3.f2), .int .i64 ((rd_T28 l1 x22_2).f3.f3), .int .i64 ((rd_T28 l1 x22_2).f3.f4)] 28 (0, 0)) (upK BK321.out) hg (Kd.R_ne HO_8.out BK321.out (by decide))); have n1_ := Aside0.mk (hb); have n2_ := Aside0.mk (ho); clear BK321; clear HB; clear HO_8; have BK321 := n0_; have HB := n1_; have HO325 := n2_; clear n0_ n1_ n2_; clear ho hb hg hat))
                      go_roundg k2
                      case measure => have := HJ3.out; have := HK2.out; omega
                      case rel => exact ⟨(y323), (wrap64 (x22_2 + 1)), (by first | rfl | (simp; done) | (simp [*]; done)), H', ⟨by have := HJ3.out; have := HK2.out; omega⟩, ⟨by (with_reducible repeat (first | apply Kd.R_alloc | apply Kd.R_drewN | apply Kd.R_drew)); exact HO325.out⟩, ⟨(upB1 HB.out GE321.out)⟩⟩
                    · rw [if_neg c16] at H
                      exact absurd H (by simp)
                  · replace c15 := Bool.eq_false_iff.mpr c15
                    subst c15
                    have H1 : ((impl_touches.f ((rd_T28 l1 x22_2).f3.f0) ((rd_T28 l1 x22_2).f3.f1) ((rd_T28 l1 x22_2).f3.f2) ((rd_T28 l1 x22_2).f3.f3) ((rd_T28 l1 x22_2).f3.f4) a2).bind fun t326 => (if t326 = true then (if x8_2.length < 17592186044416 then (impl_EditsOn.l0 k2 a2 (x8_2 ++ [x22_2]) l1 (l1.length : Int) (wrap64 (x22_2 + 1))) else (none)) else (impl_EditsOn.l0 k2 a2 x8_2 l1 (l1.length : Int) (wrap64 (x22_2 + 1))))) = some (r1, r2) := by rw [if_neg (show ¬ (false = true) by decide)] at H; exact H
                    clear H
                    have H := H1
                    clear H1
                    replace H := Option.bind_eq_some_iff.mp H
                    obtain ⟨t326, A210, H⟩ := H
                    replace H : (if t326 = true then (if x8_2.length < 17592186044416 then (impl_EditsOn.l0 k2 a2 (x8_2 ++ [x22_2]) l1 (l1.length : Int) (wrap64 (x22_2 + 1))) else (none)) else (impl_EditsOn.l0 k2 a2 x8_2 l1 (l1.length : Int) (wrap64 (x22_2 + 1)))) = some (r1, r2) := H
                    have A21 := Aside0.mk A210
                    clear A210
                    by_cases c22 : t326 = true
                    · subst c22
                      have H1 : (if x8_2.length < 17592186044416 then (impl_EditsOn.l0 k2 a2 (x8_2 ++ [x22_2]) l1 (l1.length : Int) (wrap64 (x22_2 + 1))) else (none)) = some (r1, r2) := by rw [if_pos rfl] at H; exact H
                      clear H
                      have H := H1
                      clear H1
                      by_cases c23 : x8_2.length < 17592186044416
                      · rw [if_pos c23] at H
                        have LMc23 := Aside0.mk c23
                        clear c23
                        obtain ⟨y327, hy327⟩ : ∃ y_ : List Int, y_ = (x8_2 ++ [x22_2]) := ⟨_, rfl⟩
                        replace H : (impl_EditsOn.l0 k2 a2 y327 l1 (l1.length : Int) (wrap64 (x22_2 + 1))) = some (r1, r2) := by first | (rw [hy327]; with_reducible exact H) | (have H2_ := (Option.bind_some _ _).symm.trans H; rw [hy327]; with_reducible exact H2_) | (have H2_ := (Option.bind_some _ _).symm.trans H; with_reducible exact H2_) | with_reducible exact H | (rw [hy327]; exact H) | exact H
                        have Ny327 := Aside0.mk hy327
                        clear hy327
                        have H' := Aside0.mk H
                        clear H
                        have p320 : 0 ≤ (x22_2 : Int) := of_decide_eq_true asmB
                        have q320 : x22_2 < (l1.length : Int) := of_decide_eq_true asmB
                        obtain ⟨ad320, e320, hx320_0, hx320_1, hx320_2, hx320_3, hx320_4, hx320_5, hx320_6, hx320_7, hx320_8, hx320_9, hx320_10, hx320_11⟩ := at_T28 HR1.out x22_2 p320 q320
                        cases e320
                        replace hx320_0 := bx HB.out hx320_0
                        replace hx320_1 := bx HB.out hx320_1
                        replace hx320_2 := bx HB.out hx320_2
                        replace hx320_3 := bx HB.out hx320_3
                        replace hx320_4 := bx HB.out hx320_4
                        replace hx320_5 := bx HB.out hx320_5
                        replace hx320_6 := bx HB.out hx320_6
                        replace hx320_7 := bx HB.out hx320_7
                        replace hx320_8 := bx HB.out hx320_8
                        replace hx320_9 := bx HB.out hx320_9
                        replace hx320_10 := bx HB.out hx320_10
                        replace hx320_11 := bx HB.out hx320_11
                        replace p320 := eq_true p320
                        replace q320 := eq_true q320
                        go_wp2_with (first | ((with_reducible refine gate_dst (N := 10) rfl ?_); refine box_event ?hg (N := 10) ?hd (cs := #[.int .i64 0, .int .i64 0, .int .i64 0, .int .i64 0, .int .i64 0, .int .i64 0, .int .i64 0, .int .i64 0, .int .i64 0, .int .i64 0, .int .i64 0, .int .i64 0]) (t := 28) ?hr ?_; (case hd => rfl); (case hg => rfl); (case hr => first | (go_simp; done) | (go_simp; rfl)); intro gb321 hg w24 hbox hb; have n0_ := Aside0.mk (Kd.R_below (upR HO_8.out) hb); have n1_ := Aside0.mk (below_step (upB HB.out) hb); have n2_ := Aside0.mk (hbox); have n3_ := Aside0.mk ((by rw [hg]; exact (below_size (upB HB.out)) : w.heap.size ≤ gb321)); have n4_ := Aside0.mk ((by rw [hg]; exact (below_size (upB HB.out)) : w.heap.size ≤ gb321)); clear HO_8; clear HB; have HO_8 := n0_; have HB := n1_; have BK321 := n2_; have GW321 := n3_; have GE321 := n4_; clear n0_ n1_ n2_ n3_ n4_; clear hb hbox hg; have hcz25_0 := ci BK321.out 0 0 rfl; have hcz25_1 := ci BK321.out 1 0 rfl; have hcz25_2 := ci BK321.out 2 0 rfl; have hcz25_3 := ci BK321.out 3 0 rfl; have hcz25_4 := ci BK321.out 4 0 rfl; have hcz25_5 := ci BK321.out 5 0 rfl; have hcz25_6 := ci BK321.out 6 0 rfl; have hcz25_7 := ci BK321.out 7 0 rfl; have hcz25_8 := ci BK321.out 8 0 rfl; have hcz25_9 := ci BK321.out 9 0 rfl; have hcz25_10 := ci BK321.out 10 0 rfl; have hcz25_11 := ci BK321.out 11 0 rfl; have hfz25_0 := fun j_ : Nat => blk_frozen BK321.out j_) | ((with_reducible refine gate_callee (f := 76) rfl ?_); refine goesL_ (some 30) rfl rfl Try.func76 (by kernel_rfl) rfl #[.agg #[.int .i64 ((rd_T28 l1 x22_2).f2.f0), .int .i64 ((rd_T28 l1 x22_2).f2.f1), .int .i64 ((rd_T28 l1 x22_2).f2.f2), .int .i64 ((rd_T28 l1 x22_2).f2.f3), .int .i64 ((rd_T28 l1 x22_2).f2.f4)], .int .i64 a2] rfl argsB ?_; (with_reducible refine (impl_touches.calls ((rd_T28 l1 x22_2).f2.f0) ((rd_T28 l1 x22_2).f2.f1) ((rd_T28 l1 x22_2).f2.f2) ((rd_T28 l1 x22_2).f2.f3) ((rd_T28 l1 x22_2).f2.f4) a2 false _ A14.out).mono ?_); rintro e w26 ⟨rfl, hb⟩; refine ⟨_, rfl, ?_⟩; have n0_ := Aside0.mk (Kd.R_below (by (with_reducible repeat (first | apply Kd.R_alloc | apply Kd.R_drewN | apply Kd.R_drew)); exact (Kd.R_mono (Kd.R_far (p := ⟨gb321, 11, none⟩) (Kd.R_far (p := ⟨gb321, 10, none⟩) (Kd.R_far (p := ⟨gb321, 9, none⟩) (Kd.R_far (p := ⟨gb321, 8, none⟩) (Kd.R_far (p := ⟨gb321, 7, none⟩) (Kd.R_far (p := ⟨gb321, 6, none⟩) (Kd.R_far (p := ⟨gb321, 5, none⟩) (Kd.R_far (p := ⟨gb321, 4, none⟩) (Kd.R_far (p := ⟨gb321, 3, none⟩) (Kd.R_far (p := ⟨gb321, 2, none⟩) (Kd.R_far (p := ⟨gb321, 1, none⟩) (Kd.R_far (p := ⟨gb321, 0, none⟩) (Kd.R_types HO_8.out BK321.out (by decide)) (fun _ hk => hk.2) (.int .i64 ((rd_T28 l1 x22_2).f0))) (fun _ hk => hk.2) (.int .i64 ((rd_T28 l1 x22_2).f1))) (fun _ hk => hk.2) (.int .i64 ((rd_T28 l1 x22_2).f2.f0))) (fun _ hk => hk.2) (.int .i64 ((rd_T28 l1 x22_2).f2.f1))) (fun _ hk => hk.2) (.int .i64 ((rd_T28 l1 x22_2).f2.f2))) (fun _ hk => hk.2) (.int .i64 ((rd_T28 l1 x22_2).f2.f3))) (fun _ hk => hk.2) (.int .i64 ((rd_T28 l1 x22_2).f2.f4))) (fun _ hk => hk.2) (.int .i64 ((rd_T28 l1 x22_2).f3.f0))) (fun _ hk => hk.2) (.int .i64 ((rd_T28 l1 x22_2).f3.f1))) (fun _ hk => hk.2) (.int .i64 ((rd_T28 l1 x22_2).f3.f2))) (fun _ hk => hk.2) (.int .i64 ((rd_T28 l1 x22_2).f3.f3))) (fun _ hk => hk.2) (.int .i64 ((rd_T28 l1 x22_2).f3.f4))) (fun _ h_ => h_.1))) hb); have n1_ := Aside0.mk (blk_below (g := gb321) (o := .cells #[.int .i64 ((rd_T28 l1 x22_2).f0), .int .i64 ((rd_T28 l1 x22_2).f1), .int .i64 ((rd_T28 l1 x22_2).f2.f0), .int .i64 ((rd_T28 l1 x22_2).f2.f1), .int .i64 ((rd_T28 l1 x22_2).f2.f2), .int .i64 ((rd_T28 l1 x22_2).f2.f3), .int .i64 ((rd_T28 l1 x22_2).f2.f4), .int .i64 ((rd_T28 l1 x22_2).f3.f0), .int .i64 ((rd_T28 l1 x22_2).f3.f1), .int .i64 ((rd_T28 l1 x22_2).f3.f2), .int .i64 ((rd_T28 l1 x22_2).f3.f3), .int .i64 ((rd_T28 l1 x22_2).f3.f4)] 28 (0, 0)) (by (with_reducible repeat (first | refine blk_drewN ?_ _ | refine blk_drew ?_ | refine blk_alloc ?_ _)); refine blk_put (cs := #[.int .i64 ((rd_T28 l1 x22_2).f0), .int .i64 ((rd_T28 l1 x22_2).f1), .int .i64 ((rd_T28 l1 x22_2).f2.f0), .int .i64 ((rd_T28 l1 x22_2).f2.f1), .int .i64 ((rd_T28 l1 x22_2).f2.f2), .int .i64 ((rd_T28 l1 x22_2).f2.f3), .int .i64 ((rd_T28 l1 x22_2).f2.f4), .int .i64 ((rd_T28 l1 x22_2).f3.f0), .int .i64 ((rd_T28 l1 x22_2).f3.f1), .int .i64 ((rd_T28 l1 x22_2).f3.f2), .int .i64 ((rd_T28 l1 x22_2).f3.f3), .int .i64 0]) ?_ 11 _ rfl; (with_reducible repeat (first | refine blk_drewN ?_ _ | refine blk_drew ?_ | refine blk_alloc ?_ _)); refine blk_put (cs := #[.int .i64 ((rd_T28 l1 x22_2).f0), .int .i64 ((rd_T28 l1 x22_2).f1), .int .i64 ((rd_T28 l1 x22_2).f2.f0), .int .i64 ((rd_T28 l1 x22_2).f2.f1), .int .i64 ((rd_T28 l1 x22_2).f2.f2), .int .i64 ((rd_T28 l1 x22_2).f2.f3), .int .i64 ((rd_T28 l1 x22_2).f2.f4), .int .i64 ((rd_T28 l1 x22_2).f3.f0), .int .i64 ((rd_T28 l1 x22_2).f3.f1), .int .i64 ((rd_T28 l1 x22_2).f3.f2), .int .i64 0, .int .i64 0]) ?_ 10 _ rfl; (with_reducible repeat (first | refine blk_drewN ?_ _ | refine blk_drew ?_ | refine blk_alloc ?_ _)); refine blk_put (cs := #[.int .i64 ((rd_T28 l1 x22_2).f0), .int .i64 ((rd_T28 l1 x22_2).f1), .int .i64 ((rd_T28 l1 x22_2).f2.f0), .int .i64 ((rd_T28 l1 x22_2).f2.f1), .int .i64 ((rd_T28 l1 x22_2).f2.f2), .int .i64 ((rd_T28 l1 x22_2).f2.f3), .int .i64 ((rd_T28 l1 x22_2).f2.f4), .int .i64 ((rd_T28 l1 x22_2).f3.f0), .int .i64 ((rd_T28 l1 x22_2).f3.f1), .int .i64 0, .int .i64 0, .int .i64 0]) ?_ 9 _ rfl; (with_reducible repeat (first | refine blk_drewN ?_ _ | refine blk_drew ?_ | refine blk_alloc ?_ _)); refine blk_put (cs := #[.int .i64 ((rd_T28 l1 x22_2).f0), .int .i64 ((rd_T28 l1 x22_2).f1), .int .i64 ((rd_T28 l1 x22_2).f2.f0), .int .i64 ((rd_T28 l1 x22_2).f2.f1), .int .i64 ((rd_T28 l1 x22_2).f2.f2), .int .i64 ((rd_T28 l1 x22_2).f2.f3), .int .i64 ((rd_T28 l1 x22_2).f2.f4), .int .i64 ((rd_T28 l1 x22_2).f3.f0), .int .i64 0, .int .i64 0, .int .i64 0, .int .i64 0]) ?_ 8 _ rfl; (with_reducible repeat (first | refine blk_drewN ?_ _ | refine blk_drew ?_ | refine blk_alloc ?_ _)); refine blk_put (cs := #[.int .i64 ((rd_T28 l1 x22_2).f0), .int .i64 ((rd_T28 l1 x22_2).f1), .int .i64 ((rd_T28 l1 x22_2).f2.f0), .int .i64 ((rd_T28 l1 x22_2).f2.f1), .int .i64 ((rd_T28 l1 x22_2).f2.f2), .int .i64 ((rd_T28 l1 x22_2).f2.f3), .int .i64 ((rd_T28 l1 x22_2).f2.f4), .int .i64 0, .int .i64 0, .int .i64 0, .int .i64 0, .int .i64 0]) ?_ 7 _ rfl; (with_reducible repeat (first | refine blk_drewN ?_ _ | refine blk_drew ?_ | refine blk_alloc ?_ _)); refine blk_put (cs := #[.int .i64 ((rd_T28 l1 x22_2).f0), .int .i64 ((rd_T28 l1 x22_2).f1), .int .i64 ((rd_T28 l1 x22_2).f2.f0), .int .i64 ((rd_T28 l1 x22_2).f2.f1), .int .i64 ((rd_T28 l1 x22_2).f2.f2), .int .i64 ((rd_T28 l1 x22_2).f2.f3), .int .i64 0, .int .i64 0, .int .i64 0, .int .i64 0, .int .i64 0, .int .i64 0]) ?_ 6 _ rfl; (with_reducible repeat (first | refine blk_drewN ?_ _ | refine blk_drew ?_ | refine blk_alloc ?_ _)); refine blk_put (cs := #[.int .i64 ((rd_T28 l1 x22_2).f0), .int .i64 ((rd_T28 l1 x22_2).f1), .int .i64 ((rd_T28 l1 x22_2).f2.f0), .int .i64 ((rd_T28 l1 x22_2).f2.f1), .int .i64 ((rd_T28 l1 x22_2).f2.f2), .int .i64 0, .int .i64 0, .int .i64 0, .int .i64 0, .int .i64 0, .int .i64 0, .int .i64 0]) ?_ 5 _ rfl; (with_reducible repeat (first | refine blk_drewN ?_ _ | refine blk_drew ?_ | refine blk_alloc ?_ _)); refine blk_put (cs := #[.int .i64 ((rd_T28 l1 x22_2).f0), .int .i64 ((rd_T28 l1 x22_2).f1), .int .i64 ((rd_T28 l1 x22_2).f2.f0), .int .i64 ((rd_T28 l1 x22_2).f2.f1), .int .i64 0, .int .i64 0, .int .i64 0, .int .i64 0, .int .i64 0, .int .i64 0, .int .i64 0, .int .i64 0]) ?_ 4 _ rfl; (with_reducible repeat (first | refine blk_drewN ?_ _ | refine blk_drew ?_ | refine blk_alloc ?_ _)); refine blk_put (cs := #[.int .i64 ((rd_T28 l1 x22_2).f0), .int .i64 ((rd_T28 l1 x22_2).f1), .int .i64 ((rd_T28 l1 x22_2).f2.f0), .int .i64 0, .int .i64 0, .int .i64 0, .int .i64 0, .int .i64 0, .int .i64 0, .int .i64 0, .int .i64 0, .int .i64 0]) ?_ 3 _ rfl; (with_reducible repeat (first | refine blk_drewN ?_ _ | refine blk_drew ?_ | refine blk_alloc ?_ _)); refine blk_put (cs := #[.int .i64 ((rd_T28 l1 x22_2).f0), .int .i64 ((rd_T28 l1 x22_2).f1), .int .i64 0, .int .i64 0, .int .i64 0, .int .i64 0, .int .i64 0, .int .i64 0, .int .i64 0, .int .i64 0, .int .i64 0, .int .i64 0]) ?_ 2 _ rfl; (with_reducible repeat (first | refine blk_drewN ?_ _ | refine blk_drew ?_ | refine blk_alloc ?_ _)); refine blk_put (cs := #[.int .i64 ((rd_T28 l1 x22_2).f0), .int .i64 0, .int .i64 0, .int .i64 0, .int .i64 0, .int .i64 0, .int .i64 0, .int .i64 0, .int .i64 0, .int .i64 0, .int .i64 0, .int .i64 0]) ?_ 1 _ rfl; (with_reducible repeat (first | refine blk_drewN ?_ _ | refine blk_drew ?_ | refine blk_alloc ?_ _)); refine blk_put (cs := #[.int .i64 0, .int .i64 0, .int .i64 0, .int .i64 0, .int .i64 0, .int .i64 0, .int .i64 0, .int .i64 0, .int .i64 0, .int .i64 0, .int .i64 0, .int .i64 0]) ?_ 0 _ rfl; (with_reducible repeat (first | refine blk_drewN ?_ _ | refine blk_drew ?_ | refine blk_alloc ?_ _)); exact BK321.out) hb); have n2_ := Aside0.mk (below_step (upB1 HB.out GE321.out) hb); clear HO_8; clear BK321; clear HB; have HO_8 := n0_; have BK321 := n1_; have HB := n2_; clear n0_ n1_ n2_; (try clear hb); (try clear hk); have hcz27_0 := ci BK321.out 0 ((rd_T28 l1 x22_2).f0) rfl; have hcz27_1 := ci BK321.out 1 ((rd_T28 l1 x22_2).f1) rfl; have hcz27_2 := ci BK321.out 2 ((rd_T28 l1 x22_2).f2.f0) rfl; have hcz27_3 := ci BK321.out 3 ((rd_T28 l1 x22_2).f2.f1) rfl; have hcz27_4 := ci BK321.out 4 ((rd_T28 l1 x22_2).f2.f2) rfl; have hcz27_5 := ci BK321.out 5 ((rd_T28 l1 x22_2).f2.f3) rfl; have hcz27_6 := ci BK321.out 6 ((rd_T28 l1 x22_2).f2.f4) rfl; have hcz27_7 := ci BK321.out 7 ((rd_T28 l1 x22_2).f3.f0) rfl; have hcz27_8 := ci BK321.out 8 ((rd_T28 l1 x22_2).f3.f1) rfl; have hcz27_9 := ci BK321.out 9 ((rd_T28 l1 x22_2).f3.f2) rfl; have hcz27_10 := ci BK321.out 10 ((rd_T28 l1 x22_2).f3.f3) rfl; have hcz27_11 := ci BK321.out 11 ((rd_T28 l1 x22_2).f3.f4) rfl; have hfz27_0 := fun j_ : Nat => blk_frozen BK321.out j_) | (go_at_call 76; (with_reducible refine (impl_touches.calls ((rd_T28 l1 x22_2).f3.f0) ((rd_T28 l1 x22_2).f3.f1) ((rd_T28 l1 x22_2).f3.f2) ((rd_T28 l1 x22_2).f3.f3) ((rd_T28 l1 x22_2).f3.f4) a2 true _ A21.out).mono ?_); rintro e w28 ⟨rfl, hb⟩; have n0_ := Aside0.mk (Kd.R_below (upR HO_8.out) hb); have n1_ := Aside0.mk (blk_below (g := gb321) (o := .cells #[.int .i64 ((rd_T28 l1 x22_2).f0), .int .i64 ((rd_T28 l1 x22_2).f1), .int .i64 ((rd_T28 l1 x22_2).f2.f0), .int .i64 ((rd_T28 l1 x22_2).f2.f1), .int .i64 ((rd_T28 l1 x22_2).f2.f2), .int .i64 ((rd_T28 l1 x22_2).f2.f3), .int .i64 ((rd_T28 l1 x22_2).f2.f4), .int .i64 ((rd_T28 l1 x22_2).f3.f0), .int .i64 ((rd_T28 l1 x22_2).f3.f1), .int .i64 ((rd_T28 l1 x22_2).f3.f2), .int .i64 ((rd_T28 l1 x22_2).f3.f3), .int .i64 ((rd_T28 l1 x22_2).f3.f4)] 28 (0, 0)) (upK BK321.out) hb); have n2_ := Aside0.mk (below_step (upB1 HB.out GE321.out) hb); clear HO_8; clear BK321; clear HB; have HO_8 := n0_; have BK321 := n1_; have HB := n2_; clear n0_ n1_ n2_; (try clear hb); (try clear hk)) | ((with_reducible refine gate_builtin (b := .append) (xs := #[.tmp 37, .tmp 39]) rfl ?_); at_builtin; refine Kd.R_append (Kd.int .i64) (w0 := w) w.heap.size rfl (.tmp 37) (.tmp 39) 56 3 (.int .i64 0) 8 rfl Try.underlying56 info3 rfl (by decide) (by omega) u8 x8_2 x22_2 [.int .i64 x22_2] (fun _ => True) (fun _ => False) rfl rfl ?aP (fun _ hk => hk.elim) ?aF ?aO ?aB ?aS ?aL ?_; (case aP => exact rfl); (case aB => exact (upB1 HB.out GE321.out)); (case aF => exact (fun _ _ => trivial)); (case aO => exact (upR HO_8.out)); (case aS => exact (below_size (upB1 HB.out GE321.out))); (case aL => have := LMc23.out; omega); intro v328 w29 ho hb hg hat; rw [← Ny327.out] at ho; have n0_ := Aside0.mk (blk_grown (g := gb321) (o := .cells #[.int .i64 ((rd_T28 l1 x22_2).f0), .int .i64 ((rd_T28 l1 x22_2).f1), .int .i64 ((rd_T28 l1 x22_2).f2.f0), .int .i64 ((rd_T28 l1 x22_2).f2.f1), .int .i64 ((rd_T28 l1 x22_2).f2.f2), .int .i64 ((rd_T28 l1 x22_2).f2.f3), .int .i64 ((rd_T28 l1 x22_2).f2.f4), .int .i64 ((rd_T28 l1 x22_2).f3.f0), .int .i64 ((rd_T28 l1 x22_2).f3.f1), .int .i64 ((rd_T28 l1 x22_2).f3.f2), .int .i64 ((rd_T28 l1 x22_2).f3.f3), .int .i64 ((rd_T28 l1 x22_2).f3.f4)] 28 (0, 0)) (upK BK321.out) hg (Kd.R_ne HO_8.out BK321.out (by decide))); have n1_ := Aside0.mk (hb); have n2_ := Aside0.mk (ho); clear BK321; clear HB; clear HO_8; have BK321 := n0_; have HB := n1_; have HO329 := n2_; clear n0_ n1_ n2_; clear ho hb hg hat))
                        go_roundg k2
                        case measure => have := HJ3.out; have := HK2.out; omega
                        case rel => exact ⟨(y327), (wrap64 (x22_2 + 1)), (by first | rfl | (simp; done) | (simp [*]; done)), H', ⟨by have := HJ3.out; have := HK2.out; omega⟩, ⟨by (with_reducible repeat (first | apply Kd.R_alloc | apply Kd.R_drewN | apply Kd.R_drew)); exact HO329.out⟩, ⟨(upB1 HB.out GE321.out)⟩⟩
                      · rw [if_neg c23] at H
                        exact absurd H (by simp)
                    · replace c22 := Bool.eq_false_iff.mpr c22
                      subst c22
                      have H1 : (impl_EditsOn.l0 k2 a2 x8_2 l1 (l1.length : Int) (wrap64 (x22_2 + 1))) = some (r1, r2) := by rw [if_neg (show ¬ (false = true) by decide)] at H; exact H
                      clear H
                      have H := H1
                      clear H1
                      have H' := Aside0.mk H
                      clear H
                      have p320 : 0 ≤ (x22_2 : Int) := of_decide_eq_true asmB
                      have q320 : x22_2 < (l1.length : Int) := of_decide_eq_true asmB
                      obtain ⟨ad320, e320, hx320_0, hx320_1, hx320_2, hx320_3, hx320_4, hx320_5, hx320_6, hx320_7, hx320_8, hx320_9, hx320_10, hx320_11⟩ := at_T28 HR1.out x22_2 p320 q320
                      cases e320
                      replace hx320_0 := bx HB.out hx320_0
                      replace hx320_1 := bx HB.out hx320_1
                      replace hx320_2 := bx HB.out hx320_2
                      replace hx320_3 := bx HB.out hx320_3
                      replace hx320_4 := bx HB.out hx320_4
                      replace hx320_5 := bx HB.out hx320_5
                      replace hx320_6 := bx HB.out hx320_6
                      replace hx320_7 := bx HB.out hx320_7
                      replace hx320_8 := bx HB.out hx320_8
                      replace hx320_9 := bx HB.out hx320_9
                      replace hx320_10 := bx HB.out hx320_10
                      replace hx320_11 := bx HB.out hx320_11
                      replace p320 := eq_true p320
                      replace q320 := eq_true q320
                      go_wp2_with (first | ((with_reducible refine gate_dst (N := 10) rfl ?_); refine box_event ?hg (N := 10) ?hd (cs := #[.int .i64 0, .int .i64 0, .int .i64 0, .int .i64 0, .int .i64 0, .int .i64 0, .int .i64 0, .int .i64 0, .int .i64 0, .int .i64 0, .int .i64 0, .int .i64 0]) (t := 28) ?hr ?_; (case hd => rfl); (case hg => rfl); (case hr => first | (go_simp; done) | (go_simp; rfl)); intro gb321 hg w30 hbox hb; have n0_ := Aside0.mk (Kd.R_below (upR HO_8.out) hb); have n1_ := Aside0.mk (below_step (upB HB.out) hb); have n2_ := Aside0.mk (hbox); have n3_ := Aside0.mk ((by rw [hg]; exact (below_size (upB HB.out)) : w.heap.size ≤ gb321)); have n4_ := Aside0.mk ((by rw [hg]; exact (below_size (upB HB.out)) : w.heap.size ≤ gb321)); clear HO_8; clear HB; have HO_8 := n0_; have HB := n1_; have BK321 := n2_; have GW321 := n3_; have GE321 := n4_; clear n0_ n1_ n2_ n3_ n4_; clear hb hbox hg; have hcz31_0 := ci BK321.out 0 0 rfl; have hcz31_1 := ci BK321.out 1 0 rfl; have hcz31_2 := ci BK321.out 2 0 rfl; have hcz31_3 := ci BK321.out 3 0 rfl; have hcz31_4 := ci BK321.out 4 0 rfl; have hcz31_5 := ci BK321.out 5 0 rfl; have hcz31_6 := ci BK321.out 6 0 rfl; have hcz31_7 := ci BK321.out 7 0 rfl; have hcz31_8 := ci BK321.out 8 0 rfl; have hcz31_9 := ci BK321.out 9 0 rfl; have hcz31_10 := ci BK321.out 10 0 rfl; have hcz31_11 := ci BK321.out 11 0 rfl; have hfz31_0 := fun j_ : Nat => blk_frozen BK321.out j_) | ((with_reducible refine gate_callee (f := 76) rfl ?_); refine goesL_ (some 30) rfl rfl Try.func76 (by kernel_rfl) rfl #[.agg #[.int .i64 ((rd_T28 l1 x22_2).f2.f0), .int .i64 ((rd_T28 l1 x22_2).f2.f1), .int .i64 ((rd_T28 l1 x22_2).f2.f2), .int .i64 ((rd_T28 l1 x22_2).f2.f3), .int .i64 ((rd_T28 l1 x22_2).f2.f4)], .int .i64 a2] rfl argsB ?_; (with_reducible refine (impl_touches.calls ((rd_T28 l1 x22_2).f2.f0) ((rd_T28 l1 x22_2).f2.f1) ((rd_T28 l1 x22_2).f2.f2) ((rd_T28 l1 x22_2).f2.f3) ((rd_T28 l1 x22_2).f2.f4) a2 false _ A14.out).mono ?_); rintro e w32 ⟨rfl, hb⟩; refine ⟨_, rfl, ?_⟩; have n0_ := Aside0.mk (Kd.R_below (by (with_reducible repeat (first | apply Kd.R_alloc | apply Kd.R_drewN | apply Kd.R_drew)); exact (Kd.R_mono (Kd.R_far (p := ⟨gb321, 11, none⟩) (Kd.R_far (p := ⟨gb321, 10, none⟩) (Kd.R_far (p := ⟨gb321, 9, none⟩) (Kd.R_far (p := ⟨gb321, 8, none⟩) (Kd.R_far (p := ⟨gb321, 7, none⟩) (Kd.R_far (p := ⟨gb321, 6, none⟩) (Kd.R_far (p := ⟨gb321, 5, none⟩) (Kd.R_far (p := ⟨gb321, 4, none⟩) (Kd.R_far (p := ⟨gb321, 3, none⟩) (Kd.R_far (p := ⟨gb321, 2, none⟩) (Kd.R_far (p := ⟨gb321, 1, none⟩) (Kd.R_far (p := ⟨gb321, 0, none⟩) (Kd.R_types HO_8.out BK321.out (by decide)) (fun _ hk => hk.2) (.int .i64 ((rd_T28 l1 x22_2).f0))) (fun _ hk => hk.2) (.int .i64 ((rd_T28 l1 x22_2).f1))) (fun _ hk => hk.2) (.int .i64 ((rd_T28 l1 x22_2).f2.f0))) (fun _ hk => hk.2) (.int .i64 ((rd_T28 l1 x22_2).f2.f1))) (fun _ hk => hk.2) (.int .i64 ((rd_T28 l1 x22_2).f2.f2))) (fun _ hk => hk.2) (.int .i64 ((rd_T28 l1 x22_2).f2.f3))) (fun _ hk => hk.2) (.int .i64 ((rd_T28 l1 x22_2).f2.f4))) (fun _ hk => hk.2) (.int .i64 ((rd_T28 l1 x22_2).f3.f0))) (fun _ hk => hk.2) (.int .i64 ((rd_T28 l1 x22_2).f3.f1))) (fun _ hk => hk.2) (.int .i64 ((rd_T28 l1 x22_2).f3.f2))) (fun _ hk => hk.2) (.int .i64 ((rd_T28 l1 x22_2).f3.f3))) (fun _ hk => hk.2) (.int .i64 ((rd_T28 l1 x22_2).f3.f4))) (fun _ h_ => h_.1))) hb); have n1_ := Aside0.mk (blk_below (g := gb321) (o := .cells #[.int .i64 ((rd_T28 l1 x22_2).f0), .int .i64 ((rd_T28 l1 x22_2).f1), .int .i64 ((rd_T28 l1 x22_2).f2.f0), .int .i64 ((rd_T28 l1 x22_2).f2.f1), .int .i64 ((rd_T28 l1 x22_2).f2.f2), .int .i64 ((rd_T28 l1 x22_2).f2.f3), .int .i64 ((rd_T28 l1 x22_2).f2.f4), .int .i64 ((rd_T28 l1 x22_2).f3.f0), .int .i64 ((rd_T28 l1 x22_2).f3.f1), .int .i64 ((rd_T28 l1 x22_2).f3.f2), .int .i64 ((rd_T28 l1 x22_2).f3.f3), .int .i64 ((rd_T28 l1 x22_2).f3.f4)] 28 (0, 0)) (by (with_reducible repeat (first | refine blk_drewN ?_ _ | refine blk_drew ?_ | refine blk_alloc ?_ _)); refine blk_put (cs := #[.int .i64 ((rd_T28 l1 x22_2).f0), .int .i64 ((rd_T28 l1 x22_2).f1), .int .i64 ((rd_T28 l1 x22_2).f2.f0), .int .i64 ((rd_T28 l1 x22_2).f2.f1), .int .i64 ((rd_T28 l1 x22_2).f2.f2), .int .i64 ((rd_T28 l1 x22_2).f2.f3), .int .i64 ((rd_T28 l1 x22_2).f2.f4), .int .i64 ((rd_T28 l1 x22_2).f3.f0), .int .i64 ((rd_T28 l1 x22_2).f3.f1), .int .i64 ((rd_T28 l1 x22_2).f3.f2), .int .i64 ((rd_T28 l1 x22_2).f3.f3), .int .i64 0]) ?_ 11 _ rfl; (with_reducible repeat (first | refine blk_drewN ?_ _ | refine blk_drew ?_ | refine blk_alloc ?_ _)); refine blk_put (cs := #[.int .i64 ((rd_T28 l1 x22_2).f0), .int .i64 ((rd_T28 l1 x22_2).f1), .int .i64 ((rd_T28 l1 x22_2).f2.f0), .int .i64 ((rd_T28 l1 x22_2).f2.f1), .int .i64 ((rd_T28 l1 x22_2).f2.f2), .int .i64 ((rd_T28 l1 x22_2).f2.f3), .int .i64 ((rd_T28 l1 x22_2).f2.f4), .int .i64 ((rd_T28 l1 x22_2).f3.f0), .int .i64 ((rd_T28 l1 x22_2).f3.f1), .int .i64 ((rd_T28 l1 x22_2).f3.f2), .int .i64 0, .int .i64 0]) ?_ 10 _ rfl; (with_reducible repeat (first | refine blk_drewN ?_ _ | refine blk_drew ?_ | refine blk_alloc ?_ _)); refine blk_put (cs := #[.int .i64 ((rd_T28 l1 x22_2).f0), .int .i64 ((rd_T28 l1 x22_2).f1), .int .i64 ((rd_T28 l1 x22_2).f2.f0), .int .i64 ((rd_T28 l1 x22_2).f2.f1), .int .i64 ((rd_T28 l1 x22_2).f2.f2), .int .i64 ((rd_T28 l1 x22_2).f2.f3), .int .i64 ((rd_T28 l1 x22_2).f2.f4), .int .i64 ((rd_T28 l1 x22_2).f3.f0), .int .i64 ((rd_T28 l1 x22_2).f3.f1), .int .i64 0, .int .i64 0, .int .i64 0]) ?_ 9 _ rfl; (with_reducible repeat (first | refine blk_drewN ?_ _ | refine blk_drew ?_ | refine blk_alloc ?_ _)); refine blk_put (cs := #[.int .i64 ((rd_T28 l1 x22_2).f0), .int .i64 ((rd_T28 l1 x22_2).f1), .int .i64 ((rd_T28 l1 x22_2).f2.f0), .int .i64 ((rd_T28 l1 x22_2).f2.f1), .int .i64 ((rd_T28 l1 x22_2).f2.f2), .int .i64 ((rd_T28 l1 x22_2).f2.f3), .int .i64 ((rd_T28 l1 x22_2).f2.f4), .int .i64 ((rd_T28 l1 x22_2).f3.f0), .int .i64 0, .int .i64 0, .int .i64 0, .int .i64 0]) ?_ 8 _ rfl; (with_reducible repeat (first | refine blk_drewN ?_ _ | refine blk_drew ?_ | refine blk_alloc ?_ _)); refine blk_put (cs := #[.int .i64 ((rd_T28 l1 x22_2).f0), .int .i64 ((rd_T28 l1 x22_2).f1), .int .i64 ((rd_T28 l1 x22_2).f2.f0), .int .i64 ((rd_T28 l1 x22_2).f2.f1), .int .i64 ((rd_T28 l1 x22_2).f2.f2), .int .i64 ((rd_T28 l1 x22_2).f2.f3), .int .i64 ((rd_T28 l1 x22_2).f2.f4), .int .i64 0, .int .i64 0, .int .i64 0, .int .i64 0, .int .i64 0]) ?_ 7 _ rfl; (with_reducible repeat (first | refine blk_drewN ?_ _ | refine blk_drew ?_ | refine blk_alloc ?_ _)); refine blk_put (cs := #[.int .i64 ((rd_T28 l1 x22_2).f0), .int .i64 ((rd_T28 l1 x22_2).f1), .int .i64 ((rd_T28 l1 x22_2).f2.f0), .int .i64 ((rd_T28 l1 x22_2).f2.f1), .int .i64 ((rd_T28 l1 x22_2).f2.f2), .int .i64 ((rd_T28 l1 x22_2).f2.f3), .int .i64 0, .int .i64 0, .int .i64 0, .int .i64 0, .int .i64 0, .int .i64 0]) ?_ 6 _ rfl; (with_reducible repeat (first | refine blk_drewN ?_ _ | refine blk_drew ?_ | refine blk_alloc ?_ _)); refine blk_put (cs := #[.int .i64 ((rd_T28 l1 x22_2).f0), .int .i64 ((rd_T28 l1 x22_2).f1), .int .i64 ((rd_T28 l1 x22_2).f2.f0), .int .i64 ((rd_T28 l1 x22_2).f2.f1), .int .i64 ((rd_T28 l1 x22_2).f2.f2), .int .i64 0, .int .i64 0, .int .i64 0, .int .i64 0, .int .i64 0, .int .i64 0, .int .i64 0]) ?_ 5 _ rfl; (with_reducible repeat (first | refine blk_drewN ?_ _ | refine blk_drew ?_ | refine blk_alloc ?_ _)); refine blk_put (cs := #[.int .i64 ((rd_T28 l1 x22_2).f0), .int .i64 ((rd_T28 l1 x22_2).f1), .int .i64 ((rd_T28 l1 x22_2).f2.f0), .int .i64 ((rd_T28 l1 x22_2).f2.f1), .int .i64 0, .int .i64 0, .int .i64 0, .int .i64 0, .int .i64 0, .int .i64 0, .int .i64 0, .int .i64 0]) ?_ 4 _ rfl; (with_reducible repeat (first | refine blk_drewN ?_ _ | refine blk_drew ?_ | refine blk_alloc ?_ _)); refine blk_put (cs := #[.int .i64 ((rd_T28 l1 x22_2).f0), .int .i64 ((rd_T28 l1 x22_2).f1), .int .i64 ((rd_T28 l1 x22_2).f2.f0), .int .i64 0, .int .i64 0, .int .i64 0, .int .i64 0, .int .i64 0, .int .i64 0, .int .i64 0, .int .i64 0, .int .i64 0]) ?_ 3 _ rfl; (with_reducible repeat (first | refine blk_drewN ?_ _ | refine blk_drew ?_ | refine blk_alloc ?_ _)); refine blk_put (cs := #[.int .i64 ((rd_T28 l1 x22_2).f0), .int .i64 ((rd_T28 l1 x22_2).f1), .int .i64 0, .int .i64 0, .int .i64 0, .int .i64 0, .int .i64 0, .int .i64 0, .int .i64 0, .int .i64 0, .int .i64 0, .int .i64 0]) ?_ 2 _ rfl; (with_reducible repeat (first | refine blk_drewN ?_ _ | refine blk_drew ?_ | refine blk_alloc ?_ _)); refine blk_put (cs := #[.int .i64 ((rd_T28 l1 x22_2).f0), .int .i64 0, .int .i64 0, .int .i64 0, .int .i64 0, .int .i64 0, .int .i64 0, .int .i64 0, .int .i64 0, .int .i64 0, .int .i64 0, .int .i64 0]) ?_ 1 _ rfl; (with_reducible repeat (first | refine blk_drewN ?_ _ | refine blk_drew ?_ | refine blk_alloc ?_ _)); refine blk_put (cs := #[.int .i64 0, .int .i64 0, .int .i64 0, .int .i64 0, .int .i64 0, .int .i64 0, .int .i64 0, .int .i64 0, .int .i64 0, .int .i64 0, .int .i64 0, .int .i64 0]) ?_ 0 _ rfl; (with_reducible repeat (first | refine blk_drewN ?_ _ | refine blk_drew ?_ | refine blk_alloc ?_ _)); exact BK321.out) hb); have n2_ := Aside0.mk (below_step (upB1 HB.out GE321.out) hb); clear HO_8; clear BK321; clear HB; have HO_8 := n0_; have BK321 := n1_; have HB := n2_; clear n0_ n1_ n2_; (try clear hb); (try clear hk); have hcz33_0 := ci BK321.out 0 ((rd_T28 l1 x22_2).f0) rfl; have hcz33_1 := ci BK321.out 1 ((rd_T28 l1 x22_2).f1) rfl; have hcz33_2 := ci BK321.out 2 ((rd_T28 l1 x22_2).f2.f0) rfl; have hcz33_3 := ci BK321.out 3 ((rd_T28 l1 x22_2).f2.f1) rfl; have hcz33_4 := ci BK321.out 4 ((rd_T28 l1 x22_2).f2.f2) rfl; have hcz33_5 := ci BK321.out 5 ((rd_T28 l1 x22_2).f2.f3) rfl; have hcz33_6 := ci BK321.out 6 ((rd_T28 l1 x22_2).f2.f4) rfl; have hcz33_7 := ci BK321.out 7 ((rd_T28 l1 x22_2).f3.f0) rfl; have hcz33_8 := ci BK321.out 8 ((rd_T28 l1 x22_2).f3.f1) rfl; have hcz33_9 := ci BK321.out 9 ((rd_T28 l1 x22_2).f3.f2) rfl; have hcz33_10 := ci BK321.out 10 ((rd_T28 l1 x22_2).f3.f3) rfl; have hcz33_11 := ci BK321.out 11 ((rd_T28 l1 x22_2).f3.f4) rfl; have hfz33_0 := fun j_ : Nat => blk_frozen BK321.out j_) | (go_at_call 76; (with_reducible refine (impl_touches.calls ((rd_T28 l1 x22_2).f3.f0) ((rd_T28 l1 x22_2).f3.f1) ((rd_T28 l1 x22_2).f3.f2) ((rd_T28 l1 x22_2).f3.f3) ((rd_T28 l1 x22_2).f3.f4) a2 false _ A21.out).mono ?_); rintro e w34 ⟨rfl, hb⟩; have n0_ := Aside0.mk (Kd.R_below (upR HO_8.out) hb); have n1_ := Aside0.mk (blk_below (g := gb321) (o := .cells #[.int .i64 ((rd_T28 l1 x22_2).f0), .int .i64 ((rd_T28 l1 x22_2).f1), .int .i64 ((rd_T28 l1 x22_2).f2.f0), .int .i64 ((rd_T28 l1 x22_2).f2.f1), .int .i64 ((rd_T28 l1 x22_2).f2.f2), .int .i64 ((rd_T28 l1 x22_2).f2.f3), .int .i64 ((rd_T28 l1 x22_2).f2.f4), .int .i64 ((rd_T28 l1 x22_2).f3.f0), .int .i64 ((rd_T28 l1 x22_2).f3.f1), .int .i64 ((rd_T28 l1 x22_2).f3.f2), .int .i64 ((rd_T28 l1 x22_2).f3.f3), .int .i64 ((rd_T28 l1 x22_2).f3.f4)] 28 (0, 0)) (upK BK321.out) hb); have n2_ := Aside0.mk (below_step (upB1 HB.out GE321.out) hb); clear HO_8; clear BK321; clear HB; have HO_8 := n0_; have BK321 := n1_; have HB := n2_; clear n0_ n1_ n2_; (try clear hb); (try clear hk)))
                      go_roundg k2
                      case measure => have := HJ3.out; have := HK2.out; omega
                      case rel => exact ⟨(x8_2), (wrap64 (x22_2 + 1)), (by first | rfl | (simp; done) | (simp [*]; done)), H', ⟨by have := HJ3.out; have := HK2.out; omega⟩, ⟨by (with_reducible repeat (first | apply Kd.R_alloc | apply Kd.R_drewN | apply Kd.R_drew)); exact HO_8.out⟩, ⟨(upB1 HB.out GE321.out)⟩⟩
                · rw [if_neg c13] at H
                  exact absurd H (by simp)
              · rw [if_neg c12] at H
                exact absurd H (by simp)
            · rw [if_neg c11] at H
              have c11b0 : decide (x22_2 < (l1.length : Int)) = false := decide_eq_false c11
              clear c11
              simp only [Option.some.injEq, Prod.mk.injEq] at H
              obtain ⟨rfl, rfl⟩ := H
              go_wp2
              go_ret2
              exact ⟨_, by first | rfl | (simp [errW_none, errW_some] <;> rfl) | (simp [*, errW_none, errW_some] <;> rfl), by (with_reducible repeat (first | apply Kd.R_alloc | apply Kd.R_drewN | apply Kd.R_drew)); exact HO_8.out, (upB HB.out)⟩

/-! ### laws_eqIntS: function 37 -/
def laws_eqIntS.l0 : Nat → List Int → List Int → Int → Option (Bool)
  | 0, _, _, _ => none
  | k + 1, x0, x1, x5 => if x5 < (x0.length : Int) then (if 0 ≤ x5 then (if x5 < (x1.length : Int) then (if (rd x0 x5) = (rd x1 x5) then (laws_eqIntS.l0 k x0 x1 (wrap64 (x5 + 1))) else (some false)) else (none)) else (none)) else (some true)
def laws_eqIntS.f (k : Nat) (l0 : List Int) (l1 : List Int) : Option (Bool) := if (l0.length : Int) = (l1.length : Int) then (laws_eqIntS.l0 k l0 l1 0) else (some false)
theorem laws_eqIntS.mono_l : ∀ k, (∀ y0 y1 y2, LeO (laws_eqIntS.l0 k y0 y1 y2) (laws_eqIntS.l0 (k + 1) y0 y1 y2))
  | 0 => fun _ _ _ r h => by simp [laws_eqIntS.l0] at h
  | k + 1 => by
    have ih0 := laws_eqIntS.mono_l k
    · intro y0 y1 y2
      unfold laws_eqIntS.l0
      repeat' first
      | (with_reducible exact ih0 _ _ _)
      | (with_reducible exact LeO.refl _)
      | (with_reducible exact LeO.none _)
      | (with_reducible refine LeO.ite ?_ ?_)
      | (with_reducible refine LeO.bind ?_ (fun _ => ?_))
      | exact ih0 _ _ _
      | exact LeO.none _
      | refine LeO.ite ?_ ?_
      | refine LeO.bind ?_ (fun _ => ?_)
theorem laws_eqIntS.mono : ∀ a0 a1 k, LeO (laws_eqIntS.f k a0 a1) (laws_eqIntS.f (k + 1) a0 a1) := by
  intro a0 a1 k
  have ih0 := laws_eqIntS.mono_l k
  unfold laws_eqIntS.f
  repeat' first
      | (with_reducible exact ih0 _ _ _)
      | (with_reducible exact LeO.refl _)
      | (with_reducible exact LeO.none _)
      | (with_reducible refine LeO.ite ?_ ?_)
      | (with_reducible refine LeO.bind ?_ (fun _ => ?_))
      | exact ih0 _ _ _
      | exact LeO.none _
      | refine LeO.ite ?_ ?_
      | refine LeO.bind ?_ (fun _ => ?_)
set_option maxHeartbeats 8000000 in
set_option maxRecDepth 100000 in
theorem laws_eqIntS.calls (k : Nat) (A0 : Option Addr) (c0 : Nat) (l0 : List Int) (A1 : Option Addr) (c1 : Nat) (l1 : List Int) (r : Bool) (w : World) (hr0 : Kd.C (Kd.int .i64) w A0 l0.length l0) (hc0 : l0.length ≤ c0) (hr1 : Kd.C (Kd.int .i64) w A1 l1.length l1) (hc1 : l1.length ≤ c1) (h : laws_eqIntS.f k l0 l1 = some r) :
    Calls Try.prog 37 #[.slice A0 l0.length c0, .slice A1 l1.length c1] w fun e w' => e = .returned (.bool r) ∧ Drawn0 w w' := by
  have HR0 := Aside0.mk hr0
  have HC0 := Aside0.mk hc0
  clear hr0 hc0
  have HR1 := Aside0.mk hr1
  have HC1 := Aside0.mk hc1
  clear hr1 hc1
  have H : (if (l0.length : Int) = (l1.length : Int) then (laws_eqIntS.l0 k l0 l1 0) else (some false)) = some r := h
  clear h
  by_cases c3 : (l0.length : Int) = (l1.length : Int)
  · rw [if_pos c3] at H
    have c3b0 : ((l0.length : Int) == (l1.length : Int)) = true := beq_iff_eq.mpr c3
    have c3b1 : ((l0.length : Int) != (l1.length : Int)) = false := bne_eq_false_iff_eq.mpr c3
    have c3b2 : (l0.length == l1.length) = true := by first | simpa using c3 | (simp at c3 ⊢; omega)
    clear c3
    have H' := Aside0.mk H
    clear H
    go_enter Try.func37, Try.ntmps37
    go_wp2
    repeat (go_quiet (fail); try go_wp2)
    go_loopg [5] k (fun kq v5 w' => ∃ (x5_1 : Int), v5 = .int .i64 x5_1 ∧ Aside0 (laws_eqIntS.l0 kq l0 l1 x5_1 = some r) ∧ Aside0 (kq ≤ k) ∧ Drawn0 w w')
    case atStart => exact ⟨(0), (by first | rfl | (simp; done) | (simp [*]; done)), H', ⟨Nat.le_refl _⟩, by repeat (first | exact Drawn0.refl _ | apply Drawn0.step)⟩
    case round =>
      clear H'
      try clear c1
      try clear c3
      try clear c3b0
      try clear c3b1
      try clear c3b2
      obtain ⟨x5_1, rfl, HA, HK1, ⟨m1, rfl⟩⟩ := hrel
      cases gk with
      | zero => exact absurd HA.out (by simp [laws_eqIntS.l0])
      | succ k1 =>
        have H := HA.out
        clear HA
        simp only [laws_eqIntS.l0] at H
        by_cases c4 : x5_1 < (l0.length : Int)
        · rw [if_pos c4] at H
          have c4b0 : decide (x5_1 < (l0.length : Int)) = true := decide_eq_true c4
          clear c4
          by_cases c5 : 0 ≤ x5_1
          · rw [if_pos c5] at H
            have c5b0 : decide (0 ≤ x5_1) = true := decide_eq_true c5
            clear c5
            by_cases c6 : x5_1 < (l1.length : Int)
            · rw [if_pos c6] at H
              have c6b0 : decide (x5_1 < (l1.length : Int)) = true := decide_eq_true c6
              clear c6
              by_cases c7 : (rd l0 x5_1) = (rd l1 x5_1)
              · rw [if_pos c7] at H
                have c7b0 : ((rd l0 x5_1) == (rd l1 x5_1)) = true := beq_iff_eq.mpr c7
                have c7b1 : ((rd l0 x5_1) != (rd l1 x5_1)) = false := bne_eq_false_iff_eq.mpr c7
                clear c7
                have H' := Aside0.mk H
                clear H
                have p330 : 0 ≤ (x5_1 : Int) := of_decide_eq_true asmB
                have q330 : x5_1 < (l0.length : Int) := of_decide_eq_true asmB
                obtain ⟨ad330, e330, hx330_0⟩ := Kd.at_int HR0.out x5_1 p330 q330
                cases e330
                replace p330 := eq_true p330
                replace q330 := eq_true q330
                have p331 : 0 ≤ (x5_1 : Int) := of_decide_eq_true asmB
                have q331 : x5_1 < (l1.length : Int) := of_decide_eq_true asmB
                obtain ⟨ad331, e331, hx331_0⟩ := Kd.at_int HR1.out x5_1 p331 q331
                cases e331
                replace p331 := eq_true p331
                replace q331 := eq_true q331
                go_wp2
                repeat (go_quiet (fail); try go_wp2)
                go_roundg k1
                case measure => have := HK1.out; omega
                case rel => exact ⟨(wrap64 (x5_1 + 1)), (by first | rfl | (simp; done) | (simp [*]; done)), H', ⟨by have := HK1.out; omega⟩, by repeat (first | exact Drawn0.refl _ | apply Drawn0.step)⟩
              · rw [if_neg c7] at H
                have c7b0 : ((rd l0 x5_1) == (rd l1 x5_1)) = false := beq_eq_false_iff_ne.mpr c7
                have c7b1 : ((rd l0 x5_1) != (rd l1 x5_1)) = true := bne_iff_ne.mpr c7
                obtain rfl := Option.some.inj H
                have p330 : 0 ≤ (x5_1 : Int) := of_decide_eq_true asmB
                have q330 : x5_1 < (l0.length : Int) := of_decide_eq_true asmB
                obtain ⟨ad330, e330, hx330_0⟩ := Kd.at_int HR0.out x5_1 p330 q330
                cases e330
                replace p330 := eq_true p330
                replace q330 := eq_true q330
                have p331 : 0 ≤ (x5_1 : Int) := of_decide_eq_true asmB
                have q331 : x5_1 < (l1.length : Int) := of_decide_eq_true asmB
                obtain ⟨ad331, e331, hx331_0⟩ := Kd.at_int HR1.out x5_1 p331 q331
                cases e331
                replace p331 := eq_true p331
                replace q331 := eq_true q331
                go_wp2
                repeat (go_quiet (fail); try go_wp2)
                go_ret
                exact ⟨by first | rfl | (simp; done) | (simp [*]; done), by repeat (first | exact Drawn0.refl _ | apply Drawn0.step)⟩
            · rw [if_neg c6] at H
              exact absurd H (by simp)
          · rw [if_neg c5] at H
            exact absurd H (by simp)
        · rw [if_neg c4] at H
          have c4b0 : decide (x5_1 < (l0.length : Int)) = false := decide_eq_false c4
          clear c4
          obtain rfl := Option.some.inj H
          go_wp2
          repeat (go_quiet (fail); try go_wp2)
          go_ret
          exact ⟨by first | rfl | (simp; done) | (simp [*]; done), by repeat (first | exact Drawn0.refl _ | apply Drawn0.step)⟩
  · rw [if_neg c3] at H
    have c3b0 : ((l0.length : Int) == (l1.length : Int)) = false := beq_eq_false_iff_ne.mpr c3
    have c3b1 : ((l0.length : Int) != (l1.length : Int)) = true := bne_iff_ne.mpr c3
    have c3b2 : (l0.length == l1.length) = false := by first | simpa using c3 | (simp at c3 ⊢; omega)
    obtain rfl := Option.some.inj H
    go_enter Try.func37, Try.ntmps37
    go_wp2
    repeat (go_quiet (fail); try go_wp2)
    go_ret
    exact ⟨by first | rfl | (simp; done) | (simp [*]; done), by repeat (first | exact Drawn0.refl _ | apply Drawn0.step)⟩

/-! ### laws_markIntS: function 38 -/
def laws_markIntS.l0 : Nat → List Int → Int → Int → Option (Int × List Int)
  | 0, _, _, _ => none
  | k + 1, x0, x1, x5 => if x5 < (x0.length : Int) then (if 0 ≤ x5 then (laws_markIntS.l0 k (x0.set (x5 : Int).toNat x1) (wrap64 (x1 + 1)) (wrap64 (x5 + 1))) else (none)) else (some (x1, x0))
def laws_markIntS.f (k : Nat) (l0 : List Int) (a1 : Int) : Option (Int × List Int) := laws_markIntS.l0 k l0 a1 0
theorem laws_markIntS.mono_l : ∀ k, (∀ y0 y1 y2, LeO (laws_markIntS.l0 k y0 y1 y2) (laws_markIntS.l0 (k + 1) y0 y1 y2))
  | 0 => fun _ _ _ r h => by simp [laws_markIntS.l0] at h
  | k + 1 => by
    have ih0 := laws_markIntS.mono_l k
    · intro y0 y1 y2
      unfold laws_markIntS.l0
      repeat' first
      | (with_reducible exact ih0 _ _ _)
      | (with_reducible exact LeO.refl _)
      | (with_reducible exact LeO.none _)
      | (with_reducible refine LeO.ite ?_ ?_)
      | (with_reducible refine LeO.bind ?_ (fun _ => ?_))
      | exact ih0 _ _ _
      | exact LeO.none _
      | refine LeO.ite ?_ ?_
      | refine LeO.bind ?_ (fun _ => ?_)
theorem laws_markIntS.mono : ∀ a0 a1 k, LeO (laws_markIntS.f k a0 a1) (laws_markIntS.f (k + 1) a0 a1) := by
  intro a0 a1 k
  have ih0 := laws_markIntS.mono_l k
  unfold laws_markIntS.f
  repeat' first
      | (with_reducible exact ih0 _ _ _)
      | (with_reducible exact LeO.refl _)
      | (with_reducible exact LeO.none _)
      | (with_reducible refine LeO.ite ?_ ?_)
      | (with_reducible refine LeO.bind ?_ (fun _ => ?_))
      | exact ih0 _ _ _
      | exact LeO.none _
      | refine LeO.ite ?_ ?_
      | refine LeO.bind ?_ (fun _ => ?_)
set_option maxHeartbeats 8000000 in
set_option maxRecDepth 100000 in
theorem laws_markIntS.calls (k : Nat) (P0_ : Nat → Prop) (u9000_ : Value) (l0 : List Int) (a1 : Int) (r1 : Int) (r2 : List Int) (w0 w : World) (hB : Below w0.heap.size w0 w) (ho0 : Kd.R (Kd.int .i64) 3 w w0.heap.size P0_ u9000_ l0) (h : laws_markIntS.f k l0 a1 = some (r1, r2)) :
    Calls Try.prog 38 #[u9000_, .int .i64 a1] w fun e w' => e = .returned (.int .i64 r1) ∧ Kd.R (Kd.int .i64) 3 w' w0.heap.size (fun k_ => (P0_ k_ ∨ w.heap.size ≤ k_)) u9000_ r2 ∧ Below w0.heap.size w0 w' ∧ Kept w w' (fun k_ => P0_ k_) := by
  have HO0 := Aside0.mk (show Kd.R (Kd.int .i64) 3 w w0.heap.size (fun k_ => (P0_ k_ ∨ w.heap.size ≤ k_)) u9000_ l0 from Kd.R_mono ho0 (fun k_ hk => (.inl hk)))
  have HK := Aside0.mk (Kept.refl w (fun k_ => P0_ k_))
  have HW0 := Aside0.mk hB.size
  have HB := Aside0.mk hB
  clear hB
  have H : (laws_markIntS.l0 k l0 a1 0) = some (r1, r2) := h
  clear h
  have H' := Aside0.mk H
  clear H
  go_enter Try.func38, Try.ntmps38
  go_wp2
  go_loopg [1, 5] k (fun kq v1 v5 w' => ∃ (x0_1 : List Int) (x1_1 : Int) (x5_1 : Int), v1 = .int .i64 x1_1 ∧ v5 = .int .i64 x5_1 ∧ Aside0 (laws_markIntS.l0 kq x0_1 x1_1 x5_1 = some (r1, r2)) ∧ Aside0 (kq ≤ k) ∧ Aside0 (Kd.R (Kd.int .i64) 3 w' w0.heap.size (fun k_ => (P0_ k_ ∨ w.heap.size ≤ k_)) u9000_ x0_1) ∧ Aside0 (Kept w w' (fun k_ => P0_ k_)) ∧ Aside0 (Below w0.heap.size w0 w'))
  case atStart => exact ⟨(l0), (a1), (0), (by first | rfl | (simp; done) | (simp [*]; done)), (by first | rfl | (simp; done) | (simp [*]; done)), H', ⟨Nat.le_refl _⟩, ⟨by (with_reducible repeat (first | apply Kd.R_alloc | apply Kd.R_drewN | apply Kd.R_drew)); exact HO0.out⟩, ⟨by repeat (first | (with_reducible first | exact HK.out | apply Kept.alloc | apply Kept.drewN | apply Kept.drew) | exact HK.out)⟩, ⟨(upB HB.out)⟩⟩
  case round =>
    clear H'
    obtain ⟨x0_1, x1_1, x5_1, rfl, rfl, HA, HK1, HO_0, HK, HB⟩ := hrel
    cases gk with
    | zero => exact absurd HA.out (by simp [laws_markIntS.l0])
    | succ k1 =>
      have H := HA.out
      clear HA
      simp only [laws_markIntS.l0] at H
      by_cases c3 : x5_1 < (x0_1.length : Int)
      · rw [if_pos c3] at H
        have c3b0 : decide (x5_1 < (x0_1.length : Int)) = true := decide_eq_true c3
        clear c3
        by_cases c4 : 0 ≤ x5_1
        · rw [if_pos c4] at H
          have c4b0 : decide (0 ≤ x5_1) = true := decide_eq_true c4
          clear c4
          obtain ⟨y332, hy332⟩ : ∃ y_ : List Int, y_ = (x0_1.set (x5_1 : Int).toNat x1_1) := ⟨_, rfl⟩
          replace H : (laws_markIntS.l0 k1 y332 (wrap64 (x1_1 + 1)) (wrap64 (x5_1 + 1))) = some (r1, r2) := by first | (rw [hy332]; with_reducible exact H) | (have H2_ := (Option.bind_some _ _).symm.trans H; rw [hy332]; with_reducible exact H2_) | (have H2_ := (Option.bind_some _ _).symm.trans H; with_reducible exact H2_) | with_reducible exact H | (rw [hy332]; exact H) | exact H
          have Ny332 := Aside0.mk hy332
          clear hy332
          have H' := Aside0.mk H
          clear H
          obtain ⟨Ao6, co6, eo6⟩ := Kd.R_slice HO_0.out
          subst eo6
          have p5 : 0 ≤ (x5_1 : Int) := of_decide_eq_true asmB
          have q5 : (x5_1 : Int) < ((x0_1.length : Int) : Int) := of_decide_eq_true asmB
          obtain ⟨go5, co5, eo5, gb5, gl5, cl5, HG5⟩ := Kd.R_form HO_0.out (by omega)
          (first | cases eo5 | (injection eo5 with ea_ en_ ec_; (first | subst ea_ | (injection ea_ with ea_; subst ea_)); subst ec_; clear en_))
          have GB5 := Aside0.mk gb5
          have GG5 := Aside0.mk HG5
          clear gb5 gl5 HG5
          have HMgo5 := Aside0.mk (show (P0_ go5 ∨ w.heap.size ≤ go5) from (HO_0.out.1 _ rfl))
          obtain ⟨hx5_0, hf5_0⟩ := Kd.R_celln 0 HO_0.out (x5_1 : Int) p5 q5
          replace p5 := eq_true p5
          replace q5 := eq_true q5
          have HP7 := Kd.R_putg HO_0.out (x5_1 : Int) x1_1
          go_wp2_with (first | ((with_reducible refine gate_store (t := 3) (p := 15) rfl ?_); refine store_event (t := 3) (p := 15) (v := ?vo_w8) (w1 := (wr.setCell ⟨go5, (x5_1 : Int).toNat, none⟩ (.int .i64 x1_1))) ?hg ?ho ?hn ?hr ?_; (case ho => rfl); (case hg => rfl); (case hn => rfl); (case hr => first | (go_simp; done) | (go_simp; rfl)); intro w8 hw; have hg : wr.grownBy w8 (some go5) := (by rw [hw]; exact HP7.2); have hp_ : Kd.R (Kd.int .i64) 3 w8 w0.heap.size (fun k_ => (P0_ k_ ∨ w.heap.size ≤ k_)) (.slice (some ⟨go5, 0, none⟩) x0_1.length co6) y332 := (by rw [hw, Ny332.out]; exact HP7.1); clear HP7; have n0_ := Aside0.mk (hp_); have n1_ := Aside0.mk ((by rw [hw]; exact below_set (HB.out) GB5.out : Below w0.heap.size w0 w8)); have n2_ := Aside0.mk (Kept.of_grown (S := (fun k_ => P0_ k_)) hg (by repeat (first | (with_reducible first | exact HK.out | apply Kept.alloc | apply Kept.drewN | apply Kept.drew) | exact HK.out)) (fun k_ e_ => (HO_0.out.1 k_ e_))); clear HO_0; clear HB; clear HK; have HO_0 := n0_; have HB := n1_; have HK := n2_; clear n0_ n1_ n2_; clear hg hw hp_))
          go_roundg k1
          case measure => have := HK1.out; omega
          case rel => exact ⟨(y332), (wrap64 (x1_1 + 1)), (wrap64 (x5_1 + 1)), (by first | rfl | (simp; done) | (simp [*]; done)), (by first | rfl | (simp; done) | (simp [*]; done)), H', ⟨by have := HK1.out; omega⟩, ⟨by (with_reducible repeat (first | apply Kd.R_alloc | apply Kd.R_drewN | apply Kd.R_drew)); exact HO_0.out⟩, ⟨by repeat (first | (with_reducible first | exact HK.out | apply Kept.alloc | apply Kept.drewN | apply Kept.drew) | exact HK.out)⟩, ⟨(upB HB.out)⟩⟩
        · rw [if_neg c4] at H
          exact absurd H (by simp)
      · rw [if_neg c3] at H
        have c3b0 : decide (x5_1 < (x0_1.length : Int)) = false := decide_eq_false c3
        clear c3
        simp only [Option.some.injEq, Prod.mk.injEq] at H
        obtain ⟨rfl, rfl⟩ := H
        obtain ⟨Ao9, co9, eo9⟩ := Kd.R_slice HO_0.out
        subst eo9
        go_wp2
        go_ret
        exact ⟨by first | rfl | (simp [errW_none, errW_some] <;> rfl) | (simp [*, errW_none, errW_some] <;> rfl), by (with_reducible repeat (first | apply Kd.R_alloc | apply Kd.R_drewN | apply Kd.R_drew)); exact HO_0.out, (upB HB.out), by repeat (first | (with_reducible first | exact HK.out | apply Kept.alloc | apply Kept.drewN | apply Kept.drew) | exact HK.out)⟩

/-! ### laws_heldIntS: function 39 -/
def laws_heldIntS.l0 : Nat → List Int → Int → Int → Option (Int)
  | 0, _, _, _ => none
  | k + 1, x0, x1, x5 => if x5 < (x0.length : Int) then (if 0 ≤ x5 then (if (rd x0 x5) = x1 then (laws_heldIntS.l0 k x0 (wrap64 (x1 + 1)) (wrap64 (x5 + 1))) else (some (-1))) else (none)) else (some x1)
def laws_heldIntS.f (k : Nat) (l0 : List Int) (a1 : Int) : Option (Int) := laws_heldIntS.l0 k l0 a1 0
theorem laws_heldIntS.mono_l : ∀ k, (∀ y0 y1 y2, LeO (laws_heldIntS.l0 k y0 y1 y2) (laws_heldIntS.l0 (k + 1) y0 y1 y2))
  | 0 => fun _ _ _ r h => by simp [laws_heldIntS.l0] at h
  | k + 1 => by
    have ih0 := laws_heldIntS.mono_l k
    · intro y0 y1 y2
      unfold laws_heldIntS.l0
      repeat' first
      | (with_reducible exact ih0 _ _ _)
      | (with_reducible exact LeO.refl _)
      | (with_reducible exact LeO.none _)
      | (with_reducible refine LeO.ite ?_ ?_)
      | (with_reducible refine LeO.bind ?_ (fun _ => ?_))
      | exact ih0 _ _ _
      | exact LeO.none _
      | refine LeO.ite ?_ ?_
      | refine LeO.bind ?_ (fun _ => ?_)
theorem laws_heldIntS.mono : ∀ a0 a1 k, LeO (laws_heldIntS.f k a0 a1) (laws_heldIntS.f (k + 1) a0 a1) := by
  intro a0 a1 k
  have ih0 := laws_heldIntS.mono_l k
  unfold laws_heldIntS.f
  repeat' first
      | (with_reducible exact ih0 _ _ _)
      | (with_reducible exact LeO.refl _)
      | (with_reducible exact LeO.none _)
      | (with_reducible refine LeO.ite ?_ ?_)
      | (with_reducible refine LeO.bind ?_ (fun _ => ?_))
      | exact ih0 _ _ _
      | exact LeO.none _
      | refine LeO.ite ?_ ?_
      | refine LeO.bind ?_ (fun _ => ?_)
set_option maxHeartbeats 8000000 in
set_option maxRecDepth 100000 in
theorem laws_heldIntS.calls (k : Nat) (A0 : Option Addr) (c0 : Nat) (l0 : List Int) (a1 : Int) (r : Int) (w : World) (hr0 : Kd.C (Kd.int .i64) w A0 l0.length l0) (hc0 : l0.length ≤ c0) (h : laws_heldIntS.f k l0 a1 = some r) :
    Calls Try.prog 39 #[.slice A0 l0.length c0, .int .i64 a1] w fun e w' => e = .returned (.int .i64 r) ∧ Drawn0 w w' := by
  have HR0 := Aside0.mk hr0
  have HC0 := Aside0.mk hc0
  clear hr0 hc0
  have H : (laws_heldIntS.l0 k l0 a1 0) = some r := h
  clear h
  have H' := Aside0.mk H
  clear H
  go_enter Try.func39, Try.ntmps39
  go_wp2
  go_loopg [1, 5] k (fun kq v1 v5 w' => ∃ (x1_1 : Int) (x5_1 : Int), v1 = .int .i64 x1_1 ∧ v5 = .int .i64 x5_1 ∧ Aside0 (laws_heldIntS.l0 kq l0 x1_1 x5_1 = some r) ∧ Aside0 (kq ≤ k) ∧ Drawn0 w w')
  case atStart => exact ⟨(a1), (0), (by first | rfl | (simp; done) | (simp [*]; done)), (by first | rfl | (simp; done) | (simp [*]; done)), H', ⟨Nat.le_refl _⟩, by repeat (first | exact Drawn0.refl _ | apply Drawn0.step)⟩
  case round =>
    clear H'
    obtain ⟨x1_1, x5_1, rfl, rfl, HA, HK1, ⟨m1, rfl⟩⟩ := hrel
    cases gk with
    | zero => exact absurd HA.out (by simp [laws_heldIntS.l0])
    | succ k1 =>
      have H := HA.out
      clear HA
      simp only [laws_heldIntS.l0] at H
      by_cases c3 : x5_1 < (l0.length : Int)
      · rw [if_pos c3] at H
        have c3b0 : decide (x5_1 < (l0.length : Int)) = true := decide_eq_true c3
        clear c3
        by_cases c4 : 0 ≤ x5_1
        · rw [if_pos c4] at H
          have c4b0 : decide (0 ≤ x5_1) = true := decide_eq_true c4
          clear c4
          by_cases c5 : (rd l0 x5_1) = x1_1
          · rw [if_pos c5] at H
            have c5b0 : ((rd l0 x5_1) == x1_1) = true := beq_iff_eq.mpr c5
            have c5b1 : ((rd l0 x5_1) != x1_1) = false := bne_eq_false_iff_eq.mpr c5
            clear c5
            have H' := Aside0.mk H
            clear H
            have p333 : 0 ≤ (x5_1 : Int) := of_decide_eq_true asmB
            have q333 : x5_1 < (l0.length : Int) := of_decide_eq_true asmB
            obtain ⟨ad333, e333, hx333_0⟩ := Kd.at_int HR0.out x5_1 p333 q333
            cases e333
            replace p333 := eq_true p333
            replace q333 := eq_true q333
            go_wp2
            go_roundg k1
            case measure => have := HK1.out; omega
            case rel => exact ⟨(wrap64 (x1_1 + 1)), (wrap64 (x5_1 + 1)), (by first | rfl | (simp; done) | (simp [*]; done)), (by first | rfl | (simp; done) | (simp [*]; done)), H', ⟨by have := HK1.out; omega⟩, by repeat (first | exact Drawn0.refl _ | apply Drawn0.step)⟩
          · rw [if_neg c5] at H
            have c5b0 : ((rd l0 x5_1) == x1_1) = false := beq_eq_false_iff_ne.mpr c5
            have c5b1 : ((rd l0 x5_1) != x1_1) = true := bne_iff_ne.mpr c5
            obtain rfl := Option.some.inj H
            have p333 : 0 ≤ (x5_1 : Int) := of_decide_eq_true asmB
            have q333 : x5_1 < (l0.length : Int) := of_decide_eq_true asmB
            obtain ⟨ad333, e333, hx333_0⟩ := Kd.at_int HR0.out x5_1 p333 q333
            cases e333
            replace p333 := eq_true p333
            replace q333 := eq_true q333
            go_wp2
            go_ret
            exact ⟨by first | rfl | (simp; done) | (simp [*]; done), by repeat (first | exact Drawn0.refl _ | apply Drawn0.step)⟩
        · rw [if_neg c4] at H
          exact absurd H (by simp)
      · rw [if_neg c3] at H
        have c3b0 : decide (x5_1 < (l0.length : Int)) = false := decide_eq_false c3
        clear c3
        obtain rfl := Option.some.inj H
        go_wp2
        go_ret
        exact ⟨by first | rfl | (simp; done) | (simp [*]; done), by repeat (first | exact Drawn0.refl _ | apply Drawn0.step)⟩

end Go.Proofs.Ytinelmmnajelaaa.QFnExactEditsOn
