/- Contracts of Go functions that FnClubs reaches: the call computes what the plain function says. No condition. -/
import Derived.Test.YtfaojmabalplfaaQFnClubsx0
import Derived.Test.YtfaojmabalplfaaQFnClubsx3
import Derived.Test.YtfaojmabalplfaaQFnClubsx8
namespace Go.Proofs.Ytfaojmabalplfaa.QFnClubs
open Go.RowKit Go.Proofs.YtfaojmabalplfaaW.PrintWords Go.Proofs.YtfaojmabalplfaaW.PrintLast Go.Proofs.YtfaojmabalplfaaW.PrintMore
attribute [local go_sem] max2_int min2_int max_two min_two max_three min_three max_four min_four   -- for this text's walks alone
set_option linter.unusedVariables false
set_option linter.unusedSimpArgs false

/-! ### spec_ConflictLegs: function 38 -/
mutual
def spec_ConflictLegs.j0 : Nat → List (S70) → List (S70) → Int → Int → List (S64) → Bool → Option ((List (S64)) × Bool)
 | 0, _, _, _, _, _, _ => none
 | k + 1, x0, x1, x2, x3, x10, x31 => if x31 = true then (some (x10, false)) else ((spec_l20Pairs.f k x0 x1).bind fun t249 => (spec_ConflictLegs.l0 k x0 x1 x2 x3 x10 t249 0))
def spec_ConflictLegs.l0 : Nat → List (S70) → List (S70) → Int → Int → List (S64) → List (S64) → Int → Option ((List (S64)) × Bool)
 | 0, _, _, _, _, _, _, _ => none
 | k + 1, x0, x1, x2, x3, x10, x11, x12 => if x12 < (x11.length : Int) then (if 0 ≤ x12 then (if 0 ≤ ((rd_T64 x11 x12).f0) then (if ((rd_T64 x11 x12).f0) < (x0.length : Int) then (if 0 ≤ ((rd_T64 x11 x12).f1) then (if ((rd_T64 x11 x12).f1) < (x1.length : Int) then ((spec_DoAgree.f k ((rd_T70 x0 ((rd_T64 x11 x12).f0)).f0) ((rd_T70 x0 ((rd_T64 x11 x12).f0)).f1) ((rd_T70 x0 ((rd_T64 x11 x12).f0)).f2) ((rd_T70 x0 ((rd_T64 x11 x12).f0)).f3) ((rd_T70 x0 ((rd_T64 x11 x12).f0)).f4) ((rd_T70 x1 ((rd_T64 x11 x12).f1)).f0) ((rd_T70 x1 ((rd_T64 x11 x12).f1)).f1) ((rd_T70 x1 ((rd_T64 x11 x12).f1)).f2) ((rd_T70 x1 ((rd_T64 x11 x12).f1)).f3) ((rd_T70 x1 ((rd_T64 x11 x12).f1)).f4) x2 x3).bind fun bt256 => (if bt256.1 = true then (spec_ConflictLegs.l0 k x0 x1 x2 x3 x10 x11 (wrap64 (x12 + 1))) else (if x10.length < 8796093022208 then (spec_ConflictLegs.l0 k x0 x1 x2 x3 (x10 ++ [(⟨(rd_T64 x11 x12).f0, (rd_T64 x11 x12).f1⟩ : S64)]) x11 (wrap64 (x12 + 1))) else (none)))) else (none)) else (none)) else (none)) else (none)) else (none)) else (some (x10, true))
end
def spec_ConflictLegs.f (k : Nat) (l0 : List (S70)) (l1 : List (S70)) (a2 a3 : Int) : Option ((List (S64)) × Bool) := (some (([] : List (S64)) : List (S64))).bind fun y244 => ((spec_l4Legs.f k l0).bind fun t247 => (if t247 = true then ((spec_l4Legs.f k l1).bind fun t248 => (if t248 = true then (if a2 < 0 then (spec_ConflictLegs.j0 k l0 l1 a2 a3 y244 true) else (spec_ConflictLegs.j0 k l0 l1 a2 a3 y244 (decide (a3 < 0)))) else (spec_ConflictLegs.j0 k l0 l1 a2 a3 y244 true))) else (spec_ConflictLegs.j0 k l0 l1 a2 a3 y244 true)))
theorem spec_ConflictLegs.mono_l : ∀ k, (∀ y0 y1 y2 y3 y4 y5, LeO (spec_ConflictLegs.j0 k y0 y1 y2 y3 y4 y5) (spec_ConflictLegs.j0 (k + 1) y0 y1 y2 y3 y4 y5)) ∧ (∀ y0 y1 y2 y3 y4 y5 y6, LeO (spec_ConflictLegs.l0 k y0 y1 y2 y3 y4 y5 y6) (spec_ConflictLegs.l0 (k + 1) y0 y1 y2 y3 y4 y5 y6))
 | 0 => ⟨fun _ _ _ _ _ _ r h => by simp [spec_ConflictLegs.j0] at h, fun _ _ _ _ _ _ _ r h => by simp [spec_ConflictLegs.l0] at h⟩
 | k + 1 => by
  obtain ⟨ih0, ih1⟩ := spec_ConflictLegs.mono_l k
  refine ⟨?_, ?_⟩
  ·intro y0 y1 y2 y3 y4 y5
   unfold spec_ConflictLegs.j0
   repeat' with_reducible first | apply ih0 | apply ih1 | apply spec_DoAgree.mono | apply spec_l20Pairs.mono | apply spec_l4Legs.mono | exact LeO.refl _ | exact LeO.none _ | refine LeO.ite ?_ ?_ | refine LeO.bind ?_ (fun _ => ?_)
  ·intro y0 y1 y2 y3 y4 y5 y6
   unfold spec_ConflictLegs.l0
   repeat' with_reducible first | apply ih0 | apply ih1 | apply spec_DoAgree.mono | apply spec_l20Pairs.mono | apply spec_l4Legs.mono | exact LeO.refl _ | exact LeO.none _ | refine LeO.ite ?_ ?_ | refine LeO.bind ?_ (fun _ => ?_)
theorem spec_ConflictLegs.mono : ∀ a0 a1 a2 a3 k, LeO (spec_ConflictLegs.f k a0 a1 a2 a3) (spec_ConflictLegs.f (k + 1) a0 a1 a2 a3) := by
 intro a0 a1 a2 a3 k
 obtain ⟨ih0, ih1⟩ := spec_ConflictLegs.mono_l k
 unfold spec_ConflictLegs.f
 repeat' with_reducible first | apply ih0 | apply ih1 | apply spec_DoAgree.mono | apply spec_l20Pairs.mono | apply spec_l4Legs.mono | exact LeO.refl _ | exact LeO.none _ | refine LeO.ite ?_ ?_ | refine LeO.bind ?_ (fun _ => ?_)
def spec_ConflictLegs.T8 : Bool × List (List Nat × List Nat) := (true, [([], []), ([], []), ([], []), ([1, 2], [1, 2]), ([3], [3]), ([4], [4]), ([0, 5], [0, 5]), ([6], [6]), ([], []), ([], []), ([], []), ([9, 10], [9, 10]), ([11], [11]), ([12], [12]), ([8, 13], [8, 13]), ([14], [14]), ([], []), ([], []), ([7, 15, 16, 17], [7, 15, 16, 17]), ([18], [18]), ([19], [19]), ([19], [19]), ([20, 18, 0, 1, 2, 3, 4, 5, 6, 7, 8, 9, 10, 11, 12, 13, 14, 15, 16, 17, 18, 19, 20], [20]), ([21, 22, 0, 1, 2, 3, 4, 5, 6, 7, 8, 9, 10, 11, 12, 13, 14, 15, 16, 17, 18, 19, 20, 21, 22], [21])])
def spec_ConflictLegs.B8 : List Nat := [0, 0, 0, 6, 14, 30, 63, 127, 0, 0, 0, 1536, 3584, 7680, 16128, 32512, 0, 0, 262143, 524287, 1048575, 1048575, 2097151, 8388607]
theorem spec_ConflictLegs.tab8 : rtab .any (opsOf Try.f38 8) = spec_ConflictLegs.T8 := by kernel_rfl
theorem spec_ConflictLegs.bits8 : waitsOk spec_ConflictLegs.T8.2 spec_ConflictLegs.B8 = true := by kernel_rfl
set_option maxHeartbeats 8000000 in
set_option maxRecDepth 100000 in
theorem spec_ConflictLegs.calls (k : Nat) (A0 : Option Addr) (c0 : Nat) (l0 : List (S70)) (A1 : Option Addr) (c1 : Nat) (l1 : List (S70)) (a2 a3 : Int) (r1 : List (S64)) (r2 : Bool) (w : World) (hr0 : Kd.C k70 w A0 l0.length l0) (hc0 : l0.length ≤ c0) (hr1 : Kd.C k70 w A1 l1.length l1) (hc1 : l1.length ≤ c1) (h : spec_ConflictLegs.f k l0 l1 a2 a3 = some (r1, r2)) :
  Calls Try.prog 38 #[.slice A0 l0.length c0, .slice A1 l1.length c1, .int .i64 a2, .int .i64 a3] w fun e w' => ∃ v0_ : Value, e = .returned (.tuple #[v0_, .bool r2]) ∧ Kd.R k64 64 w' w.heap.size (fun _ => True) v0_ r1 ∧ Below w.heap.size w w' := by
 have hu70 := Try.underlying70
 have hu64 := Try.underlying64
 have HR0 := Aside0.mk hr0
 have HC0 := Aside0.mk hc0
 clear hr0 hc0
 have HR1 := Aside0.mk hr1
 have HC1 := Aside0.mk hc1
 clear hr1 hc1
 have HB := Aside0.mk (Below.refl w.heap.size w)
 have H := h
 clear h
 unfold spec_ConflictLegs.f at H
 obtain ⟨y244, hy244⟩ : ∃ y_ : List (S64), y_ = (([] : List (S64))) := ⟨_, rfl⟩
 replace H : ((spec_l4Legs.f k l0).bind fun t247 => (if t247 = true then ((spec_l4Legs.f k l1).bind fun t248 => (if t248 = true then (if a2 < 0 then (spec_ConflictLegs.j0 k l0 l1 a2 a3 y244 true) else (spec_ConflictLegs.j0 k l0 l1 a2 a3 y244 (decide (a3 < 0)))) else (spec_ConflictLegs.j0 k l0 l1 a2 a3 y244 true))) else (spec_ConflictLegs.j0 k l0 l1 a2 a3 y244 true))) = some (r1, r2) := by first | (rw [hy244]; with_reducible exact H) | (have H2_ := (Option.bind_some _ _).symm.trans H; rw [hy244]; with_reducible exact H2_) | (have H2_ := (Option.bind_some _ _).symm.trans H; with_reducible exact H2_) | with_reducible exact H | (rw [hy244]; exact H) | exact H
 have Ny244 := Aside0.mk hy244
 clear hy244
 have HC5 := Aside0.mk H
 clear H
 go_enter Try.func38, Try.ntmps38
 go_upto_region 2 with (first | ((with_reducible refine gate_dst (N := 15) rfl ?_); refine Kd.R_lit k64 _ 64 ?hg (N := 15) ?hd (xs := ([] : List (S64))) (inner := []) (ok := fun _ => True) (okp := fun _ => True) ?hr ?hp (fun _ hk => hk) trivial (Below.refl _ _) (Nat.le_refl _) (by simp) ?_; (case hd => rfl); (case hg => rfl); (case hr => first | (go_simp; done) | (go_simp; rfl)); (case hp => exact (Reps.none _ _)); intro v245 w6 ho7 hb hg_ hnew_; clear hg_ hnew_; (first | rw [← Ny244.out] at ho7 | (simp only [Int.reduceToNat] at ho7; rw [← Ny244.out] at ho7)); have HO246 := Aside0.mk (Kd.R_lower ho7 (below_size (bW HB))); replace HB := uB HB hb; clear hb ho7))
 (try simp only [Act.put, List.setIfInBounds_toArray, List.set_cons_zero, List.set_cons_succ])
 go_cut [31] (fun v31 wc => ∃ (kq : Nat) (x31_4 : Bool), v31 = .bool x31_4 ∧ Aside0 (spec_ConflictLegs.j0 kq l0 l1 a2 a3 y244 x31_4 = some (r1, r2)) ∧ Aside0 (kq ≤ k) ∧ Aside0 (Kd.R k64 64 wc w.heap.size (fun _ => True) v245 y244) ∧ Aside0 (Below w.heap.size w wc))
 case first =>
  have H := HC5.out
  clear HC5
  replace H := bA H
  obtain ⟨t247, A8, H⟩ := H
  rcases Bool.eq_false_or_eq_true t247 with rfl | rfl
  ·replace H := iT rfl H
   replace H := bA H
   obtain ⟨t248, A10, H⟩ := H
   rcases Bool.eq_false_or_eq_true t248 with rfl | rfl
   ·replace H := iT rfl H
    replace H := ifD H
    rcases H with ⟨H, -, c12b0⟩ | ⟨H, -, c12b0⟩
    ·(first | rw [c12b0] | (simp only [i64_w, i32_w]; rw [c12b0]) | skip)
     have H' := Aside0.mk H
     clear H
     go_wp2_with (first | ((with_reducible refine gC 59 ?_); refine lA (some 17) Try.func59 (spec_l4Legs.calls k _ _ l0 true _ ?side1 ?side2 A8.out) ?_; (case side1 => repeat (first | exact (Kd.C_below HR0.out HB.out) | (with_reducible refine Kd.C_alloc ?_ _) | (with_reducible refine Kd.C_drewN ?_ _) | (with_reducible refine Kd.C_drew ?_))); (case side2 => exact HC0.out); intro w13 hb; replace HO246 := uR HO246 hb; replace HB := uB HB hb; (try clear hb); (try clear hk)) | (go_at_call 59; (with_reducible refine (spec_l4Legs.calls k _ _ l1 true _ ?side1 ?side2 A10.out).mono ?_); (case side1 => repeat (first | exact (Kd.C_below HR1.out HB.out) | (with_reducible refine Kd.C_alloc ?_ _) | (with_reducible refine Kd.C_drewN ?_ _) | (with_reducible refine Kd.C_drew ?_))); (case side2 => exact HC1.out); rintro e w14 ⟨rfl, hb⟩; replace HO246 := uR HO246 hb; replace HB := uB HB hb; (try clear hb); (try clear hk)))
     go_meet
     case rel => exact ⟨_, (true), rB, H', leB, ⟨upR HO246.out⟩, (aB HB)⟩
    ·(first | rw [c12b0] | (simp only [i64_w, i32_w]; rw [c12b0]) | skip)
     have H' := Aside0.mk H
     clear H
     go_wp2_with (first | ((with_reducible refine gC 59 ?_); refine lA (some 17) Try.func59 (spec_l4Legs.calls k _ _ l0 true _ ?side1 ?side2 A8.out) ?_; (case side1 => repeat (first | exact (Kd.C_below HR0.out HB.out) | (with_reducible refine Kd.C_alloc ?_ _) | (with_reducible refine Kd.C_drewN ?_ _) | (with_reducible refine Kd.C_drew ?_))); (case side2 => exact HC0.out); intro w15 hb; replace HO246 := uR HO246 hb; replace HB := uB HB hb; (try clear hb); (try clear hk)) | (go_at_call 59; (with_reducible refine (spec_l4Legs.calls k _ _ l1 true _ ?side1 ?side2 A10.out).mono ?_); (case side1 => repeat (first | exact (Kd.C_below HR1.out HB.out) | (with_reducible refine Kd.C_alloc ?_ _) | (with_reducible refine Kd.C_drewN ?_ _) | (with_reducible refine Kd.C_drew ?_))); (case side2 => exact HC1.out); rintro e w16 ⟨rfl, hb⟩; replace HO246 := uR HO246 hb; replace HB := uB HB hb; (try clear hb); (try clear hk)))
     go_meet
     case rel => exact ⟨_, (decide (a3 < 0)), rB, H', leB, ⟨upR HO246.out⟩, (aB HB)⟩
   ·replace H := iF (by decide) H
    have H' := Aside0.mk H
    clear H
    go_wp2_with (first | ((with_reducible refine gC 59 ?_); refine lA (some 17) Try.func59 (spec_l4Legs.calls k _ _ l0 true _ ?side1 ?side2 A8.out) ?_; (case side1 => repeat (first | exact (Kd.C_below HR0.out HB.out) | (with_reducible refine Kd.C_alloc ?_ _) | (with_reducible refine Kd.C_drewN ?_ _) | (with_reducible refine Kd.C_drew ?_))); (case side2 => exact HC0.out); intro w17 hb; replace HO246 := uR HO246 hb; replace HB := uB HB hb; (try clear hb); (try clear hk)) | (go_at_call 59; (with_reducible refine (spec_l4Legs.calls k _ _ l1 false _ ?side1 ?side2 A10.out).mono ?_); (case side1 => repeat (first | exact (Kd.C_below HR1.out HB.out) | (with_reducible refine Kd.C_alloc ?_ _) | (with_reducible refine Kd.C_drewN ?_ _) | (with_reducible refine Kd.C_drew ?_))); (case side2 => exact HC1.out); rintro e w18 ⟨rfl, hb⟩; replace HO246 := uR HO246 hb; replace HB := uB HB hb; (try clear hb); (try clear hk)))
    go_meet
    case rel => exact ⟨_, (true), rB, H', leB, ⟨upR HO246.out⟩, (aB HB)⟩
  ·replace H := iF (by decide) H
   have H' := Aside0.mk H
   clear H
   go_wp2_with (first | ((with_reducible refine gC 59 ?_); refine lA (some 17) Try.func59 (spec_l4Legs.calls k _ _ l0 false _ ?side1 ?side2 A8.out) ?_; (case side1 => repeat (first | exact (Kd.C_below HR0.out HB.out) | (with_reducible refine Kd.C_alloc ?_ _) | (with_reducible refine Kd.C_drewN ?_ _) | (with_reducible refine Kd.C_drew ?_))); (case side2 => exact HC0.out); intro w19 hb; replace HO246 := uR HO246 hb; replace HB := uB HB hb; (try clear hb); (try clear hk)))
   go_meet
   case rel => exact ⟨_, (true), rB, H', leB, ⟨upR HO246.out⟩, (aB HB)⟩
 case rest =>
  clear HC5
  try clear c1
  obtain ⟨kq, x31_4, rfl, HA, HJ4, HO_10, HB⟩ := hcut
  cases kq with
  | zero => exact absurd HA.out (by simp [spec_ConflictLegs.j0])
  | succ kj4 =>
   have H := HA.out
   clear HA
   simp only [spec_ConflictLegs.j0] at H
   rcases Bool.eq_false_or_eq_true x31_4 with rfl | rfl
   ·replace H := iT rfl H
    simp only [Option.some.injEq, Prod.mk.injEq] at H
    obtain ⟨rfl, rfl⟩ := H
    go_wp2
    go_ret2
    exact ⟨_, eB, upR HO_10.out, (bW HB)⟩
   ·replace H := iF (by decide) H
    replace H := bA H
    obtain ⟨t249, A21, H⟩ := H
    have H' := Aside0.mk H
    clear H
    go_wp2_with (first | ((with_reducible refine gate_callee (f := 60) rfl ?_); refine goesL_ (some 35) rfl rfl Try.func60 (by kernel_rfl) rfl #[.slice A0 l0.length c0, .slice A1 l1.length c1] rfl argsB ?_; (with_reducible refine (spec_l20Pairs.calls kj4 _ _ l0 _ _ l1 t249 _ ?side1 ?side2 ?side3 ?side4 A21.out).mono ?_); (case side1 => repeat (first | exact (Kd.C_below HR0.out HB.out) | (with_reducible refine Kd.C_alloc ?_ _) | (with_reducible refine Kd.C_drewN ?_ _) | (with_reducible refine Kd.C_drew ?_))); (case side2 => exact HC0.out); (case side3 => repeat (first | exact (Kd.C_below HR1.out HB.out) | (with_reducible refine Kd.C_alloc ?_ _) | (with_reducible refine Kd.C_drewN ?_ _) | (with_reducible refine Kd.C_drew ?_))); (case side4 => exact HC1.out); rintro e w22 ⟨v250, rfl, ho0, hb⟩; refine ⟨_, rfl, ?_⟩; have HO251 := Aside0.mk (Kd.R_lower (Kd.R_new' ho0 (Kd.R_lt (upR HO_10.out))) (below_size (bW HB))); replace HO_10 := Aside0.mk (Kd.R_elder' (upR HO_10.out) (Kd.R_base ho0) hb); replace HB := uB HB hb; (try clear hb); (try clear hk); (try clear ho0)))
    (try simp only [Act.put, List.setIfInBounds_toArray, List.set_cons_zero, List.set_cons_succ])
    go_loopg [10, 12] kj4 (fun kq v10 v12 w' => ∃ (x10_2 : List (S64)) (x12_2 : Int), v12 = .int .i64 x12_2 ∧ Aside0 (spec_ConflictLegs.l0 kq l0 l1 a2 a3 x10_2 t249 x12_2 = some (r1, r2)) ∧ Aside0 (kq ≤ kj4) ∧ Aside0 (Kd.R k64 64 w' w.heap.size (fun k_ => some k_ ≠ (v250 : Value).ownBlock) v10 x10_2) ∧ Aside0 (Kd.R k64 64 w' w.heap.size (fun k_ => some k_ ≠ (v10 : Value).ownBlock) v250 t249) ∧ Aside0 (Below w.heap.size w w'))
    case atStart => exact ⟨(y244), (0), rB, H', ⟨Nat.le_refl _⟩, ⟨by (with_reducible repeat (first | apply Kd.R_alloc | apply Kd.R_drewN | apply Kd.R_drew)); exact Kd.R_mono HO_10.out (fun _ hk => hk.2)⟩, ⟨by (with_reducible repeat (first | apply Kd.R_alloc | apply Kd.R_drewN | apply Kd.R_drew)); exact Kd.R_mono HO251.out (fun _ hk => hk.2)⟩, (aB HB)⟩
    case round =>
     clear H'
     try clear c1
     obtain ⟨x10_2, x12_2, rfl, HA, HK2, HO_10, HO_11, HB⟩ := hrel
     cases gk with
     | zero => exact absurd HA.out (by simp [spec_ConflictLegs.l0])
     | succ k2 =>
      have H := HA.out
      clear HA
      simp only [spec_ConflictLegs.l0] at H
      replace H := ifD H
      rcases H with ⟨H, -, c23b0⟩ | ⟨H, -, c23b0⟩
      ·by_cases c24 : 0 ≤ x12_2
       ·rw [if_pos c24] at H
        have c24b0 : decide (0 ≤ x12_2) = true := decide_eq_true c24
        clear c24
        by_cases c25 : 0 ≤ ((rd_T64 t249 x12_2).f0)
        ·rw [if_pos c25] at H
         have c25b0 : decide (0 ≤ ((rd_T64 t249 x12_2).f0)) = true := decide_eq_true c25
         clear c25
         by_cases c26 : ((rd_T64 t249 x12_2).f0) < (l0.length : Int)
         ·rw [if_pos c26] at H
          have c26b0 : decide (((rd_T64 t249 x12_2).f0) < (l0.length : Int)) = true := decide_eq_true c26
          clear c26
          by_cases c27 : 0 ≤ ((rd_T64 t249 x12_2).f1)
          ·rw [if_pos c27] at H
           have c27b0 : decide (0 ≤ ((rd_T64 t249 x12_2).f1)) = true := decide_eq_true c27
           clear c27
           by_cases c28 : ((rd_T64 t249 x12_2).f1) < (l1.length : Int)
           ·rw [if_pos c28] at H
            have c28b0 : decide (((rd_T64 t249 x12_2).f1) < (l1.length : Int)) = true := decide_eq_true c28
            clear c28
            replace H := Option.bind_eq_some_iff.mp H
            obtain ⟨⟨t256, t257⟩, A290, H⟩ := H
            replace H : (if t256 = true then (spec_ConflictLegs.l0 k2 l0 l1 a2 a3 x10_2 t249 (wrap64 (x12_2 + 1))) else (if x10_2.length < 8796093022208 then (spec_ConflictLegs.l0 k2 l0 l1 a2 a3 (x10_2 ++ [(⟨(rd_T64 t249 x12_2).f0, (rd_T64 t249 x12_2).f1⟩ : S64)]) t249 (wrap64 (x12_2 + 1))) else (none))) = some (r1, r2) := H
            have A29 := Aside0.mk A290
            clear A290
            rcases Bool.eq_false_or_eq_true t256 with rfl | rfl
            ·replace H := iT rfl H
             have H' := Aside0.mk H
             clear H
             obtain ⟨Ao31, co31, eo31⟩ := Kd.R_slice HO_11.out
             subst eo31
             try go_wp2
             replace HO_10 := Aside0.mk (Kd.R_drew HO_10.out)
             replace HO_11 := Aside0.mk (Kd.R_drew HO_11.out)
             replace HB := Aside0.mk (below_drew1 HB.out)
             have p252 : 0 ≤ (x12_2 : Int) := of_decide_eq_true asmB
             have q252 : x12_2 < (t249.length : Int) := of_decide_eq_true asmB
             obtain ⟨ad252, e252, hx252_0, hx252_1⟩ := at_T64 (Kd.R_reads' HO_11.out).2.2 x12_2 p252 q252
             cases e252
             replace p252 := eq_true p252
             replace q252 := eq_true q252
             have p253 : 0 ≤ (((rd_T64 t249 x12_2).f0) : Int) := of_decide_eq_true asmB
             have q253 : ((rd_T64 t249 x12_2).f0) < (l0.length : Int) := of_decide_eq_true asmB
             obtain ⟨ad253, e253, hx253_0, hx253_1, hx253_2, hx253_3, hx253_4⟩ := at_T70 HR0.out ((rd_T64 t249 x12_2).f0) p253 q253
             have hw253_4 := hx253_4
             have hw253_3 := hx253_3
             have hw253_2 := hx253_2
             have hw253_1 := hx253_1
             have hw253_0 := hx253_0
             cases e253
             replace hx253_0 := bx HB.out hx253_0
             replace hx253_1 := bx HB.out hx253_1
             replace hx253_2 := bx HB.out hx253_2
             replace hx253_3 := bx HB.out hx253_3
             replace hx253_4 := bx HB.out hx253_4
             replace p253 := eq_true p253
             replace q253 := eq_true q253
             have p254 : 0 ≤ (x12_2 : Int) := of_decide_eq_true asmB
             have q254 : x12_2 < (t249.length : Int) := of_decide_eq_true asmB
             obtain ⟨ad254, e254, hx254_0, hx254_1⟩ := at_T64 (Kd.R_reads' HO_11.out).2.2 x12_2 p254 q254
             obtain rfl : ad252 = ad254 := (by injection e254)
             replace p254 := eq_true p254
             replace q254 := eq_true q254
             have p255 : 0 ≤ (((rd_T64 t249 x12_2).f1) : Int) := of_decide_eq_true asmB
             have q255 : ((rd_T64 t249 x12_2).f1) < (l1.length : Int) := of_decide_eq_true asmB
             obtain ⟨ad255, e255, hx255_0, hx255_1, hx255_2, hx255_3, hx255_4⟩ := at_T70 HR1.out ((rd_T64 t249 x12_2).f1) p255 q255
             have hw255_4 := hx255_4
             have hw255_3 := hx255_3
             have hw255_2 := hx255_2
             have hw255_1 := hx255_1
             have hw255_0 := hx255_0
             cases e255
             replace hx255_0 := bx HB.out hx255_0
             replace hx255_1 := bx HB.out hx255_1
             replace hx255_2 := bx HB.out hx255_2
             replace hx255_3 := bx HB.out hx255_3
             replace hx255_4 := bx HB.out hx255_4
             replace p255 := eq_true p255
             replace q255 := eq_true q255
             refine sA (n := 24) (S := fun w' => w'.cell? (ad252.add ((x12_2).toNat * 2)) = some (.int .i64 ((rd_T64 t249 x12_2).f0)) ∧ w'.cell? ⟨(ad252.add ((x12_2).toNat * 2)).block, (ad252.add ((x12_2).toNat * 2)).off + 1, none⟩ = some (.int .i64 ((rd_T64 t249 x12_2).f1)) ∧ w'.cell? (ad253.add ((((rd_T64 t249 x12_2).f0)).toNat * 5)) = some (.int .i64 ((rd_T70 l0 ((rd_T64 t249 x12_2).f0)).f0)) ∧ w'.cell? ⟨(ad253.add ((((rd_T64 t249 x12_2).f0)).toNat * 5)).block, (ad253.add ((((rd_T64 t249 x12_2).f0)).toNat * 5)).off + 1, none⟩ = some (.int .i64 ((rd_T70 l0 ((rd_T64 t249 x12_2).f0)).f1)) ∧ w'.cell? ⟨(ad253.add ((((rd_T64 t249 x12_2).f0)).toNat * 5)).block, (ad253.add ((((rd_T64 t249 x12_2).f0)).toNat * 5)).off + 2, none⟩ = some (.int .i64 ((rd_T70 l0 ((rd_T64 t249 x12_2).f0)).f2)) ∧ w'.cell? ⟨(ad253.add ((((rd_T64 t249 x12_2).f0)).toNat * 5)).block, (ad253.add ((((rd_T64 t249 x12_2).f0)).toNat * 5)).off + 3, none⟩ = some (.int .i64 ((rd_T70 l0 ((rd_T64 t249 x12_2).f0)).f3)) ∧ w'.cell? ⟨(ad253.add ((((rd_T64 t249 x12_2).f0)).toNat * 5)).block, (ad253.add ((((rd_T64 t249 x12_2).f0)).toNat * 5)).off + 4, none⟩ = some (.int .i64 ((rd_T70 l0 ((rd_T64 t249 x12_2).f0)).f4)) ∧ w'.cell? (ad252.add ((x12_2).toNat * 2)) = some (.int .i64 ((rd_T64 t249 x12_2).f0)) ∧ w'.cell? ⟨(ad252.add ((x12_2).toNat * 2)).block, (ad252.add ((x12_2).toNat * 2)).off + 1, none⟩ = some (.int .i64 ((rd_T64 t249 x12_2).f1)) ∧ w'.cell? (ad255.add ((((rd_T64 t249 x12_2).f1)).toNat * 5)) = some (.int .i64 ((rd_T70 l1 ((rd_T64 t249 x12_2).f1)).f0)) ∧ w'.cell? ⟨(ad255.add ((((rd_T64 t249 x12_2).f1)).toNat * 5)).block, (ad255.add ((((rd_T64 t249 x12_2).f1)).toNat * 5)).off + 1, none⟩ = some (.int .i64 ((rd_T70 l1 ((rd_T64 t249 x12_2).f1)).f1)) ∧ w'.cell? ⟨(ad255.add ((((rd_T64 t249 x12_2).f1)).toNat * 5)).block, (ad255.add ((((rd_T64 t249 x12_2).f1)).toNat * 5)).off + 2, none⟩ = some (.int .i64 ((rd_T70 l1 ((rd_T64 t249 x12_2).f1)).f2)) ∧ w'.cell? ⟨(ad255.add ((((rd_T64 t249 x12_2).f1)).toNat * 5)).block, (ad255.add ((((rd_T64 t249 x12_2).f1)).toNat * 5)).off + 3, none⟩ = some (.int .i64 ((rd_T70 l1 ((rd_T64 t249 x12_2).f1)).f3)) ∧ w'.cell? ⟨(ad255.add ((((rd_T64 t249 x12_2).f1)).toNat * 5)).block, (ad255.add ((((rd_T64 t249 x12_2).f1)).toNat * 5)).off + 4, none⟩ = some (.int .i64 ((rd_T70 l1 ((rd_T64 t249 x12_2).f1)).f4))) (ds := []) spec_ConflictLegs.tab8 spec_ConflictLegs.bits8 #[false, false, false, false, false, false, false, false, false, false, false, false, false, false, false, false, false, false, false, false, false, false, false, false] ⟨hx252_0, hx252_1, (bX HB hw253_0), (bX HB hw253_1), (bX HB hw253_2), (bX HB hw253_3), (bX HB hw253_4), hx254_0, hx254_1, (bX HB hw255_0), (bX HB hw255_1), (bX HB hw255_2), (bX HB hw255_3), (bX HB hw255_4)⟩ fun hHeld HT_ HW_ => ?_
             generalize wr.drew = w32 at HO_10 HO_11 HB hx252_0 hx252_1 hx253_0 hx253_1 hx253_2 hx253_3 hx253_4 hx254_0 hx254_1 hx255_0 hx255_1 hx255_2 hx255_3 hx255_4 hHeld ⊢
             refine pA 0 43 HT_ ?_
             refine pA 1 44 HT_ ?_
             refine pA 2 45 HT_ ?_
             refine pA 3 46 HT_ ?_
             refine pA 4 47 HT_ ?_
             refine pA 8 51 HT_ ?_
             refine pA 9 52 HT_ ?_
             refine pA 10 53 HT_ ?_
             refine pA 11 54 HT_ ?_
             refine pA 12 55 HT_ ?_
             refine pA 16 59 HT_ ?_
             refine pA 17 60 HT_ ?_
             refine tA 5 48 HT_ HW_ hHeld ?_
             refine pA 6 49 HT_ ?_
             refine tA 7 50 HT_ HW_ hHeld ?_
             refine tA 13 56 HT_ HW_ hHeld ?_
             refine pA 14 57 HT_ ?_
             refine tA 15 58 HT_ HW_ hHeld ?_
             refine oA 18 (some 61) HT_ fun K hK => ?_
             refine goes_ Try.func73 (by kernel_rfl) rfl #[.agg #[.int .i64 ((rd_T70 l0 ((rd_T64 t249 x12_2).f0)).f0), .int .i64 ((rd_T70 l0 ((rd_T64 t249 x12_2).f0)).f1), .int .i64 ((rd_T70 l0 ((rd_T64 t249 x12_2).f0)).f2), .int .i64 ((rd_T70 l0 ((rd_T64 t249 x12_2).f0)).f3), .int .i64 ((rd_T70 l0 ((rd_T64 t249 x12_2).f0)).f4)], .agg #[.int .i64 ((rd_T70 l1 ((rd_T64 t249 x12_2).f1)).f0), .int .i64 ((rd_T70 l1 ((rd_T64 t249 x12_2).f1)).f1), .int .i64 ((rd_T70 l1 ((rd_T64 t249 x12_2).f1)).f2), .int .i64 ((rd_T70 l1 ((rd_T64 t249 x12_2).f1)).f3), .int .i64 ((rd_T70 l1 ((rd_T64 t249 x12_2).f1)).f4)], .int .i64 a2, .int .i64 a3] (by rfl) rfl rfl argsB ?_
             with_reducible refine (spec_DoAgree.calls k2 ((rd_T70 l0 ((rd_T64 t249 x12_2).f0)).f0) ((rd_T70 l0 ((rd_T64 t249 x12_2).f0)).f1) ((rd_T70 l0 ((rd_T64 t249 x12_2).f0)).f2) ((rd_T70 l0 ((rd_T64 t249 x12_2).f0)).f3) ((rd_T70 l0 ((rd_T64 t249 x12_2).f0)).f4) ((rd_T70 l1 ((rd_T64 t249 x12_2).f1)).f0) ((rd_T70 l1 ((rd_T64 t249 x12_2).f1)).f1) ((rd_T70 l1 ((rd_T64 t249 x12_2).f1)).f2) ((rd_T70 l1 ((rd_T64 t249 x12_2).f1)).f3) ((rd_T70 l1 ((rd_T64 t249 x12_2).f1)).f4) a2 a3 true t257 _ A29.out).mono ?_
             rintro e w33 ⟨rfl, hb⟩
             have HS0_ := (hb.cell (World.block_lt_of_cell? _ _ (hHeld.1))).trans (hHeld.1)
             have HS1_ := (hb.cell (World.block_lt_of_cell? _ _ (hHeld.2.1))).trans (hHeld.2.1)
             have HS7_ := (hb.cell (World.block_lt_of_cell? _ _ (hHeld.2.2.2.2.2.2.2.1))).trans (hHeld.2.2.2.2.2.2.2.1)
             have HS8_ := (hb.cell (World.block_lt_of_cell? _ _ (hHeld.2.2.2.2.2.2.2.2.1))).trans (hHeld.2.2.2.2.2.2.2.2.1)
             refine ⟨_, rfl, ?_⟩
             replace HO_10 := uR HO_10 hb
             replace HO_11 := uR HO_11 hb
             replace HB := uB HB hb
             (try clear hb)
             (try clear hk)
             refine hK.out _ _ ⟨HS0_, HS1_, (bX HB hw253_0), (bX HB hw253_1), (bX HB hw253_2), (bX HB hw253_3), (bX HB hw253_4), HS7_, HS8_, (bX HB hw255_0), (bX HB hw255_1), (bX HB hw255_2), (bX HB hw255_3), (bX HB hw255_4)⟩ (fun hHeld => ?_)
             clear hK K
             refine nA ?_ (some 61)
             refine pA 19 42 HT_ ?_
             refine pA 20 62 HT_ ?_
             refine pA 21 63 HT_ ?_
             refine pA 22 13 HT_ ?_
             refine pA 23 14 HT_ ?_
             refine done_ (done_of HT_.out (by kernel_rfl)) ?_
             try go_wp2
             go_roundg k2
             case measure => have := HJ4.out; have := HK2.out; omega
             case rel => exact ⟨(x10_2), (wrap64 (x12_2 + 1)), rB, H', ⟨by have := HJ4.out; have := HK2.out; omega⟩, ⟨upR HO_10.out⟩, ⟨upR HO_11.out⟩, (aB HB)⟩
            ·replace H := iF (by decide) H
             by_cases c34 : x10_2.length < 8796093022208
             ·rw [if_pos c34] at H
              have LMc34 := Aside0.mk c34
              clear c34
              obtain ⟨y259, hy259⟩ : ∃ y_ : List (S64), y_ = (x10_2 ++ [(⟨(rd_T64 t249 x12_2).f0, (rd_T64 t249 x12_2).f1⟩ : S64)]) := ⟨_, rfl⟩
              replace H : (spec_ConflictLegs.l0 k2 l0 l1 a2 a3 y259 t249 (wrap64 (x12_2 + 1))) = some (r1, r2) := by first | (rw [hy259]; with_reducible exact H) | (have H2_ := (Option.bind_some _ _).symm.trans H; rw [hy259]; with_reducible exact H2_) | (have H2_ := (Option.bind_some _ _).symm.trans H; with_reducible exact H2_) | with_reducible exact H | (rw [hy259]; exact H) | exact H
              have Ny259 := Aside0.mk hy259
              clear hy259
              have H' := Aside0.mk H
              clear H
              obtain ⟨Ao35, co35, eo35⟩ := Kd.R_slice HO_11.out
              subst eo35
              try go_wp2
              replace HO_10 := Aside0.mk (Kd.R_drew HO_10.out)
              replace HO_11 := Aside0.mk (Kd.R_drew HO_11.out)
              replace HB := Aside0.mk (below_drew1 HB.out)
              have p252 : 0 ≤ (x12_2 : Int) := of_decide_eq_true asmB
              have q252 : x12_2 < (t249.length : Int) := of_decide_eq_true asmB
              obtain ⟨ad252, e252, hx252_0, hx252_1⟩ := at_T64 (Kd.R_reads' HO_11.out).2.2 x12_2 p252 q252
              cases e252
              replace p252 := eq_true p252
              replace q252 := eq_true q252
              have p253 : 0 ≤ (((rd_T64 t249 x12_2).f0) : Int) := of_decide_eq_true asmB
              have q253 : ((rd_T64 t249 x12_2).f0) < (l0.length : Int) := of_decide_eq_true asmB
              obtain ⟨ad253, e253, hx253_0, hx253_1, hx253_2, hx253_3, hx253_4⟩ := at_T70 HR0.out ((rd_T64 t249 x12_2).f0) p253 q253
              have hw253_4 := hx253_4
              have hw253_3 := hx253_3
              have hw253_2 := hx253_2
              have hw253_1 := hx253_1
              have hw253_0 := hx253_0
              cases e253
              replace hx253_0 := bx HB.out hx253_0
              replace hx253_1 := bx HB.out hx253_1
              replace hx253_2 := bx HB.out hx253_2
              replace hx253_3 := bx HB.out hx253_3
              replace hx253_4 := bx HB.out hx253_4
              replace p253 := eq_true p253
              replace q253 := eq_true q253
              have p254 : 0 ≤ (x12_2 : Int) := of_decide_eq_true asmB
              have q254 : x12_2 < (t249.length : Int) := of_decide_eq_true asmB
              obtain ⟨ad254, e254, hx254_0, hx254_1⟩ := at_T64 (Kd.R_reads' HO_11.out).2.2 x12_2 p254 q254
              obtain rfl : ad252 = ad254 := (by injection e254)
              replace p254 := eq_true p254
              replace q254 := eq_true q254
              have p255 : 0 ≤ (((rd_T64 t249 x12_2).f1) : Int) := of_decide_eq_true asmB
              have q255 : ((rd_T64 t249 x12_2).f1) < (l1.length : Int) := of_decide_eq_true asmB
              obtain ⟨ad255, e255, hx255_0, hx255_1, hx255_2, hx255_3, hx255_4⟩ := at_T70 HR1.out ((rd_T64 t249 x12_2).f1) p255 q255
              have hw255_4 := hx255_4
              have hw255_3 := hx255_3
              have hw255_2 := hx255_2
              have hw255_1 := hx255_1
              have hw255_0 := hx255_0
              cases e255
              replace hx255_0 := bx HB.out hx255_0
              replace hx255_1 := bx HB.out hx255_1
              replace hx255_2 := bx HB.out hx255_2
              replace hx255_3 := bx HB.out hx255_3
              replace hx255_4 := bx HB.out hx255_4
              replace p255 := eq_true p255
              replace q255 := eq_true q255
              refine sA (n := 24) (S := fun w' => w'.cell? (ad252.add ((x12_2).toNat * 2)) = some (.int .i64 ((rd_T64 t249 x12_2).f0)) ∧ w'.cell? ⟨(ad252.add ((x12_2).toNat * 2)).block, (ad252.add ((x12_2).toNat * 2)).off + 1, none⟩ = some (.int .i64 ((rd_T64 t249 x12_2).f1)) ∧ w'.cell? (ad253.add ((((rd_T64 t249 x12_2).f0)).toNat * 5)) = some (.int .i64 ((rd_T70 l0 ((rd_T64 t249 x12_2).f0)).f0)) ∧ w'.cell? ⟨(ad253.add ((((rd_T64 t249 x12_2).f0)).toNat * 5)).block, (ad253.add ((((rd_T64 t249 x12_2).f0)).toNat * 5)).off + 1, none⟩ = some (.int .i64 ((rd_T70 l0 ((rd_T64 t249 x12_2).f0)).f1)) ∧ w'.cell? ⟨(ad253.add ((((rd_T64 t249 x12_2).f0)).toNat * 5)).block, (ad253.add ((((rd_T64 t249 x12_2).f0)).toNat * 5)).off + 2, none⟩ = some (.int .i64 ((rd_T70 l0 ((rd_T64 t249 x12_2).f0)).f2)) ∧ w'.cell? ⟨(ad253.add ((((rd_T64 t249 x12_2).f0)).toNat * 5)).block, (ad253.add ((((rd_T64 t249 x12_2).f0)).toNat * 5)).off + 3, none⟩ = some (.int .i64 ((rd_T70 l0 ((rd_T64 t249 x12_2).f0)).f3)) ∧ w'.cell? ⟨(ad253.add ((((rd_T64 t249 x12_2).f0)).toNat * 5)).block, (ad253.add ((((rd_T64 t249 x12_2).f0)).toNat * 5)).off + 4, none⟩ = some (.int .i64 ((rd_T70 l0 ((rd_T64 t249 x12_2).f0)).f4)) ∧ w'.cell? (ad252.add ((x12_2).toNat * 2)) = some (.int .i64 ((rd_T64 t249 x12_2).f0)) ∧ w'.cell? ⟨(ad252.add ((x12_2).toNat * 2)).block, (ad252.add ((x12_2).toNat * 2)).off + 1, none⟩ = some (.int .i64 ((rd_T64 t249 x12_2).f1)) ∧ w'.cell? (ad255.add ((((rd_T64 t249 x12_2).f1)).toNat * 5)) = some (.int .i64 ((rd_T70 l1 ((rd_T64 t249 x12_2).f1)).f0)) ∧ w'.cell? ⟨(ad255.add ((((rd_T64 t249 x12_2).f1)).toNat * 5)).block, (ad255.add ((((rd_T64 t249 x12_2).f1)).toNat * 5)).off + 1, none⟩ = some (.int .i64 ((rd_T70 l1 ((rd_T64 t249 x12_2).f1)).f1)) ∧ w'.cell? ⟨(ad255.add ((((rd_T64 t249 x12_2).f1)).toNat * 5)).block, (ad255.add ((((rd_T64 t249 x12_2).f1)).toNat * 5)).off + 2, none⟩ = some (.int .i64 ((rd_T70 l1 ((rd_T64 t249 x12_2).f1)).f2)) ∧ w'.cell? ⟨(ad255.add ((((rd_T64 t249 x12_2).f1)).toNat * 5)).block, (ad255.add ((((rd_T64 t249 x12_2).f1)).toNat * 5)).off + 3, none⟩ = some (.int .i64 ((rd_T70 l1 ((rd_T64 t249 x12_2).f1)).f3)) ∧ w'.cell? ⟨(ad255.add ((((rd_T64 t249 x12_2).f1)).toNat * 5)).block, (ad255.add ((((rd_T64 t249 x12_2).f1)).toNat * 5)).off + 4, none⟩ = some (.int .i64 ((rd_T70 l1 ((rd_T64 t249 x12_2).f1)).f4))) (ds := []) spec_ConflictLegs.tab8 spec_ConflictLegs.bits8 #[false, false, false, false, false, false, false, false, false, false, false, false, false, false, false, false, false, false, false, false, false, false, false, false] ⟨hx252_0, hx252_1, (bX HB hw253_0), (bX HB hw253_1), (bX HB hw253_2), (bX HB hw253_3), (bX HB hw253_4), hx254_0, hx254_1, (bX HB hw255_0), (bX HB hw255_1), (bX HB hw255_2), (bX HB hw255_3), (bX HB hw255_4)⟩ fun hHeld HT_ HW_ => ?_
              generalize wr.drew = w36 at HO_10 HO_11 HB hx252_0 hx252_1 hx253_0 hx253_1 hx253_2 hx253_3 hx253_4 hx254_0 hx254_1 hx255_0 hx255_1 hx255_2 hx255_3 hx255_4 hHeld ⊢
              refine pA 0 43 HT_ ?_
              refine pA 1 44 HT_ ?_
              refine pA 2 45 HT_ ?_
              refine pA 3 46 HT_ ?_
              refine pA 4 47 HT_ ?_
              refine pA 8 51 HT_ ?_
              refine pA 9 52 HT_ ?_
              refine pA 10 53 HT_ ?_
              refine pA 11 54 HT_ ?_
              refine pA 12 55 HT_ ?_
              refine pA 16 59 HT_ ?_
              refine pA 17 60 HT_ ?_
              refine tA 5 48 HT_ HW_ hHeld ?_
              refine pA 6 49 HT_ ?_
              refine tA 7 50 HT_ HW_ hHeld ?_
              refine tA 13 56 HT_ HW_ hHeld ?_
              refine pA 14 57 HT_ ?_
              refine tA 15 58 HT_ HW_ hHeld ?_
              refine oA 18 (some 61) HT_ fun K hK => ?_
              refine goes_ Try.func73 (by kernel_rfl) rfl #[.agg #[.int .i64 ((rd_T70 l0 ((rd_T64 t249 x12_2).f0)).f0), .int .i64 ((rd_T70 l0 ((rd_T64 t249 x12_2).f0)).f1), .int .i64 ((rd_T70 l0 ((rd_T64 t249 x12_2).f0)).f2), .int .i64 ((rd_T70 l0 ((rd_T64 t249 x12_2).f0)).f3), .int .i64 ((rd_T70 l0 ((rd_T64 t249 x12_2).f0)).f4)], .agg #[.int .i64 ((rd_T70 l1 ((rd_T64 t249 x12_2).f1)).f0), .int .i64 ((rd_T70 l1 ((rd_T64 t249 x12_2).f1)).f1), .int .i64 ((rd_T70 l1 ((rd_T64 t249 x12_2).f1)).f2), .int .i64 ((rd_T70 l1 ((rd_T64 t249 x12_2).f1)).f3), .int .i64 ((rd_T70 l1 ((rd_T64 t249 x12_2).f1)).f4)], .int .i64 a2, .int .i64 a3] (by rfl) rfl rfl argsB ?_
              with_reducible refine (spec_DoAgree.calls k2 ((rd_T70 l0 ((rd_T64 t249 x12_2).f0)).f0) ((rd_T70 l0 ((rd_T64 t249 x12_2).f0)).f1) ((rd_T70 l0 ((rd_T64 t249 x12_2).f0)).f2) ((rd_T70 l0 ((rd_T64 t249 x12_2).f0)).f3) ((rd_T70 l0 ((rd_T64 t249 x12_2).f0)).f4) ((rd_T70 l1 ((rd_T64 t249 x12_2).f1)).f0) ((rd_T70 l1 ((rd_T64 t249 x12_2).f1)).f1) ((rd_T70 l1 ((rd_T64 t249 x12_2).f1)).f2) ((rd_T70 l1 ((rd_T64 t249 x12_2).f1)).f3) ((rd_T70 l1 ((rd_T64 t249 x12_2).f1)).f4) a2 a3 false t257 _ A29.out).mono ?_
              rintro e w37 ⟨rfl, hb⟩
              have HS0_ := (hb.cell (World.block_lt_of_cell? _ _ (hHeld.1))).trans (hHeld.1)
              have HS1_ := (hb.cell (World.block_lt_of_cell? _ _ (hHeld.2.1))).trans (hHeld.2.1)
              have HS7_ := (hb.cell (World.block_lt_of_cell? _ _ (hHeld.2.2.2.2.2.2.2.1))).trans (hHeld.2.2.2.2.2.2.2.1)
              have HS8_ := (hb.cell (World.block_lt_of_cell? _ _ (hHeld.2.2.2.2.2.2.2.2.1))).trans (hHeld.2.2.2.2.2.2.2.2.1)
              refine ⟨_, rfl, ?_⟩
              replace HO_10 := uR HO_10 hb
              replace HO_11 := uR HO_11 hb
              replace HB := uB HB hb
              (try clear hb)
              (try clear hk)
              refine hK.out _ _ ⟨HS0_, HS1_, (bX HB hw253_0), (bX HB hw253_1), (bX HB hw253_2), (bX HB hw253_3), (bX HB hw253_4), HS7_, HS8_, (bX HB hw255_0), (bX HB hw255_1), (bX HB hw255_2), (bX HB hw255_3), (bX HB hw255_4)⟩ (fun hHeld => ?_)
              clear hK K
              refine nA ?_ (some 61)
              refine pA 19 42 HT_ ?_
              refine pA 20 62 HT_ ?_
              refine pA 21 63 HT_ ?_
              refine pA 22 13 HT_ ?_
              refine pA 23 14 HT_ ?_
              refine done_ (done_of HT_.out (by kernel_rfl)) ?_
              have p258 : 0 ≤ (x12_2 : Int) := of_decide_eq_true asmB
              have q258 : x12_2 < (t249.length : Int) := of_decide_eq_true asmB
              obtain ⟨ad258, e258, hx258_0, hx258_1⟩ := at_T64 (Kd.R_reads' HO_11.out).2.2 x12_2 p258 q258
              obtain rfl : ad252 = ad258 := (by injection e258)
              replace p258 := eq_true p258
              replace q258 := eq_true q258
              try go_wp2_with (first | ((with_reducible refine gate_builtin (b := .append) (xs := #[.tmp 66, .tmp 71]) rfl ?_); at_builtin; refine Kd.R_append k64 (w0 := w) w.heap.size rfl (.tmp 66) (.tmp 71) 32 64 (.agg #[(.int .i64 0), (.int .i64 0)]) 16 rfl Try.underlying32 info64 rfl (by decide) (by omega) u10 x10_2 (⟨(rd_T64 t249 x12_2).f0, (rd_T64 t249 x12_2).f1⟩ : S64) [.int .i64 ((rd_T64 t249 x12_2).f0), .int .i64 ((rd_T64 t249 x12_2).f1)] (fun k_ => some k_ ≠ (.slice (some ad252) t249.length co35 : Value).ownBlock) (fun _ => False) rfl rfl ?aP (fun _ hk => hk.elim) ?aF ?aO ?aB ?aS ?aL ?_; (case aP => exact k64_mkM _ _ _ (⟨(rd_T64 t249 x12_2).f0, (rd_T64 t249 x12_2).f1⟩ : S64)); (case aB => exact (bW HB)); (case aF => exact (fun k_ hk => Kd.fresh' (Kd.R_lt (upR HO_11.out)) k_ hk)); (case aO => exact (upR HO_10.out)); (case aS => exact (below_size (bW HB))); (case aL => have := LMc34.out; omega); intro v260 w38 ho hb hg hat; rw [← Ny259.out] at ho; have HO261 := Aside0.mk (ho); replace HO_11 := Aside0.mk (Kd.R_after (ok := (fun _ => True)) (by (with_reducible repeat (first | apply Kd.R_alloc | apply Kd.R_drewN | apply Kd.R_drew)); exact Kd.R_mono HO_11.out (fun _ hk => ⟨trivial, hk⟩)) hg hat); replace HB := Aside0.mk (hb); clear HO_10; clear ho hb hg hat))
              go_roundg k2
              case measure => have := HJ4.out; have := HK2.out; omega
              case rel => exact ⟨(y259), (wrap64 (x12_2 + 1)), rB, H', ⟨by have := HJ4.out; have := HK2.out; omega⟩, ⟨upR HO261.out⟩, ⟨by (with_reducible repeat (first | apply Kd.R_alloc | apply Kd.R_drewN | apply Kd.R_drew)); exact Kd.R_mono HO_11.out (fun _ hk => hk.2)⟩, (aB HB)⟩
             ·rw [if_neg c34] at H
              exact absurd H (by simp)
           ·rw [if_neg c28] at H
            exact absurd H (by simp)
          ·rw [if_neg c27] at H
           exact absurd H (by simp)
         ·rw [if_neg c26] at H
          exact absurd H (by simp)
        ·rw [if_neg c25] at H
         exact absurd H (by simp)
       ·rw [if_neg c24] at H
        exact absurd H (by simp)
      ·simp only [Option.some.injEq, Prod.mk.injEq] at H
       obtain ⟨rfl, rfl⟩ := H
       obtain ⟨Ao39, co39, eo39⟩ := Kd.R_slice HO_11.out
       subst eo39
       go_wp2
       go_ret2
       exact ⟨_, eB, by (with_reducible repeat (first | apply Kd.R_alloc | apply Kd.R_drewN | apply Kd.R_drew)); exact Kd.R_mono HO_10.out (fun _ hk => trivial), (bW HB)⟩

end Go.Proofs.Ytfaojmabalplfaa.QFnClubs
