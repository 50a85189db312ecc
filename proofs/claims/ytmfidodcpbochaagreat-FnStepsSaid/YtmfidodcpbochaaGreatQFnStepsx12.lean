/- Contracts of Go functions that FnSteps reaches: the call computes what the plain function says. No condition. -/
import Derived.Test.YtmfidodcpbochaaGreatQFnStepsx0
import Derived.Test.YtmfidodcpbochaaGreatQFnStepsx7
import Derived.Test.YtmfidodcpbochaaGreatQFnStepsx11
namespace Go.Proofs.YtmfidodcpbochaaGreat.QFnSteps
open Go.RowKit Go.Proofs.YtmfidodcpbochaaGreatW.PrintWords Go.Proofs.YtmfidodcpbochaaGreatW.PrintLast Go.Proofs.YtmfidodcpbochaaGreatW.PrintMore
attribute [local go_sem] max2_int min2_int max_two min_two max_three min_three max_four min_four   -- for this text's walks alone
set_option linter.unusedVariables false
set_option linter.unusedSimpArgs false

/-! ### impl_caves: function 28 -/
theorem box_put {w : World} {t : TypeId} {v : Value} : Below w.heap.size w (w.alloc (.cells #[v] t (0, 0))) ∧ World.cell? (w.alloc (.cells #[v] t (0, 0))) ⟨w.heap.size, 0, none⟩ = some v :=
 ⟨below_alloc (Below.refl _ _) _, (blk_cell (blk_new w _) 0).trans rfl⟩
mutual
def impl_caves.l0 : Nat → List (S32) → List (List Int) → Int → Option ((List (List Int)))
 | 0, _, _, _ => none
 | k + 1, x0, x3, x8 => if x8 < 8 then ((impl_legsAt.f k x0 x8).bind fun t536 => (if (t536.length : Int) = 0 then (impl_caves.j1 k x0 x3 x8 x8 true) else ((impl_xInCave.f k x3 x8).bind fun t539 => (impl_caves.j1 k x0 x3 x8 x8 t539)))) else (some x3)
def impl_caves.j1 : Nat → List (S32) → List (List Int) → Int → Int → Bool → Option ((List (List Int)))
 | 0, _, _, _, _, _ => none
 | k + 1, x0, x3, x4, x8, x20 => if x20 = true then (impl_caves.l0 k x0 x3 (wrap64 (x8 + 1))) else (if 0 ≤ (x0.length : Int) then (if ((x0.length : Int) : Int).toNat ≤ 35184372088832 then ((impl_xReach.f k x0 (List.replicate ((x0.length : Int) : Int).toNat 0) x4 0).bind fun t543 => (impl_caves.l1 k x0 x3 ([] : List Int) x8 t543 0)) else (none)) else (none))
def impl_caves.l1 : Nat → List (S32) → List (List Int) → List Int → Int → Int → Int → Option ((List (List Int)))
 | 0, _, _, _, _, _, _ => none
 | k + 1, x0, x3, x5, x8, x26, x27 => if x27 < 8 then ((impl_xPick.f x26 x27).bind fun t544 => (if t544 = true then (if x5.length < 17592186044416 then (impl_caves.l1 k x0 x3 (x5 ++ [x27]) x8 x26 (wrap64 (x27 + 1))) else (none)) else (impl_caves.l1 k x0 x3 x5 x8 x26 (wrap64 (x27 + 1))))) else (if x3.length < 5864062014805 then (impl_caves.l0 k x0 (x3 ++ [x5]) (wrap64 (x8 + 1))) else (none))
end
def impl_caves.f (k : Nat) (l0 : List (S32)) : Option ((List (List Int))) := impl_caves.l0 k l0 ([] : List (List Int)) 0
theorem impl_caves.mono_l : ∀ k, (∀ y0 y1 y2, LeO (impl_caves.l0 k y0 y1 y2) (impl_caves.l0 (k + 1) y0 y1 y2)) ∧ (∀ y0 y1 y2 y3 y4, LeO (impl_caves.j1 k y0 y1 y2 y3 y4) (impl_caves.j1 (k + 1) y0 y1 y2 y3 y4)) ∧ (∀ y0 y1 y2 y3 y4 y5, LeO (impl_caves.l1 k y0 y1 y2 y3 y4 y5) (impl_caves.l1 (k + 1) y0 y1 y2 y3 y4 y5))
 | 0 => ⟨fun _ _ _ r h => by simp [impl_caves.l0] at h, fun _ _ _ _ _ r h => by simp [impl_caves.j1] at h, fun _ _ _ _ _ _ r h => by simp [impl_caves.l1] at h⟩
 | k + 1 => by
  obtain ⟨ih0, ih1, ih2⟩ := impl_caves.mono_l k
  refine ⟨?_, ?_, ?_⟩
  ·intro y0 y1 y2
   unfold impl_caves.l0
   repeat' with_reducible first | apply ih0 | apply ih1 | apply ih2 | apply impl_legsAt.mono | apply impl_xInCave.mono | apply impl_xReach.mono | exact LeO.refl _ | exact LeO.none _ | refine LeO.ite ?_ ?_ | refine LeO.bind ?_ (fun _ => ?_)
  ·intro y0 y1 y2 y3 y4
   unfold impl_caves.j1
   repeat' with_reducible first | apply ih0 | apply ih1 | apply ih2 | apply impl_legsAt.mono | apply impl_xInCave.mono | apply impl_xReach.mono | exact LeO.refl _ | exact LeO.none _ | refine LeO.ite ?_ ?_ | refine LeO.bind ?_ (fun _ => ?_)
  ·intro y0 y1 y2 y3 y4 y5
   unfold impl_caves.l1
   repeat' with_reducible first | apply ih0 | apply ih1 | apply ih2 | apply impl_legsAt.mono | apply impl_xInCave.mono | apply impl_xReach.mono | exact LeO.refl _ | exact LeO.none _ | refine LeO.ite ?_ ?_ | refine LeO.bind ?_ (fun _ => ?_)
theorem impl_caves.mono : ∀ a0 k, LeO (impl_caves.f k a0) (impl_caves.f (k + 1) a0) := by
 intro a0 k
 obtain ⟨ih0, ih1, ih2⟩ := impl_caves.mono_l k
 unfold impl_caves.f
 repeat' with_reducible first | apply ih0 | apply ih1 | apply ih2 | apply impl_legsAt.mono | apply impl_xInCave.mono | apply impl_xReach.mono | exact LeO.refl _ | exact LeO.none _ | refine LeO.ite ?_ ?_ | refine LeO.bind ?_ (fun _ => ?_)
set_option maxHeartbeats 8000000 in
set_option maxRecDepth 100000 in
theorem impl_caves.calls (k : Nat) (A0 : Option Addr) (c0 : Nat) (l0 : List (S32)) (r : List (List Int)) (w : World) (hr0 : Kd.C k32 w A0 l0.length l0) (hc0 : l0.length ≤ c0) (h : impl_caves.f k l0 = some r) :
 Calls Tryz.prog 28 #[.slice A0 l0.length c0] w fun e w' => ∃ v0_ : Value, e = .returned (v0_) ∧ Kd.S (Kd.slice 3 (Kd.int .i64)) 25 w' w.heap.size (fun _ => True) v0_ r ∧ Below w.heap.size w w' := by
 have HR0 := Aside0.mk hr0
 have HC0 := Aside0.mk hc0
 clear hr0 hc0
 have HB := Aside0.mk (Below.refl w.heap.size w)
 have H : (impl_caves.l0 k l0 ([] : List (List Int)) 0) = some r := h
 clear h
 have H' := Aside0.mk H
 clear H
 go_enter Tryz.func28, Tryz.ntmps28
 go_wp2
 go_loopg [3, 8] k (fun kq v3 v8 w' => ∃ (x3_1 : List (List Int)) (x8_1 : Int), v8 = .int .i64 x8_1 ∧ Aside0 (impl_caves.l0 kq l0 x3_1 x8_1 = some r) ∧ Aside0 (kq ≤ k) ∧ Aside0 (Kd.S (Kd.slice 3 (Kd.int .i64)) 25 w' w.heap.size (fun _ => True) v3 x3_1) ∧ Aside0 (Below w.heap.size w w'))
 case atStart => exact ⟨(([] : List (List Int))), (0), rB, H', ⟨Nat.le_refl _⟩, ⟨by first | exact Kd.S_nil _ _ _ _ _ | exact Kd.N_nil _ _ _ _ _ | exact Kd.V_nil _ _ _ _ _ | exact Kd.Q_nil _ _ _ _ _ | exact Kd.R_nil _ _ _ _ _⟩, (aB HB)⟩
 case round =>
  clear H'
  obtain ⟨x3_1, x8_1, rfl, HA, HK1, HO_3, HB⟩ := hrel
  cases gk with
  | zero => exact absurd HA.out (by simp [impl_caves.l0])
  | succ k1 =>
   have H := HA.out
   clear HA
   simp only [impl_caves.l0] at H
   replace H := ifD H
   rcases H with ⟨H, -, c2b0⟩ | ⟨H, -, c2b0⟩
   ·have HC3 := Aside0.mk H
    clear H
    go_upto_region 5 with (fail)
    obtain ⟨gbx, hgbx⟩ : ∃ g : Nat, g = wr.heap.size := ⟨_, rfl⟩
    have hbx_ := box_put (w := wr) (t := 3) (v := .int .i64 x8_1)
    generalize (wr.alloc (.cells #[.int .i64 x8_1] 3 (0, 0))) = wbx at hbx_ ⊢
    have n0_ := Aside0.mk (Kd.S_below HO_3.out hbx_.1)
    have n1_ := Aside0.mk (below_step HB.out hbx_.1)
    have BX := Aside0.mk hbx_.2
    rw [← hgbx] at BX ⊢
    clear HO_3 HB hbx_ hgbx
    have HO_3 := n0_
    have HB := n1_
    clear n0_ n1_
    go_cut [20] (fun v20 wc => ∃ (kq : Nat) (x20_2 : Bool), v20 = .bool x20_2 ∧ Aside0 (impl_caves.j1 kq l0 x3_1 x8_1 x8_1 x20_2 = some r) ∧ Aside0 (kq ≤ k1) ∧ Aside0 (Kd.S (Kd.slice 3 (Kd.int .i64)) 25 wc w.heap.size (fun _ => True) u3 x3_1) ∧ Aside0 (Below w.heap.size w wc) ∧ Aside0 (World.cell? wc ⟨gbx, 0, none⟩ = some (.int .i64 x8_1)))
    case first =>
     have bx_ := BX.out
     have H := HC3.out
     clear HC3
     replace H := bA H
     obtain ⟨t536, A4, H⟩ := H
     replace H := ifI H
     rcases H with ⟨H, -, c5b0, c5b1⟩ | ⟨H, c5, c5b0, c5b1⟩
     ·(first | rw [c5b0] | (simp only [i64_w, i32_w]; rw [c5b0]) | skip)
      have H' := Aside0.mk H
      clear H
      go_wp2_with (first | ((with_reducible refine gC 41 ?_); refine zG (some 13) Tryz.func41 (impl_legsAt.calls k1 _ _ l0 x8_1 t536 _ (zCB HR0 HB) (HC0.out) A4.out) ?_; rintro e w6 ⟨v537, rfl, ho0, hb⟩; refine ⟨_, rfl, ?_⟩; have nB_ := Aside0.mk (cellB hb BX.out); clear BX; have BX := nB_; clear nB_; have HO538 := Aside0.mk (Kd.R_lower ho0 (below_size (bW HB))); replace HO_3 := Aside0.mk (Kd.S_elder' (upS HO_3.out) (Kd.R_base ho0) hb); replace HB := uB HB hb; (try clear hb); (try clear hk); (try clear ho0); obtain ⟨Ao7, co7, eo7⟩ := Kd.R_slice HO538.out; subst eo7))
      go_meet
      case rel => exact ⟨_, (true), rB, H', ⟨by have := HK1.out; first | omega | exact Nat.le_refl _⟩, ⟨by (with_reducible repeat (first | apply Kd.S_alloc | apply Kd.S_drewN | apply Kd.S_drew)); exact Kd.S_mono HO_3.out (fun _ hk => trivial)⟩, (aB HB), BX⟩
     ·have c5b2 : ¬ (t536 = []) := fun h_ => c5 (by rw [h_]; rfl)
      (first | rw [c5b0] | (simp only [i64_w, i32_w]; rw [c5b0]) | skip)
      replace H := bA H
      obtain ⟨t539, A8, H⟩ := H
      have H' := Aside0.mk H
      clear H
      go_wp2_with (first | ((with_reducible refine gC 41 ?_); refine zG (some 13) Tryz.func41 (impl_legsAt.calls k1 _ _ l0 x8_1 t536 _ (zCB HR0 HB) (HC0.out) A4.out) ?_; rintro e w9 ⟨v537, rfl, ho0, hb⟩; refine ⟨_, rfl, ?_⟩; have nB_ := Aside0.mk (cellB hb BX.out); clear BX; have BX := nB_; clear nB_; have HO538 := Aside0.mk (Kd.R_lower ho0 (below_size (bW HB))); replace HO_3 := Aside0.mk (Kd.S_elder' (upS HO_3.out) (Kd.R_base ho0) hb); replace HB := uB HB hb; (try clear hb); (try clear hk); (try clear ho0); obtain ⟨Ao10, co10, eo10⟩ := Kd.R_slice HO538.out; subst eo10; obtain ⟨Ao11, co11, eo11⟩ := Kd.S_slice HO_3.out; subst eo11) | (go_at_call 45; (with_reducible refine (impl_xInCave.calls k1 _ _ x3_1 x8_1 t539 _ ?side1 ?side2 A8.out).mono ?_); (case side1 => repeat (first | exact (Kd.S_reads' HO_3.out).2.2 | (with_reducible refine Kd.C_alloc ?_ _) | (with_reducible refine Kd.C_drewN ?_ _) | (with_reducible refine Kd.C_drew ?_))); (case side2 => exact (Kd.S_reads' HO_3.out).2.1); rintro e w12 ⟨rfl, hb⟩; have nB_ := Aside0.mk (cellB hb BX.out); clear BX; have BX := nB_; clear nB_; replace HO_3 := Aside0.mk (Kd.S_below (upS HO_3.out) hb); replace HO538 := uR HO538 hb; replace HB := uB HB hb; (try clear hb); (try clear hk)))
      go_meet
      case rel => exact ⟨_, (t539), rB, H', ⟨by have := HK1.out; first | omega | exact Nat.le_refl _⟩, ⟨by (with_reducible repeat (first | apply Kd.S_alloc | apply Kd.S_drewN | apply Kd.S_drew)); exact Kd.S_mono HO_3.out (fun _ hk => trivial)⟩, (aB HB), BX⟩
    case rest =>
     clear HC3
     try clear c2b0
     obtain ⟨kq, x20_2, rfl, HA, HJ2, HO_3, HB, BX⟩ := hcut
     cases kq with
     | zero => exact absurd HA.out (by simp [impl_caves.j1])
     | succ kj2 =>
      have H := HA.out
      clear HA
      simp only [impl_caves.j1] at H
      rcases Bool.eq_false_or_eq_true x20_2 with rfl | rfl
      ·replace H := iT rfl H
       have H' := Aside0.mk H
       clear H
       go_wp2
       go_roundg kj2
       case measure => have := HK1.out; have := HJ2.out; omega
       case rel => exact ⟨(x3_1), (wrap64 (x8_1 + 1)), rB, H', ⟨by have := HK1.out; have := HJ2.out; omega⟩, ⟨upS HO_3.out⟩, (aB HB)⟩
      ·replace H := iF (by decide) H
       replace H := zM H
       obtain ⟨c14, H⟩ := H
       have c14b0 := eq_true c14
       have c14b1 : decide (0 ≤ (l0.length : Int)) = true := decide_eq_true c14
       clear c14
       replace H := zM H
       obtain ⟨c15, H⟩ := H
       have c15b0 := eq_true c15
       have c15b1 : decide (((l0.length : Int) : Int).toNat ≤ 35184372088832) = true := decide_eq_true c15
       clear c15
       obtain ⟨y540, hy540⟩ : ∃ y_ : List Int, y_ = (List.replicate ((l0.length : Int) : Int).toNat 0) := ⟨_, rfl⟩
       replace H : ((impl_xReach.f kj2 l0 y540 x8_1 0).bind fun t543 => (impl_caves.l1 kj2 l0 x3_1 ([] : List Int) x8_1 t543 0)) = some r := by first | (rw [hy540]; with_reducible exact H) | (have H2_ := (Option.bind_some _ _).symm.trans H; rw [hy540]; with_reducible exact H2_) | (have H2_ := (Option.bind_some _ _).symm.trans H; with_reducible exact H2_) | with_reducible exact H | (rw [hy540]; exact H) | exact H
       have Ny540 := Aside0.mk hy540
       clear hy540
       replace H := bA H
       obtain ⟨t543, A16, H⟩ := H
       have H' := Aside0.mk H
       clear H
       try go_wp2
       replace HO_3 := Aside0.mk (Kd.S_drew HO_3.out)
       replace HB := Aside0.mk (below_drew1 HB.out)
       refine start_ (n := 7) (S := fun w' => World.cell? w' ⟨gbx, 0, none⟩ = some (.int .i64 x8_1)) (ds := []) #[false, false, false, false, false, false, false] (by kernel_rfl) rfl rfl BX.out (fun hHeld => ?_)
       generalize wc.drew = w17 at HO_3 HB hHeld ⊢
       refine pure_ (i := 0) (N := some 21) (v := ?_) (a' := ?_) #[true, false, false, false, false, false, false] rfl rfl (by kernel_rfl) (fun _ _ _ h => h) (Or.inl ⟨by rfl, ?_⟩) ?_ ?_
       rotate_left
       ·intro w'
        go_simp
        with_reducible rfl
       rotate_left
       ·simp only [Act.put, List.setIfInBounds_toArray, List.set_cons_zero, List.set_cons_succ, i64_w, i32_w]
        rfl
       refine pure_ (i := 1) (N := some 22) (v := ?_) (a' := ?_) #[true, true, false, false, false, false, false] rfl rfl (by kernel_rfl) (fun _ _ _ h => h) (Or.inl ⟨by rfl, ?_⟩) ?_ ?_
       rotate_left
       ·intro w'
        go_simp
        with_reducible rfl
       rotate_left
       ·simp only [Act.put, List.setIfInBounds_toArray, List.set_cons_zero, List.set_cons_succ, i64_w, i32_w]
        rfl
       refine pure_ (i := 2) (N := some 23) (v := ?_) (a' := ?_) #[true, true, true, false, false, false, false] rfl rfl (by kernel_rfl) (fun _ _ _ h => h) (Or.inl ⟨by rfl, ?_⟩) ?_ ?_
       rotate_left
       ·intro w'
        go_simp
        with_reducible rfl
       rotate_left
       ·simp only [Act.put, List.setIfInBounds_toArray, List.set_cons_zero, List.set_cons_succ, i64_w, i32_w]
        rfl
       refine take_ (i := 4) (N := some 25) (v := ?_) (a' := ?_) #[true, true, true, false, true, false, false] rfl rfl (by kernel_rfl) (fun _ _ _ h => h) (Or.inl ⟨by rfl, ?_⟩) hHeld ?_ ?_
       rotate_left
       ·intro w' hs_
        go_simp
        try with_reducible rfl
       rotate_left
       ·simp only [Act.put, List.setIfInBounds_toArray, List.set_cons_zero, List.set_cons_succ, i64_w, i32_w]
        rfl
       refine pure_ (i := 6) (N := some 27) (v := ?_) (a' := ?_) #[true, true, true, false, true, false, true] rfl rfl (by kernel_rfl) (fun _ _ _ h => h) (Or.inl ⟨by rfl, ?_⟩) ?_ ?_
       rotate_left
       ·intro w'
        go_simp
        with_reducible rfl
       rotate_left
       ·simp only [Act.put, List.setIfInBounds_toArray, List.set_cons_zero, List.set_cons_succ, i64_w, i32_w]
        rfl
       refine one_ (i := 3) (N := some 24) #[true, true, true, true, true, false, true] rfl rfl (by kernel_rfl) (by decide) (fun K hK => ?_)
       refine Kd.R_make_step (Kd.int .i64) _ 3 (by rfl) (N := 24) rfl 25 _ _ rfl (l0.length : Int) rfl rfl Tryz.underlying25 (.int .i64 0) 8 info3 rfl (by decide) (by omega) 0 (ok := fun _ => True) (okp := fun _ => True) rfl (fun _ hk => hk) trivial (of_decide_eq_true asmB) (Nat.le_trans (Nat.mul_le_mul_right _ (of_decide_eq_true asmB : (l0.length : Int).toNat ≤ 35184372088832)) (by omega)) (Below.refl _ _) (Nat.le_refl _) ?_
       intro v541 w18 ho19 hb hg_ hnew_
       clear hg_ hnew_
       (first | rw [← Ny540.out] at ho19 | (simp only [Int.reduceToNat] at ho19; rw [← Ny540.out] at ho19))
       have HO542 := Aside0.mk (Kd.R_lower ho19 (below_size (bW HB)))
       replace HO_3 := Aside0.mk (Kd.S_elder' (upS HO_3.out) (Kd.R_base ho19) hb)
       replace HB := uB HB hb
       have hS_ := cellB hb hHeld
       clear hb ho19
       obtain ⟨Ao20, co20, eo20⟩ := Kd.R_slice HO542.out
       (first | subst eo20 | (injection eo20 with f1_ f2_ f3_; have f4_ := f1_.symm; have f5_ := f3_.symm; clear f1_ f2_ f3_; subst f4_; subst f5_))
       refine hK.out _ _ hS_ (fun hHeld => ?_)
       clear hK K
       refine nA ?_ (some 24)
       refine one_ (i := 5) (N := some 26) #[true, true, true, true, true, true, true] rfl rfl (by kernel_rfl) (by decide) (fun K hK => ?_)
       refine rA Tryz.func48 (impl_xReach.calls kj2 _ _ l0 _ _ y540 x8_1 0 t543 _ ?side1 ?side2 ?side3 ?side4 A16.out) ?_
       (case side1 => exact zCB HR0 HB)
       (case side2 => exact HC0.out)
       (case side3 => exact zCR HO542)
       (case side4 => exact (Kd.R_reads' HO542.out).2.1)
       intro w21 hb
       replace HO_3 := Aside0.mk (Kd.S_below (upS HO_3.out) hb)
       replace HO542 := uR HO542 hb
       replace HB := uB HB hb
       have hS_ := cellB hb hHeld
       (try clear hb)
       (try clear hk)
       refine hK.out _ _ hS_ (fun hHeld => ?_)
       clear hK K
       refine nA ?_ (some 26)
       refine done_ (by kernel_rfl) ?_
       try go_wp2
       go_loopg [5, 27] kj2 (fun kq v5 v27 w' => ∃ (x5_3 : List Int) (x27_3 : Int), v27 = .int .i64 x27_3 ∧ Aside0 (impl_caves.l1 kq l0 x3_1 x5_3 x8_1 t543 x27_3 = some r) ∧ Aside0 (kq ≤ kj2) ∧ Aside0 (Kd.S (Kd.slice 3 (Kd.int .i64)) 25 w' w.heap.size (fun k_ => some k_ ≠ (v5 : Value).ownBlock) u3 x3_1) ∧ Aside0 (Kd.R (Kd.int .i64) 3 w' w.heap.size (fun _ => True) v5 x5_3) ∧ Aside0 (Below w.heap.size w w'))
       case atStart => exact ⟨(([] : List Int)), (0), rB, H', ⟨Nat.le_refl _⟩, ⟨by (with_reducible repeat (first | apply Kd.S_alloc | apply Kd.S_drewN | apply Kd.S_drew)); exact Kd.S_mono HO_3.out (fun _ hk => (by simp [Value.ownBlock]))⟩, ⟨by first | exact Kd.R_nil _ _ _ _ _ | exact Kd.N_nil _ _ _ _ _ | exact Kd.V_nil _ _ _ _ _ | exact Kd.Q_nil _ _ _ _ _ | exact Kd.S_nil _ _ _ _ _⟩, (aB HB)⟩
       case round =>
        clear H'
        try clear c2b0
        try clear c14
        try clear c14b0
        try clear c14b1
        try clear c15
        try clear c15b0
        try clear c15b1
        obtain ⟨x5_3, x27_3, rfl, HA, HK3, HO_3, HO_5, HB⟩ := hrel
        cases gk with
        | zero => exact absurd HA.out (by simp [impl_caves.l1])
        | succ k3 =>
         have H := HA.out
         clear HA
         simp only [impl_caves.l1] at H
         replace H := ifD H
         rcases H with ⟨H, -, c22b0⟩ | ⟨H, -, c22b0⟩
         ·replace H := bA H
          obtain ⟨t544, A23, H⟩ := H
          rcases Bool.eq_false_or_eq_true t544 with rfl | rfl
          ·replace H := iT rfl H
           replace H := zM H
           obtain ⟨c25, H⟩ := H
           have LMc25 := Aside0.mk c25
           clear c25
           obtain ⟨y545, hy545⟩ : ∃ y_ : List Int, y_ = (x5_3 ++ [x27_3]) := ⟨_, rfl⟩
           replace H : (impl_caves.l1 k3 l0 x3_1 y545 x8_1 t543 (wrap64 (x27_3 + 1))) = some r := by first | (rw [hy545]; with_reducible exact H) | (have H2_ := (Option.bind_some _ _).symm.trans H; rw [hy545]; with_reducible exact H2_) | (have H2_ := (Option.bind_some _ _).symm.trans H; with_reducible exact H2_) | with_reducible exact H | (rw [hy545]; exact H) | exact H
           have Ny545 := Aside0.mk hy545
           clear hy545
           have H' := Aside0.mk H
           clear H
           have ix_ := impl_xPick.index t543 x27_3 true A23.out
           go_wp2_with (first | ((with_reducible refine gate_builtin (b := .append) (xs := #[.tmp 32, .tmp 34]) rfl ?_); at_builtin; refine Kd.R_append (Kd.int .i64) (w0 := w) w.heap.size rfl (.tmp 32) (.tmp 34) 25 3 (.int .i64 0) 8 rfl Tryz.underlying25 info3 rfl (by decide) (by omega) u5 x5_3 x27_3 [.int .i64 x27_3] (fun _ => True) (fun _ => False) rfl rfl ?aP (fun _ hk => hk.elim) ?aF ?aO ?aB ?aS ?aL ?_; (case aP => exact rfl); (case aB => exact (bW HB)); (case aF => exact (fun _ _ => trivial)); (case aO => exact (upR HO_5.out)); (case aS => exact (below_size (bW HB))); (case aL => have := LMc25.out; omega); intro v546 w27 ho hb hg hat; rw [← Ny545.out] at ho; have HO547 := Aside0.mk (ho); replace HO_3 := Aside0.mk (Kd.S_after (ok := (fun _ => True)) (by (with_reducible repeat (first | apply Kd.S_alloc | apply Kd.S_drewN | apply Kd.S_drew)); exact Kd.S_mono HO_3.out (fun _ hk => ⟨trivial, hk⟩)) hg hat); replace HB := Aside0.mk (hb); clear HO_5; clear ho hb hg hat))
           go_roundg k3
           case measure => have := HK1.out; have := HJ2.out; have := HK3.out; omega
           case rel => exact ⟨(y545), (wrap64 (x27_3 + 1)), rB, H', ⟨by have := HK1.out; have := HJ2.out; have := HK3.out; omega⟩, ⟨by (with_reducible repeat (first | apply Kd.S_alloc | apply Kd.S_drewN | apply Kd.S_drew)); exact Kd.S_mono HO_3.out (fun _ hk => hk.2)⟩, ⟨upR HO547.out⟩, (aB HB)⟩
          ·replace H := iF (by decide) H
           have H' := Aside0.mk H
           clear H
           have ix_ := impl_xPick.index t543 x27_3 false A23.out
           go_wp2
           go_roundg k3
           case measure => have := HK1.out; have := HJ2.out; have := HK3.out; omega
           case rel => exact ⟨(x5_3), (wrap64 (x27_3 + 1)), rB, H', ⟨by have := HK1.out; have := HJ2.out; have := HK3.out; omega⟩, ⟨upS HO_3.out⟩, ⟨upR HO_5.out⟩, (aB HB)⟩
         ·replace H := zM H
          obtain ⟨c29, H⟩ := H
          have LMc29 := Aside0.mk c29
          clear c29
          obtain ⟨y548, hy548⟩ : ∃ y_ : List (List Int), y_ = (x3_1 ++ [x5_3]) := ⟨_, rfl⟩
          replace H : (impl_caves.l0 k3 l0 y548 (wrap64 (x8_1 + 1))) = some r := by first | (rw [hy548]; with_reducible exact H) | (have H2_ := (Option.bind_some _ _).symm.trans H; rw [hy548]; with_reducible exact H2_) | (have H2_ := (Option.bind_some _ _).symm.trans H; with_reducible exact H2_) | with_reducible exact H | (rw [hy548]; exact H) | exact H
          have Ny548 := Aside0.mk hy548
          clear hy548
          have H' := Aside0.mk H
          clear H
          obtain ⟨Ao31, co31, eo31⟩ := Kd.R_slice HO_5.out
          subst eo31
          go_wp2_with (first | ((with_reducible refine gate_builtin (b := .append) (xs := #[.tmp 37, .tmp 39]) rfl ?_); at_builtin; refine Kd.S_append (Kd.slice 3 (Kd.int .i64)) (w0 := w) w.heap.size rfl (.tmp 37) (.tmp 39) 39 25 (.slice none 0 0) 24 rfl Tryz.underlying39 info25 rfl (by decide) (by omega) u3 x3_1 x5_3 [.slice Ao31 x5_3.length co31] (fun _ => True) (fun k_ => some k_ = (.slice Ao31 x5_3.length co31 : Value).ownBlock) rfl rfl ?aP (fun k_ hk_ => ((Kd.R_mono (ok' := fun k_ => ((fun _ => True)) k_ ∧ some k_ ≠ (u3 : Value).ownBlock) (Kd.R_apart' (HO_5.out) (Kd.S_typed HO_3.out) (by decide)) (fun k_ hk => ⟨trivial, hk.2⟩))).1 k_ hk_.symm) ?aF ?aO ?aB ?aS ?aL ?_; (case aP => exact Kd.M_row (Kd.R_mono (Kd.R_tight rfl (Kd.R_mono (ok' := fun k_ => ((fun _ => True)) k_ ∧ some k_ ≠ (u3 : Value).ownBlock) (Kd.R_apart' (HO_5.out) (Kd.S_typed HO_3.out) (by decide)) (fun k_ hk => ⟨trivial, hk.2⟩))) (fun _ h_ => h_))); (case aB => exact (bW HB)); (case aF => exact (fun _ _ => trivial)); (case aO => exact (by (with_reducible repeat (first | apply Kd.S_alloc | apply Kd.S_drewN | apply Kd.S_drew)); exact Kd.S_mono HO_3.out (fun k_ hk => ⟨trivial, fun e_ => hk e_⟩))); (case aS => exact (below_size (bW HB))); (case aL => have := LMc29.out; omega); intro v549 w30 ho hb hg hat; rw [← Ny548.out] at ho; have HO550 := Aside0.mk (ho); replace HB := Aside0.mk (hb); clear HO_3 HO_5; clear ho hb hg hat))
          go_roundg k3
          case measure => have := HK1.out; have := HJ2.out; have := HK3.out; omega
          case rel => exact ⟨(y548), (wrap64 (x8_1 + 1)), rB, H', ⟨by have := HK1.out; have := HJ2.out; have := HK3.out; omega⟩, ⟨upS HO550.out⟩, (aB HB)⟩
   ·obtain rfl := Option.some.inj H
    go_wp2
    go_ret
    exact ⟨_, eB, upS HO_3.out, (bW HB)⟩

-- NOT PRINTED: function 69 (impl_Leg_69)

/-! ### impl_xIdxSt: function 128 -/
-- calls: none
theorem getD_drop' {α : Type} (xs : List α) (i : Nat) (d : α) (h : i < xs.length) : xs.drop i = xs.getD i d :: xs.drop (i + 1) := by
 rw [List.drop_eq_getElem_cons h]
 simp [List.getD, List.getElem?_eq_getElem h]
theorem getD_mem' {α : Type} (xs : List α) (i : Nat) (d : α) (h : i < xs.length) : xs.getD i d ∈ xs := by
 rw [List.getD_eq_getElem?_getD, List.getElem?_eq_getElem h]
 exact List.getElem_mem h
def idxP32 (p : S32 → Bool) : List (S32) → Int → Int
 | [], _ => -1
 | x :: l, i => if p x = true then i else idxP32 p l (i + 1)
set_option maxHeartbeats 4000000 in
set_option maxRecDepth 100000 in
theorem IndexFunc_atst (p : S32 → Bool) (V : Value) (A0 : Option Addr) (c0 : Nat) (l0 : List (S32)) (w : World) (hr0 : Kd.C k32 w A0 l0.length l0) (hc0 : l0.length ≤ c0)
 (hp : ∀ (x : S32) (W : World), x ∈ l0 → Below w.heap.size w W → Calls Tryz.prog 51 #[.agg #[.int .i64 x.f0, .int .i64 x.f1, .int .i64 x.f2, .int .i64 x.f3, .int .i64 x.f4], V] W fun e W' => e = .returned (.bool (p x)) ∧ Below W.heap.size W W') :
 Calls Tryz.prog 69 #[.slice A0 l0.length c0, .func (.func 51) #[] #[V]] w fun e w' => e = .returned (.int .i64 (idxP32 p l0 0)) ∧ Below w.heap.size w w' := by
 have hu := Tryz.underlying32
 have hm := hr0.2.1
 go_enter Tryz.func69, Tryz.ntmps69
 go_wp2
 go_loopw [8] (fun v wr => ∃ i : Nat, i ≤ l0.length ∧ v = .int .i64 i ∧ idxP32 p l0 0 = idxP32 p (l0.drop i) i ∧ Below w.heap.size w wr) (fun v _ => l0.length - (intOf v).toNat)
 case atStart => exact ⟨0, by omega, rfl, by simp, Below.refl _ _⟩
 case round =>
  obtain ⟨i, hi, rfl, he, hb⟩ := hrel
  by_cases hlt : i < l0.length
  ·obtain ⟨ad, rfl, h0, h1, h2, h3, h4⟩ := at_T32 (Kd.C_below hr0 hb) (i : Int) (by omega) (by omega)
   have hx : rd_T32 l0 (i : Int) = l0.getD i z32 := by unfold rd_T32; rw [Int.toNat_natCast]
   have hmem := getD_mem' l0 i z32 hlt
   rw [hx] at h0 h1 h2 h3 h4
   rw [getD_drop' l0 i z32 hlt] at he
   generalize l0.getD i z32 = x at h0 h1 h2 h3 h4 he hx hmem
   clear hx
   rw [Int.toNat_natCast] at h0 h1 h2 h3 h4
   cases hpx : p x with
   | true =>
    have hq := hp x wr hmem hb
    rw [hpx] at hq
    have he' := Aside0.mk he
    have hb' := Aside0.mk hb
    have hpx' := Aside0.mk hpx
    clear he hb hp hpx hmem
    go_wp2_with (go_at_call 51; refine hq.mono ?_; rintro e w1 ⟨rfl, hb1⟩)
    go_ret
    refine ⟨?_, hb'.out.trans (hb1.mono hb'.out.size)⟩
    rw [he'.out, idxP32, if_pos hpx'.out]
    rfl
   | false =>
    have hq := hp x wr hmem hb
    rw [hpx] at hq
    have he' := Aside0.mk he
    have hb' := Aside0.mk hb
    have hpx' := Aside0.mk hpx
    have hp' := Aside0.mk hp
    clear he hb hp hpx hmem
    go_wp2_with (go_at_call 51; refine hq.mono ?_; rintro e w1 ⟨rfl, hb1⟩)
    go_roundw
    case rel => exact ⟨i + 1, by omega, by go_num, by rw [he'.out, idxP32, hpx'.out]; rfl, hb'.out.trans (hb1.mono hb'.out.size)⟩
    case measure => simp [intOf]; omega
  ·have hd : l0.drop i = [] := List.drop_eq_nil_of_le (by omega)
   rw [hd] at he
   have he' := Aside0.mk he
   have hb' := Aside0.mk hb
   clear he hb hp hd
   go_wp2
   go_ret
   exact ⟨by rw [he'.out, idxP32]; rfl, hb'.out⟩

theorem atstClosure (y0 y1 y2 y3 y4 q : Int) (b : Nat) (W : World) (hb : W.heap[b]? = some (.cells #[.int .i64 q] 3 (0, 0))) :
 Calls Tryz.prog 51 #[.agg #[.int .i64 y0, .int .i64 y1, .int .i64 y2, .int .i64 y3, .int .i64 y4], .pointer (some ⟨b, 0, none⟩)] W fun e W' => e = .returned (.bool (decide (y0 = q) || decide (y1 = q))) ∧ Below W.heap.size W W' := by
 have hu := Tryz.underlying32
 have g1 : W.cell? ⟨b, 0, none⟩ = some (.int .i64 q) := (blk_cell hb 0).trans rfl
 have hl := World.block_lt_of_cell? W _ g1
 clear hb
 by_cases c0 : y0 = q
 ·have c0b : (y0 == q) = true := beq_iff_eq.mpr c0
  rw [decide_eq_true c0, Bool.true_or]
  clear c0
  go_enter Tryz.func51, Tryz.ntmps51
  go_wp2
  go_ret
  exact ⟨rfl, ((Below.refl _ W).alloc (Nat.le_refl _) _)⟩
 ·have c0b : (y0 == q) = false := beq_eq_false_iff_ne.mpr c0
  rw [decide_eq_false c0, Bool.false_or]
  clear c0
  go_enter Tryz.func51, Tryz.ntmps51
  go_wp2
  go_ret
  exact ⟨by simp; rfl, ((Below.refl _ W).alloc (Nat.le_refl _) _)⟩
def impl_xIdxSt.f (l0 : List (S32)) (a1 : Int) : Option Int := some (idxP32 (fun x => decide (x.f0 = a1) || decide (x.f1 = a1)) l0 0)
theorem impl_xIdxSt.calls (A0 : Option Addr) (c0 : Nat) (l0 : List (S32)) (a1 r : Int) (w : World) (hr0 : Kd.C k32 w A0 l0.length l0) (hc0 : l0.length ≤ c0) (h : impl_xIdxSt.f l0 a1 = some r) {b : Nat} (hcell : w.heap[b]? = some (.cells #[.int .i64 a1] 3 (0, 0)) := by assumption) :
 Calls Tryz.prog 69 #[.slice A0 l0.length c0, .func (.func 51) #[] #[.pointer (some ⟨b, 0, none⟩)]] w fun e w' => e = .returned (.int .i64 r) ∧ Below w.heap.size w w' := by
 obtain rfl := Option.some.inj h
 exact IndexFunc_atst (fun x => decide (x.f0 = a1) || decide (x.f1 = a1)) (.pointer (some ⟨b, 0, none⟩)) A0 c0 l0 w hr0 hc0 (fun x W _ hB => atstClosure x.f0 x.f1 x.f2 x.f3 x.f4 a1 b W (blk_below hcell hB))

/-! ### impl_xAtSt: function 129 -/
-- calls: none
def impl_xAtSt.f (a0_0 a0_1 a0_2 a0_3 a0_4 a1 : Int) : Option Bool := some (decide (a0_0 = a1) || decide (a0_1 = a1))
theorem impl_xAtSt.calls (a0_0 a0_1 a0_2 a0_3 a0_4 a1 : Int) (r : Bool) (w : World) (h : impl_xAtSt.f a0_0 a0_1 a0_2 a0_3 a0_4 a1 = some r) {b : Nat} (hcell : w.heap[b]? = some (.cells #[.int .i64 a1] 3 (0, 0)) := by assumption) :
 Calls Tryz.prog 51 #[.agg #[.int .i64 a0_0, .int .i64 a0_1, .int .i64 a0_2, .int .i64 a0_3, .int .i64 a0_4], .pointer (some ⟨b, 0, none⟩)] w fun e w' => e = .returned (.bool r) ∧ Below w.heap.size w w' := by
 obtain rfl := Option.some.inj h
 exact atstClosure a0_0 a0_1 a0_2 a0_3 a0_4 a1 b w hcell

/-! ### impl_Leg_49: function 49 -/
theorem grown_setRow_ (w : World) (g : Nat) (cs : Array Value) : w.grownBy (w.setRow g cs) (some g) := by
 refine ⟨rfl, rfl, rfl, ?_, fun k hk hne => ?_⟩
 ·simp [World.setRow]
 ·have : g ≠ k := fun h => hne (by rw [h])
  simp [World.setRow, Array.getElem?_modify, this]
theorem setRow_at_ (w : World) (g : Nat) (cur cs : Array Value) (e : TypeId) (h : w.heap[g]? = some (.cells cur e (0, 0))) : (w.setRow g cs).heap[g]? = some (.cells cs e (0, 0)) := by simp [World.setRow, Array.getElem?_modify, h]
theorem zeros_len_ (z : Array Value) (n : Nat) : (Builtin.zeroCells z n).toList.length = n * z.size := by simp [Builtin.zeroCells]
theorem zeros_one_ (z : Array Value) (n : Nat) (hz : ∀ v ∈ z.toList, v.oneCell' = true) : ∀ v ∈ (Builtin.zeroCells z n).toList, v.oneCell' = true := by
 intro v hv
 simp only [Builtin.zeroCells, Array.toList_map, List.mem_map, Array.toList_range, List.mem_range] at hv
 obtain ⟨i, hi, rfl⟩ := hv
 have hs : 0 < z.size := by
  rcases Nat.eq_zero_or_pos z.size with h | h
  ·rw [h, Nat.mul_zero] at hi; omega
  ·exact h
 have hm : i % z.size < z.size := Nat.mod_lt _ hs
 rw [getElem!_pos z _ hm]
 exact hz _ (by simp)
/-- What a clear of a row's tail leaves: the row's head, as it was. -/
theorem clear_own {P : Program} {α : Type} {d : Kd α} {e t : TypeId} {W : World} {base : Nat} {ok : Nat → Prop} {A : Option Addr} {n c : Nat} {xs : List α} {i : TypeInfo} (z : Value) (j : Int)
 (ht : P.underlying t = some (.slice e)) (hi : P.info? e = some i) (hz0 : i.zero = some z) (hsz : i.size = d.sz) (hzs : z.cells.size = d.sz) (hz1 : ∀ v ∈ z.cells.toList, v.oneCell' = true)
 (h : d.R e W base ok (.slice A n c) xs) (h0 : 0 ≤ j) (hj : j ≤ n) :
 ∃ A' n' c' W', (∀ W, (Instr.slice t (.slice A n c) (some (.int .i64 j)) none none).run P W = .ok (.slice A' n' c') W) ∧ (Builtin.clear_ #[t] 0 #[.slice A' n' c']).run P W = .ok (.tuple #[]) W' ∧ d.R e W' base ok (.slice A j.toNat c) (xs.take j.toNat) ∧ W.grownBy W' (Value.slice A n c).ownBlock := by
 have hv : ∀ w, (zeroValue e).run P w = .ok z w := fun w => by simp [zeroValue, typeInfo, hi, hz0]
 have hn : n = xs.length := (by have := (Kd.R_reads' h).1; omega)
 have hT := Kd.R_take (m := j.toNat) h (by omega)
 have hcut := cut_from (P := P) t e .i64 ht hi d.sz hsz A n c j h0 hj
 by_cases hz : n - j.toNat = 0
 ·refine ⟨_, _, _, W, hcut, ?_, hT, World.grownBy.refl W _⟩
  rw [hz]
  split <;> cases A <;> simp [Builtin.clear_, run_underlying ht]
 ·obtain ⟨k0, inner, ho, hr⟩ := hT
  rcases ho.2 with ⟨he, h1⟩ | ⟨g, cap, cur, he, hb, hh, hnc, hcm, hcs, hc⟩
  ·injection he with e1 e2 e3
   subst e1
   obtain ⟨_, inner2, ho2, _⟩ := h
   rcases ho2.2 with ⟨he2, h2⟩ | ⟨g, cap, cur, he2, _⟩
   ·injection he2 with _ e4 _
    omega
   ·injection he2 with e5
    cases e5
  ·injection he with e1 e2 e3
   subst e1 e3
   have hcn : n ≤ c := (Kd.R_reads' h).2.1
   have hcj : ¬ c = j.toNat := by omega
   rw [if_neg hcj] at hcut
   obtain ⟨m, hm⟩ : ∃ m, n - j.toNat = m + 1 := ⟨n - j.toNat - 1, by omega⟩
   have hlz := zeros_len_ z.cells (m + 1)
   rw [hzs] at hlz
   have hfit : j.toNat * d.sz + (Builtin.zeroCells z.cells (m + 1)).toList.length ≤ cur.size := by
    rw [hlz, hcs, ← Nat.add_mul]
    exact Nat.mul_le_mul_right _ (by omega)
   have hst := run_storeCells_at P g (j.toNat * d.sz) e (Builtin.zeroCells z.cells (m + 1)).toList 0 cur W hh (by simpa using hfit) (zeros_one_ _ _ hz1)
   simp only [Nat.add_zero] at hst
   refine ⟨_, _, _, W.setRow g (cur.toList.take (j.toNat * d.sz) ++ (Builtin.zeroCells z.cells (m + 1)).toList ++ cur.toList.drop (j.toNat * d.sz + (Builtin.zeroCells z.cells (m + 1)).toList.length)).toArray, hcut, ?_, ?_, grown_setRow_ _ _ _⟩
   ·rw [hm]
    have ha : (Option.map (fun x : Addr => x.add (j.toNat * d.sz)) (some ⟨g, 0, none⟩)) = some ⟨g, j.toNat * d.sz, none⟩ := by simp [Addr.add]; exact fun h_ => h_.symm
    rw [ha]
    simp [Builtin.clear_, run_underlying ht, hv, hst]
   ·have hgr := grown_setRow_ W g (cur.toList.take (j.toNat * d.sz) ++ (Builtin.zeroCells z.cells (m + 1)).toList ++ cur.toList.drop (j.toNat * d.sz + (Builtin.zeroCells z.cells (m + 1)).toList.length)).toArray
    have hle : j.toNat * d.sz ≤ cur.toList.length := by rw [Array.length_toList]; omega
    refine ⟨k0, inner, ⟨ho.1, .inr ⟨g, c, _, congrArg (fun q => Value.slice (some ⟨g, 0, none⟩) q c) e2, hb, setRow_at_ W g cur _ e hh, hnc, hcm, ?_, ?_⟩⟩, hr.imp_ (fun _ _ hp => d.M_grown hp hgr (fun k hk he => hk.2 (by rw [he]; rfl)))⟩
    ·rw [List.size_toArray, List.length_append, List.length_append, List.length_take, List.length_drop, Array.length_toList, Nat.min_eq_left (by rw [Array.length_toList] at hle; exact hle)]
     omega
    ·rw [← e2] at hc ⊢
     rw [List.toList_toArray, List.append_assoc, List.take_append_of_le_length (by rw [List.length_take, Nat.min_eq_left hle]; exact Nat.le_refl _), List.take_take, Nat.min_self]
     exact hc
theorem keptX {w W : World} {P : Nat → Prop} {b : Nat} {o : Obj} (hk : Kept w W P) (h : w.heap[b]? = some o) (hn : ¬ P b) : W.heap[b]? = some o := (hk.2 b (blk_lt h) hn).trans h
theorem blkB {w W : World} {b : Nat} {o : Obj} (hb : Aside0 (Below w.heap.size w W)) (h : Aside0 (w.heap[b]? = some o)) : W.heap[b]? = some o := blk_below h.out hb.out
def impl_Leg_49.l0 : Nat → List (S32) → Int → Int → Int → Option ((List (S32)))
 | 0, _, _, _, _ => none
 | k + 1, x0, x1, x5, x6 => if x6 < (x0.length : Int) then (if 0 ≤ x6 then ((impl_xAtSt.f ((rd_T32 x0 x6).f0) ((rd_T32 x0 x6).f1) ((rd_T32 x0 x6).f2) ((rd_T32 x0 x6).f3) ((rd_T32 x0 x6).f4) x1).bind fun t554 => (if t554 = true then (impl_Leg_49.l0 k x0 x1 x5 (wrap64 (x6 + 1))) else (if 0 ≤ x5 then (if x5 < (x0.length : Int) then (impl_Leg_49.l0 k (x0.set (x5 : Int).toNat (⟨(rd_T32 x0 x6).f0, (rd_T32 x0 x6).f1, (rd_T32 x0 x6).f2, (rd_T32 x0 x6).f3, (rd_T32 x0 x6).f4⟩ : S32)) x1 (wrap64 (x5 + 1)) (wrap64 (x6 + 1))) else (none)) else (none)))) else (none)) else (if 0 ≤ x5 then (if x5 ≤ (x0.length : Int) then (some (x0.take (x5 : Int).toNat)) else (none)) else (none))
def impl_Leg_49.f (k : Nat) (l0 : List (S32)) (a1 : Int) : Option ((List (S32))) := (impl_xIdxSt.f l0 a1).bind fun t551 => (if t551 = (-1) then (some l0) else (impl_Leg_49.l0 k l0 a1 t551 (wrap64 (t551 + 1))))
theorem impl_Leg_49.mono_l : ∀ k, (∀ y0 y1 y2 y3, LeO (impl_Leg_49.l0 k y0 y1 y2 y3) (impl_Leg_49.l0 (k + 1) y0 y1 y2 y3))
 | 0 => fun _ _ _ _ r h => by simp [impl_Leg_49.l0] at h
 | k + 1 => by
  have ih0 := impl_Leg_49.mono_l k
  ·intro y0 y1 y2 y3
   unfold impl_Leg_49.l0
   repeat' with_reducible first | apply ih0 | exact LeO.refl _ | exact LeO.none _ | refine LeO.ite ?_ ?_ | refine LeO.bind ?_ (fun _ => ?_)
theorem impl_Leg_49.mono : ∀ a0 a1 k, LeO (impl_Leg_49.f k a0 a1) (impl_Leg_49.f (k + 1) a0 a1) := by
 intro a0 a1 k
 have ih0 := impl_Leg_49.mono_l k
 unfold impl_Leg_49.f
 repeat' with_reducible first | apply ih0 | exact LeO.refl _ | exact LeO.none _ | refine LeO.ite ?_ ?_ | refine LeO.bind ?_ (fun _ => ?_)
set_option maxHeartbeats 8000000 in
set_option maxRecDepth 100000 in
theorem impl_Leg_49.core (k : Nat) (P0_ : Nat → Prop) (u9000_ : Value) (l0 : List (S32)) (a1 : Int) (r : List (S32)) (w0 w : World) (hB : Below w0.heap.size w0 w) (ho0 : Kd.R k32 32 w w0.heap.size P0_ u9000_ l0) (h : impl_Leg_49.f k l0 a1 = some r) {b_ : Nat} (hcl_ : w.heap[b_]? = some (.cells #[.int .i64 a1] 3 (0, 0))) (hnb_ : ¬ P0_ b_) :
 Calls Tryz.prog 49 #[u9000_, .func (.func 51) #[] #[.pointer (some ⟨b_, 0, none⟩)]] w fun e w' => ∃ v0_ : Value, e = .returned (v0_) ∧ Kd.R k32 32 w' w0.heap.size (fun k_ => (P0_ k_ ∨ w.heap.size ≤ k_)) v0_ r ∧ Below w0.heap.size w0 w' ∧ Kept w w' (fun k_ => P0_ k_) := by
 have hu32 := Tryz.underlying32
 have HO0 := Aside0.mk (show Kd.R k32 32 w w0.heap.size (fun k_ => (P0_ k_ ∨ w.heap.size ≤ k_)) u9000_ l0 from Kd.R_mono ho0 (fun k_ hk => (.inl hk)))
 have HK := Aside0.mk (Kept.refl w (fun k_ => P0_ k_))
 have HW0 := Aside0.mk hB.size
 have HB := Aside0.mk hB
 clear hB
 have HX := Aside0.mk hcl_
 have HN := Aside0.mk hnb_
 clear hcl_ hnb_
 have H : ((impl_xIdxSt.f l0 a1).bind fun t551 => (if t551 = (-1) then (some l0) else (impl_Leg_49.l0 k l0 a1 t551 (wrap64 (t551 + 1))))) = some r := h
 clear h
 replace H := bA H
 obtain ⟨t551, A3, H⟩ := H
 replace H := ifI H
 rcases H with ⟨H, -, c4b0, c4b1⟩ | ⟨H, c4, c4b0, c4b1⟩
 ·obtain rfl := Option.some.inj H
  obtain ⟨Ao5, co5, eo5⟩ := Kd.R_slice HO0.out
  subst eo5
  go_enter Tryz.func49, Tryz.ntmps49
  go_wp2_with (first | ((with_reducible refine gC 69 ?_); refine lA (some 10) Tryz.func69 (impl_xIdxSt.calls _ _ l0 a1 t551 _ ?side1 ?side2 A3.out (hcell := keptX (by repeat (first | (with_reducible first | exact HK.out | apply Kept.alloc | apply Kept.drewN | apply Kept.drew) | exact HK.out)) HX.out HN.out)) ?_; (case side1 => exact zCR HO0); (case side2 => exact (Kd.R_reads' HO0.out).2.1); intro w6 hb; replace HO0 := uR HO0 hb; replace HK := Aside0.mk (Kept.below (S := (fun k_ => P0_ k_)) (by repeat (first | (with_reducible first | exact HK.out | apply Kept.alloc | apply Kept.drewN | apply Kept.drew) | exact HK.out)) hb); replace HB := uB HB hb; (try clear hb); (try clear hk)))
  go_ret
  exact ⟨_, eB, upR HO0.out, (bW HB), by repeat (first | (with_reducible first | exact HK.out | apply Kept.alloc | apply Kept.drewN | apply Kept.drew) | exact HK.out)⟩
 ·have H' := Aside0.mk H
  clear H
  obtain ⟨Ao7, co7, eo7⟩ := Kd.R_slice HO0.out
  subst eo7
  go_enter Tryz.func49, Tryz.ntmps49
  go_wp2_with (first | ((with_reducible refine gC 69 ?_); refine lA (some 10) Tryz.func69 (impl_xIdxSt.calls _ _ l0 a1 t551 _ ?side1 ?side2 A3.out (hcell := keptX (by repeat (first | (with_reducible first | exact HK.out | apply Kept.alloc | apply Kept.drewN | apply Kept.drew) | exact HK.out)) HX.out HN.out)) ?_; (case side1 => exact zCR HO0); (case side2 => exact (Kd.R_reads' HO0.out).2.1); intro w8 hb; replace HO0 := uR HO0 hb; replace HK := Aside0.mk (Kept.below (S := (fun k_ => P0_ k_)) (by repeat (first | (with_reducible first | exact HK.out | apply Kept.alloc | apply Kept.drewN | apply Kept.drew) | exact HK.out)) hb); replace HB := uB HB hb; (try clear hb); (try clear hk)))
  (try simp only [Act.put, List.setIfInBounds_toArray, List.set_cons_zero, List.set_cons_succ])
  go_loopg [5, 6] k (fun kq v5 v6 w' => ∃ (x0_1 : List (S32)) (x5_1 x6_1 : Int), v5 = .int .i64 x5_1 ∧ v6 = .int .i64 x6_1 ∧ Aside0 (impl_Leg_49.l0 kq x0_1 a1 x5_1 x6_1 = some r) ∧ Aside0 (kq ≤ k) ∧ Aside0 (Kd.R k32 32 w' w0.heap.size (fun k_ => (P0_ k_ ∨ w.heap.size ≤ k_)) (.slice Ao7 l0.length co7) x0_1) ∧ Aside0 (Kept w w' (fun k_ => P0_ k_)) ∧ Aside0 (Below w0.heap.size w0 w'))
  case atStart => exact ⟨(l0), (t551), (wrap64 (t551 + 1)), rB, rB, H', ⟨Nat.le_refl _⟩, ⟨upR HO0.out⟩, ⟨by repeat (first | (with_reducible first | exact HK.out | apply Kept.alloc | apply Kept.drewN | apply Kept.drew) | exact HK.out)⟩, (aB HB)⟩
  case round =>
   clear H'
   try clear c4
   try clear c4b0
   try clear c4b1
   obtain ⟨x0_1, x5_1, x6_1, rfl, rfl, HA, HK1, HO_0, HK, HB⟩ := hrel
   have hl0_1 := (Kd.R_reads' HO_0.out).1
   rw [hl0_1] at HO_0
   (try simp only [hl0_1])
   cases gk with
   | zero => exact absurd HA.out (by simp [impl_Leg_49.l0])
   | succ k1 =>
    have H := HA.out
    clear HA
    simp only [impl_Leg_49.l0] at H
    replace H := ifD H
    rcases H with ⟨H, -, c9b0⟩ | ⟨H, -, c9b0⟩
    ·replace H := zN H
     obtain ⟨c10b0, H⟩ := H
     replace H := bA H
     obtain ⟨t554, A11, H⟩ := H
     rcases Bool.eq_false_or_eq_true t554 with rfl | rfl
     ·replace H := iT rfl H
      have H' := Aside0.mk H
      clear H
      have p552 : 0 ≤ (x6_1 : Int) := of_decide_eq_true asmB
      have q552 : x6_1 < (x0_1.length : Int) := of_decide_eq_true asmB
      obtain ⟨ad552, e552, hx552_0, hx552_1, hx552_2, hx552_3, hx552_4⟩ := at_T32 (Kd.R_reads' HO_0.out).2.2 x6_1 p552 q552
      cases e552
      replace p552 := eq_true p552
      replace q552 := eq_true q552
      go_wp2_with (first | ((with_reducible refine gD 7 ?_); refine bxE 7 32 #[.int .i64 0, .int .i64 0, .int .i64 0, .int .i64 0, .int .i64 0] fun gb553 w13 hg hbox hb => ?_; have BK553 := Aside0.mk hbox; have GW553 := Aside0.mk ((by rw [hg]; exact (by first | exact HK.out.1 | exact (show Kept w _ (fun k_ => P0_ k_) from by repeat (first | (with_reducible first | exact HK.out | apply Kept.alloc | apply Kept.drewN | apply Kept.drew) | exact HK.out)).1) : w.heap.size ≤ gb553)); have GE553 := Aside0.mk ((by rw [hg]; exact (below_size (bW HB)) : w0.heap.size ≤ gb553)); replace HO_0 := Aside0.mk (Kd.R_below (Kd.R_elderB (upR HO_0.out) gb553 (Nat.le_of_eq hg.symm)) hb); replace HK := Aside0.mk (Kept.below (S := (fun k_ => P0_ k_)) (by repeat (first | (with_reducible first | exact HK.out | apply Kept.alloc | apply Kept.drewN | apply Kept.drew) | exact HK.out)) hb); replace HB := uB HB hb; clear hb hbox hg; have ⟨hcz14_0, hcz14_1, hcz14_2, hcz14_3, hcz14_4, hfz14_0⟩ := cz5 BK553) | (go_at_call 51; (with_reducible refine (impl_xAtSt.calls ((rd_T32 x0_1 x6_1).f0) ((rd_T32 x0_1 x6_1).f1) ((rd_T32 x0_1 x6_1).f2) ((rd_T32 x0_1 x6_1).f3) ((rd_T32 x0_1 x6_1).f4) a1 true _ A11.out (hcell := keptX (by repeat (first | (with_reducible first | exact HK.out | apply Kept.alloc | apply Kept.drewN | apply Kept.drew | refine Kept.setCell ?_ (.inr GW553.out) _) | exact HK.out)) HX.out HN.out)).mono ?_); rintro e w15 ⟨rfl, hb⟩; replace HO_0 := Aside0.mk (Kd.R_below (by (with_reducible repeat (first | apply Kd.R_alloc | apply Kd.R_drewN | apply Kd.R_drew)); exact (Kd.R_mono (zF (Kd.R_mono HO_0.out (fun k_ hk => (⟨hk, hk.2⟩ : _ ∧ k_ ≠ gb553)))) (fun _ h_ => h_.1))) hb); replace BK553 := uQ BK553 hb #[.int .i64 ((rd_T32 x0_1 x6_1).f0), .int .i64 ((rd_T32 x0_1 x6_1).f1), .int .i64 ((rd_T32 x0_1 x6_1).f2), .int .i64 ((rd_T32 x0_1 x6_1).f3), .int .i64 ((rd_T32 x0_1 x6_1).f4)]; replace HK := Aside0.mk (Kept.below (S := (fun k_ => P0_ k_)) (by repeat (first | (with_reducible first | exact HK.out | apply Kept.alloc | apply Kept.drewN | apply Kept.drew | refine Kept.setCell ?_ (.inr GW553.out) _) | exact HK.out)) hb); replace HB := uB HB hb; (try clear hb); (try clear hk)))
      (try simp only [← hl0_1])
      go_roundg k1
      case measure => have := HK1.out; omega
      case rel => exact ⟨(x0_1), (x5_1), (wrap64 (x6_1 + 1)), rB, rB, H', ⟨by have := HK1.out; omega⟩, ⟨by (try simp only [hl0_1]); (with_reducible repeat (first | apply Kd.R_alloc | apply Kd.R_drewN | apply Kd.R_drew)); exact Kd.R_mono HO_0.out (fun _ hk => hk.1)⟩, ⟨by repeat (first | (with_reducible first | exact HK.out | apply Kept.alloc | apply Kept.drewN | apply Kept.drew | refine Kept.setCell ?_ (.inr GW553.out) _) | exact HK.out)⟩, (aB HB)⟩
     ·replace H := iF (by decide) H
      replace H := zN H
      obtain ⟨c16b0, H⟩ := H
      replace H := zN H
      obtain ⟨c17b0, H⟩ := H
      obtain ⟨y555, hy555⟩ : ∃ y_ : List (S32), y_ = (x0_1.set (x5_1 : Int).toNat (⟨(rd_T32 x0_1 x6_1).f0, (rd_T32 x0_1 x6_1).f1, (rd_T32 x0_1 x6_1).f2, (rd_T32 x0_1 x6_1).f3, (rd_T32 x0_1 x6_1).f4⟩ : S32)) := ⟨_, rfl⟩
      replace H : (impl_Leg_49.l0 k1 y555 a1 (wrap64 (x5_1 + 1)) (wrap64 (x6_1 + 1))) = some r := by first | (rw [hy555]; with_reducible exact H) | (have H2_ := (Option.bind_some _ _).symm.trans H; rw [hy555]; with_reducible exact H2_) | (have H2_ := (Option.bind_some _ _).symm.trans H; with_reducible exact H2_) | with_reducible exact H | (rw [hy555]; exact H) | exact H
      have Ny555 := Aside0.mk hy555
      clear hy555
      have H' := Aside0.mk H
      clear H
      have p552 : 0 ≤ (x6_1 : Int) := of_decide_eq_true asmB
      have q552 : x6_1 < (x0_1.length : Int) := of_decide_eq_true asmB
      obtain ⟨ad552, e552, hx552_0, hx552_1, hx552_2, hx552_3, hx552_4⟩ := at_T32 (Kd.R_reads' HO_0.out).2.2 x6_1 p552 q552
      cases e552
      replace p552 := eq_true p552
      replace q552 := eq_true q552
      go_wp2_with (first | ((with_reducible refine gD 7 ?_); refine bxE 7 32 #[.int .i64 0, .int .i64 0, .int .i64 0, .int .i64 0, .int .i64 0] fun gb553 w19 hg hbox hb => ?_; have BK553 := Aside0.mk hbox; have GW553 := Aside0.mk ((by rw [hg]; exact (by first | exact HK.out.1 | exact (show Kept w _ (fun k_ => P0_ k_) from by repeat (first | (with_reducible first | exact HK.out | apply Kept.alloc | apply Kept.drewN | apply Kept.drew) | exact HK.out)).1) : w.heap.size ≤ gb553)); have GE553 := Aside0.mk ((by rw [hg]; exact (below_size (bW HB)) : w0.heap.size ≤ gb553)); replace HO_0 := Aside0.mk (Kd.R_below (Kd.R_elderB (upR HO_0.out) gb553 (Nat.le_of_eq hg.symm)) hb); replace HK := Aside0.mk (Kept.below (S := (fun k_ => P0_ k_)) (by repeat (first | (with_reducible first | exact HK.out | apply Kept.alloc | apply Kept.drewN | apply Kept.drew) | exact HK.out)) hb); replace HB := uB HB hb; clear hb hbox hg; have ⟨hcz20_0, hcz20_1, hcz20_2, hcz20_3, hcz20_4, hfz20_0⟩ := cz5 BK553) | (go_at_call 51; (with_reducible refine (impl_xAtSt.calls ((rd_T32 x0_1 x6_1).f0) ((rd_T32 x0_1 x6_1).f1) ((rd_T32 x0_1 x6_1).f2) ((rd_T32 x0_1 x6_1).f3) ((rd_T32 x0_1 x6_1).f4) a1 false _ A11.out (hcell := keptX (by repeat (first | (with_reducible first | exact HK.out | apply Kept.alloc | apply Kept.drewN | apply Kept.drew | refine Kept.setCell ?_ (.inr GW553.out) _) | exact HK.out)) HX.out HN.out)).mono ?_); rintro e w21 ⟨rfl, hb⟩; replace HO_0 := Aside0.mk (Kd.R_below (by (with_reducible repeat (first | apply Kd.R_alloc | apply Kd.R_drewN | apply Kd.R_drew)); exact (Kd.R_mono (zF (Kd.R_mono HO_0.out (fun k_ hk => (⟨hk, hk.2⟩ : _ ∧ k_ ≠ gb553)))) (fun _ h_ => h_.1))) hb); replace BK553 := uQ BK553 hb #[.int .i64 ((rd_T32 x0_1 x6_1).f0), .int .i64 ((rd_T32 x0_1 x6_1).f1), .int .i64 ((rd_T32 x0_1 x6_1).f2), .int .i64 ((rd_T32 x0_1 x6_1).f3), .int .i64 ((rd_T32 x0_1 x6_1).f4)]; replace HK := Aside0.mk (Kept.below (S := (fun k_ => P0_ k_)) (by repeat (first | (with_reducible first | exact HK.out | apply Kept.alloc | apply Kept.drewN | apply Kept.drew | refine Kept.setCell ?_ (.inr GW553.out) _) | exact HK.out)) hb); replace HB := uB HB hb; (try clear hb); (try clear hk); have ⟨hcz22_0, hcz22_1, hcz22_2, hcz22_3, hcz22_4, hfz22_0⟩ := cz5 BK553; have p18 : 0 ≤ (x5_1 : Int) := of_decide_eq_true asmB; have q18 : (x5_1 : Int) < ((x0_1.length : Int) : Int) := of_decide_eq_true asmB; obtain ⟨go18, co18, eo18, gb18, gl18, cl18, HG18⟩ := Kd.R_form HO_0.out (by omega); (first | cases eo18 | (injection eo18 with ea_ en_ ec_; (first | subst ea_ | (injection ea_ with ea_; subst ea_)); subst ec_; clear en_)); have GB18 := Aside0.mk gb18; have GG18 := Aside0.mk HG18; clear gb18 gl18 HG18; have HMgo18 := Aside0.mk (show (P0_ go18 ∨ w.heap.size ≤ go18) from (HO_0.out.1 _ rfl).1); (first | simp only [add_plain] at hx552_0 | skip); (first | simp only [add_plain] at hx552_1 | skip); (first | simp only [add_plain] at hx552_2 | skip); (first | simp only [add_plain] at hx552_3 | skip); (first | simp only [add_plain] at hx552_4 | skip); obtain ⟨ce18, hcl18, hM18, hcc18, hfr18⟩ := Kd.R_elem HO_0.out z32 (x5_1 : Int) p18 q18; obtain rfl := k32_openM hM18; have hx18_0 : w21.cell? ⟨go18, (x5_1 : Int).toNat * 5, none⟩ = some (.int .i64 ((rd_T32 x0_1 x5_1).f0)) := hcc18 0 _ rfl; have hx18_1 : w21.cell? ⟨go18, (x5_1 : Int).toNat * 5 + 1, none⟩ = some (.int .i64 ((rd_T32 x0_1 x5_1).f1)) := hcc18 1 _ rfl; have hx18_2 : w21.cell? ⟨go18, (x5_1 : Int).toNat * 5 + 2, none⟩ = some (.int .i64 ((rd_T32 x0_1 x5_1).f2)) := hcc18 2 _ rfl; have hx18_3 : w21.cell? ⟨go18, (x5_1 : Int).toNat * 5 + 3, none⟩ = some (.int .i64 ((rd_T32 x0_1 x5_1).f3)) := hcc18 3 _ rfl; have hx18_4 : w21.cell? ⟨go18, (x5_1 : Int).toNat * 5 + 4, none⟩ = some (.int .i64 ((rd_T32 x0_1 x5_1).f4)) := hcc18 4 _ rfl; have hf18_0 : w21.frozen? ⟨go18, (x5_1 : Int).toNat * 5, none⟩ = false := hfr18 0; have hf18_1 : w21.frozen? ⟨go18, (x5_1 : Int).toNat * 5 + 1, none⟩ = false := hfr18 1; have hf18_2 : w21.frozen? ⟨go18, (x5_1 : Int).toNat * 5 + 2, none⟩ = false := hfr18 2; have hf18_3 : w21.frozen? ⟨go18, (x5_1 : Int).toNat * 5 + 3, none⟩ = false := hfr18 3; have hf18_4 : w21.frozen? ⟨go18, (x5_1 : Int).toNat * 5 + 4, none⟩ = false := hfr18 4; clear hcl18 hcc18 hfr18 hM18; replace p18 := eq_true p18; replace q18 := eq_true q18; have HX23 := Aside0.mk (show Kd.R k32 32 w21 w0.heap.size (fun k_ => (P0_ k_ ∨ w.heap.size ≤ k_) ∧ k_ ≠ gb553) (.slice (some ⟨go18, 0, none⟩) x0_1.length co7) x0_1 from (upR HO_0.out)); obtain ⟨ce23, hcl23, hM23, hcc23, hfr23⟩ := Kd.R_elem HX23.out z32 (x5_1 : Int) (of_decide_eq_true asmB) (by have h_ : (x5_1 : Int) < ((x0_1.length : Int) : Int) := of_decide_eq_true asmB; first | exact h_ | (have e_ := (Kd.R_reads' HO_0.out).1; omega) | simpa using h_); obtain rfl := k32_openM hM23; have HP23 := Kd.R_seg HX23.out (x5_1 : Int) (of_decide_eq_true asmB) (by have h_ : (x5_1 : Int) < ((x0_1.length : Int) : Int) := of_decide_eq_true asmB; first | exact h_ | (have e_ := (Kd.R_reads' HO_0.out).1; omega) | simpa using h_) (seg := [.int .i64 ((rd_T32 x0_1 x6_1).f0), .int .i64 ((rd_T32 x0_1 x6_1).f1), .int .i64 ((rd_T32 x0_1 x6_1).f2), .int .i64 ((rd_T32 x0_1 x6_1).f3), .int .i64 ((rd_T32 x0_1 x6_1).f4)]) (j := 0) hcl23 hcc23 (show 5 ≤ 5 from by decide) (x' := (⟨(rd_T32 x0_1 x6_1).f0, (rd_T32 x0_1 x6_1).f1, (rd_T32 x0_1 x6_1).f2, (rd_T32 x0_1 x6_1).f3, (rd_T32 x0_1 x6_1).f4⟩ : S32)) (k32_mkM _ _ _ (⟨(rd_T32 x0_1 x6_1).f0, (rd_T32 x0_1 x6_1).f1, (rd_T32 x0_1 x6_1).f2, (rd_T32 x0_1 x6_1).f3, (rd_T32 x0_1 x6_1).f4⟩ : S32) ) (fun _ hk => hk); have hx23_0 := hcc23 0 _ rfl; (try simp only [show (k32).sz = 5 from rfl, Nat.mul_one, Nat.add_zero] at hx23_0); have hf23_0 := hfr23 0; (try simp only [show (k32).sz = 5 from rfl, Nat.mul_one, Nat.add_zero] at hf23_0); have hx23_1 := hcc23 1 _ rfl; (try simp only [show (k32).sz = 5 from rfl, Nat.mul_one, Nat.add_zero] at hx23_1); have hf23_1 := hfr23 1; (try simp only [show (k32).sz = 5 from rfl, Nat.mul_one, Nat.add_zero] at hf23_1); have hx23_2 := hcc23 2 _ rfl; (try simp only [show (k32).sz = 5 from rfl, Nat.mul_one, Nat.add_zero] at hx23_2); have hf23_2 := hfr23 2; (try simp only [show (k32).sz = 5 from rfl, Nat.mul_one, Nat.add_zero] at hf23_2); have hx23_3 := hcc23 3 _ rfl; (try simp only [show (k32).sz = 5 from rfl, Nat.mul_one, Nat.add_zero] at hx23_3); have hf23_3 := hfr23 3; (try simp only [show (k32).sz = 5 from rfl, Nat.mul_one, Nat.add_zero] at hf23_3); have hx23_4 := hcc23 4 _ rfl; (try simp only [show (k32).sz = 5 from rfl, Nat.mul_one, Nat.add_zero] at hx23_4); have hf23_4 := hfr23 4; (try simp only [show (k32).sz = 5 from rfl, Nat.mul_one, Nat.add_zero] at hf23_4); clear hcl23 hcc23 hfr23 hM23) | ((with_reducible refine gate_store (t := 32) (p := 33) rfl ?_); refine store_event (t := 32) (p := 33) (v := ?vo_w24) (w1 := (((((w21.setCell ⟨go18, (x5_1 : Int).toNat * 5, none⟩ (.int .i64 ((rd_T32 x0_1 x6_1).f0))).setCell ⟨go18, (x5_1 : Int).toNat * 5 + 1, none⟩ (.int .i64 ((rd_T32 x0_1 x6_1).f1))).setCell ⟨go18, (x5_1 : Int).toNat * 5 + 2, none⟩ (.int .i64 ((rd_T32 x0_1 x6_1).f2))).setCell ⟨go18, (x5_1 : Int).toNat * 5 + 3, none⟩ (.int .i64 ((rd_T32 x0_1 x6_1).f3))).setCell ⟨go18, (x5_1 : Int).toNat * 5 + 4, none⟩ (.int .i64 ((rd_T32 x0_1 x6_1).f4)))) ?hg ?ho ?hn ?hr ?_; (case ho => rfl); (case hg => rfl); (case hn => rfl); (case hr => first | (go_simp; done) | (go_simp; rfl)); intro w24 hw; have hg : w21.grownBy w24 (some go18) := (by rw [hw]; exact HP23.2); have hp_ : Kd.R k32 32 w24 w0.heap.size (fun k_ => (P0_ k_ ∨ w.heap.size ≤ k_) ∧ k_ ≠ gb553) (.slice (some ⟨go18, 0, none⟩) x0_1.length co7) y555 := (by rw [hw, Ny555.out]; exact HP23.1); clear HP23; replace BK553 := Aside0.mk (blk_grown (g := gb553) (o := .cells #[.int .i64 ((rd_T32 x0_1 x6_1).f0), .int .i64 ((rd_T32 x0_1 x6_1).f1), .int .i64 ((rd_T32 x0_1 x6_1).f2), .int .i64 ((rd_T32 x0_1 x6_1).f3), .int .i64 ((rd_T32 x0_1 x6_1).f4)] 32 (0, 0)) (upK BK553.out) hg (Kd.R_away HO_0.out (fun _ hk => hk.2))); replace HB := Aside0.mk ((by rw [hw]; exact below_set (below_set (below_set (below_set (below_set (HB.out) GB18.out) GB18.out) GB18.out) GB18.out) GB18.out : Below w0.heap.size w0 w24)); replace HK := Aside0.mk (Kept.of_grown (S := (fun k_ => P0_ k_)) hg (by repeat (first | (with_reducible first | exact HK.out | apply Kept.alloc | apply Kept.drewN | apply Kept.drew | refine Kept.setCell ?_ (.inr GW553.out) _) | exact HK.out)) (fun k_ e_ => (HO_0.out.1 k_ e_).1)); replace HO_0 := Aside0.mk (hp_); clear hg hw hp_))
      (try simp only [← hl0_1])
      go_roundg k1
      case measure => have := HK1.out; omega
      case rel => exact ⟨(y555), (wrap64 (x5_1 + 1)), (wrap64 (x6_1 + 1)), rB, rB, H', ⟨by have := HK1.out; omega⟩, ⟨by (try simp only [hl0_1]); (with_reducible repeat (first | apply Kd.R_alloc | apply Kd.R_drewN | apply Kd.R_drew)); exact Kd.R_mono HO_0.out (fun _ hk => hk.1)⟩, ⟨by repeat (first | (with_reducible first | exact HK.out | apply Kept.alloc | apply Kept.drewN | apply Kept.drew | refine Kept.setCell ?_ (.inr GW553.out) _) | exact HK.out)⟩, (aB HB)⟩
    ·replace H := zM H
     obtain ⟨c25, H⟩ := H
     have c25b0 := eq_true c25
     have c25b1 : decide (0 ≤ x5_1) = true := decide_eq_true c25
     clear c25
     replace H := zM H
     obtain ⟨c26, H⟩ := H
     have c26b0 := eq_true c26
     have c26b1 : decide (x5_1 ≤ (x0_1.length : Int)) = true := decide_eq_true c26
     clear c26
     obtain ⟨y556, hy556⟩ : ∃ y_ : List (S32), y_ = (x0_1.take (x5_1 : Int).toNat) := ⟨_, rfl⟩
     replace H : (some y556) = some r := by first | (rw [hy556]; with_reducible exact H) | (have H2_ := (Option.bind_some _ _).symm.trans H; rw [hy556]; with_reducible exact H2_) | (have H2_ := (Option.bind_some _ _).symm.trans H; with_reducible exact H2_) | with_reducible exact H | (rw [hy556]; exact H) | exact H
     have Ny556 := Aside0.mk hy556
     clear hy556
     obtain rfl := Option.some.inj H
     obtain ⟨i0c_, hi0c_, hzc_⟩ := Option.map_eq_some_iff.1 info32
     simp only [Prod.mk.injEq] at hzc_
     obtain ⟨Ac_, nc_, cc_, Wc_, hcutc_, hclrc_, hoc_, hgrc_⟩ := clear_own _ x5_1 Tryz.underlying24 hi0c_ hzc_.1 hzc_.2.1 rfl (by intro v_ hv_; simp [Value.cells] at hv_; subst hv_; rfl) HO_0.out (of_decide_eq_true asmB) (of_decide_eq_true asmB)
     have hbc_ := Aside0.mk (HB.out.grown hgrc_ HB.out.size (fun k_ e_ => Kd.R_base HO_0.out k_ e_))
     have hkc_ := Aside0.mk (Kept.of_grown hgrc_ HK.out (fun k_ e_ => HO_0.out.1 k_ e_))
     clear hi0c_ hzc_ hgrc_ HB HK
     have HB := hbc_
     have HK := hkc_
     clear hbc_ hkc_
     have q27 : (x5_1 : Int) ≤ ((x0_1.length : Int) : Int) := of_decide_eq_true asmB
     obtain ⟨i027, hi027, _, hsz27, _⟩ := info_parts info32
     have hcut27 := cut_to (P := Tryz.prog) 24 32 .i64 Tryz.underlying24 hi027 Ao7 x0_1.length co7 x5_1 (of_decide_eq_true asmB) q27 (Kd.R_reads' HO_0.out).2.1
     have hr27 := hoc_
     have hy27 : y556.length = (x5_1 : Int).toNat := (by rw [Ny556.out, List.length_take]; omega)
     rw [← Ny556.out] at hr27
     rw [← hy27] at hr27 hcut27
     clear hy27 hi027 hsz27 HO_0
     have HO558 := Aside0.mk hr27
     clear hr27
     replace q27 := eq_true q27
     go_wp2_with (simp only [hclrc_])
     go_ret
     exact ⟨_, eB, upR HO558.out, (bW HB), by repeat (first | (with_reducible first | exact HK.out | apply Kept.alloc | apply Kept.drewN | apply Kept.drew) | exact HK.out)⟩
theorem impl_Leg_49.calls (k : Nat) (P0_ : Nat → Prop) (u9000_ : Value) (l0 : List (S32)) (a1 : Int) (r : List (S32)) (w0 w : World) (hB : Below w0.heap.size w0 w) (ho0 : Kd.R k32 32 w w0.heap.size P0_ u9000_ l0) (h : impl_Leg_49.f k l0 a1 = some r) {b_ : Nat} (hcl_ : w.heap[b_]? = some (.cells #[.int .i64 a1] 3 (0, 0)) := by first | assumption | (apply blkB <;> assumption)) :
 Calls Tryz.prog 49 #[u9000_, .func (.func 51) #[] #[.pointer (some ⟨b_, 0, none⟩)]] w fun e w' => ∃ v0_ : Value, e = .returned (v0_) ∧ Kd.R k32 32 w' w0.heap.size (fun k_ => (P0_ k_ ∨ w.heap.size ≤ k_)) v0_ r ∧ Below w0.heap.size w0 w' ∧ Kept w w' (fun k_ => P0_ k_) := by
 have h1 := Kd.R_types ho0 hcl_ (by decide)
 refine (impl_Leg_49.core k (fun k_ => P0_ k_ ∧ k_ ≠ b_) u9000_ l0 a1 r w0 w hB h1 h hcl_ (fun h_ => h_.2 rfl)).mono ?_
 rintro e w' ⟨v0, rfl, hr, hb, hk⟩
 exact ⟨v0, rfl, Kd.R_mono hr (fun k_ hk_ => hk_.imp (fun h_ => h_.1) id), hb, ⟨hk.1, fun i hi hn => hk.2 i hi (fun h_ => hn h_.1)⟩⟩

/-! ### impl_Leg_50: function 50 -/
def impl_Leg_50.f (l0 : List (S32)) : Option (List (S32)) := if l0.length * 40 ≤ 140737488351232 then some l0 else none
theorem infoC32 : (Tryz.prog.info? 32).map (fun i => (i.zero, i.size, i.bytes)) = some (some (.agg #[(.int .i64 0), (.int .i64 0), (.int .i64 0), (.int .i64 0), (.int .i64 0)]), 5, 40) := by kernel_rfl
set_option maxHeartbeats 4000000 in
set_option maxRecDepth 100000 in
theorem impl_Leg_50.calls (A0 : Option Addr) (c0 : Nat) (l0 : List (S32)) (r : List (S32)) (w : World) (hr0 : Kd.C k32 w A0 l0.length l0) (hc0 : l0.length ≤ c0) (h : impl_Leg_50.f l0 = some r) :
 Calls Tryz.prog 50 #[.slice A0 l0.length c0] w fun e w' => ∃ v0_ : Value, e = .returned (v0_) ∧ Kd.R k32 32 w' w.heap.size (fun _ => True) v0_ r ∧ Below w.heap.size w w' := by
 have q22 : ∀ (w : World) (a : Option Addr) (n c n' c' : Nat), (binOp .eql 24 (.slice a n c) (.slice none n' c')).run Tryz.prog w = .ok (.bool a.isNone) w := fun w a n c n' c' => Go.Lib.run_eql_slice_nil w _ _ a n c n' c' Tryz.underlying24
 unfold impl_Leg_50.f at h
 split at h
 ·rename_i hb
  obtain rfl := Option.some.inj h
  cases A0 with
  | none =>
   have h0 : l0 = [] := by
    rcases Nat.eq_zero_or_pos l0.length with h0 | h0
    ·exact List.eq_nil_of_length_eq_zero h0
    ·obtain ⟨ad, he, _⟩ := hr0.2.2 h0
     cases he
   subst h0
   go_enter Tryz.func50, Tryz.ntmps50
   go_wp2
   go_ret
   exact ⟨_, rfl, Kd.R_nil _ _ _ _ _, Below.refl _ _⟩
  | some ad =>
   have HR := Aside0.mk hr0
   clear hr0
   go_enter Tryz.func50, Tryz.ntmps50
   go_wp2_with (first | ((with_reducible refine gate_dst (N := 5) rfl ?_); refine Kd.R_lit k32 _ 32 ?hg (N := 5) ?hd (xs := ([] : List (S32))) (inner := []) (ok := fun _ => True) (okp := fun _ => True) ?hr ?hp (fun _ hk => hk) trivial (Below.refl _ _) (Nat.le_refl _) (by simp) ?_; (case hd => rfl); (case hg => rfl); (case hr => first | (go_simp; done) | (go_simp; rfl)); (case hp => exact (Reps.none _ _)); intro v1 w1 ho hb1 _ _; have HO := Aside0.mk ho; have HB := Aside0.mk hb1; clear ho hb1) | ((with_reducible refine gate_builtin (b := .append) (xs := #[.tmp 5, .tmp 6]) rfl ?_); at_builtin; refine Kd.R_append_rows k32 (w0 := w) w.heap.size rfl (.tmp 5) (.tmp 6) 24 32 (.agg #[(.int .i64 0), (.int .i64 0), (.int .i64 0), (.int .i64 0), (.int .i64 0)]) 40 rfl Tryz.underlying24 infoC32 rfl (by decide) (by omega) _ ([] : List (S32)) l0 _ _ _ (fun _ => True) (fun _ => False) rfl rfl ?aO ?aR (fun _ _ h => h) (fun _ h => h.elim) ?aF ?aB ?aS ?aL ?_; (case aO => exact HO.out); (case aR => exact Kd.C_below HR.out HB.out); (case aF => exact fun _ _ => trivial); (case aB => exact HB.out); (case aS => exact below_size HB.out); (case aL => simp only [List.length_nil]; omega); intro v2 w2 ho2 hb2 _ _; have HO2 := Aside0.mk ho2; have HB2 := Aside0.mk hb2; clear ho2 hb2))
   go_ret
   refine ⟨_, rfl, ?_, HB2.out⟩
   have := HO2.out
   rwa [List.nil_append] at this
 ·cases h


/-! ### impl_together: function 52 -/
def impl_together.f (k : Nat) (l0 : List (S32)) (a1 a2 : Int) : Option (Bool) := if 0 ≤ (l0.length : Int) then (if ((l0.length : Int) : Int).toNat ≤ 35184372088832 then ((impl_xReach.f k l0 (List.replicate ((l0.length : Int) : Int).toNat 0) a1 0).bind fun t562 => ((impl_xPick.f t562 a2).bind fun t563 => (some t563))) else (none)) else (none)
theorem impl_together.mono : ∀ a0 a1 a2 k, LeO (impl_together.f k a0 a1 a2) (impl_together.f (k + 1) a0 a1 a2) := by
 intro a0 a1 a2 k
 unfold impl_together.f
 repeat' with_reducible first | apply impl_xReach.mono | exact LeO.refl _ | exact LeO.none _ | refine LeO.ite ?_ ?_ | refine LeO.bind ?_ (fun _ => ?_)
set_option maxHeartbeats 8000000 in
set_option maxRecDepth 100000 in
theorem impl_together.calls (k : Nat) (A0 : Option Addr) (c0 : Nat) (l0 : List (S32)) (a1 a2 : Int) (r : Bool) (w : World) (hr0 : Kd.C k32 w A0 l0.length l0) (hc0 : l0.length ≤ c0) (h : impl_together.f k l0 a1 a2 = some r) :
 Calls Tryz.prog 52 #[.slice A0 l0.length c0, .int .i64 a1, .int .i64 a2] w fun e w' => e = .returned (.bool r) ∧ Below w.heap.size w w' := by
 have HR0 := Aside0.mk hr0
 have HC0 := Aside0.mk hc0
 clear hr0 hc0
 have HB := Aside0.mk (Below.refl w.heap.size w)
 have H := h
 clear h
 unfold impl_together.f at H
 replace H := zM H
 obtain ⟨c4, H⟩ := H
 have c4b0 := eq_true c4
 have c4b1 : decide (0 ≤ (l0.length : Int)) = true := decide_eq_true c4
 clear c4
 replace H := zM H
 obtain ⟨c5, H⟩ := H
 have c5b0 := eq_true c5
 have c5b1 : decide (((l0.length : Int) : Int).toNat ≤ 35184372088832) = true := decide_eq_true c5
 clear c5
 obtain ⟨y559, hy559⟩ : ∃ y_ : List Int, y_ = (List.replicate ((l0.length : Int) : Int).toNat 0) := ⟨_, rfl⟩
 replace H : ((impl_xReach.f k l0 y559 a1 0).bind fun t562 => ((impl_xPick.f t562 a2).bind fun t563 => (some t563))) = some r := by first | (rw [hy559]; with_reducible exact H) | (have H2_ := (Option.bind_some _ _).symm.trans H; rw [hy559]; with_reducible exact H2_) | (have H2_ := (Option.bind_some _ _).symm.trans H; with_reducible exact H2_) | with_reducible exact H | (rw [hy559]; exact H) | exact H
 have Ny559 := Aside0.mk hy559
 clear hy559
 replace H := bA H
 obtain ⟨t562, A6, H⟩ := H
 replace H := bA H
 obtain ⟨t563, A7, H⟩ := H
 obtain rfl := Option.some.inj H
 go_enter Tryz.func52, Tryz.ntmps52
 have ix_ := impl_xPick.index t562 a2 t563 A7.out
 go_wp2_with (first | ((with_reducible refine gate_dst (N := 10) rfl ?_); refine Kd.R_make (Kd.int .i64) _ 3 rfl (N := 10) rfl 25 _ _ rfl (l0.length : Int) rfl rfl Tryz.underlying25 (.int .i64 0) 8 info3 rfl (by decide) (by omega) 0 (ok := fun _ => True) (okp := fun _ => True) rfl (fun _ hk => hk) trivial (of_decide_eq_true asmB) (Nat.le_trans (Nat.mul_le_mul_right _ (of_decide_eq_true asmB : (l0.length : Int).toNat ≤ 35184372088832)) (by omega)) (Below.refl _ _) (Nat.le_refl _) ?_; intro v560 w8 ho9 hb hg_ hnew_; clear hg_ hnew_; (first | rw [← Ny559.out] at ho9 | (simp only [Int.reduceToNat] at ho9; rw [← Ny559.out] at ho9)); have HO561 := Aside0.mk (Kd.R_lower ho9 (below_size (bW HB))); replace HB := uB HB hb; clear hb ho9; obtain ⟨Ao10, co10, eo10⟩ := Kd.R_slice HO561.out; subst eo10) | ((with_reducible refine gC 48 ?_); refine lA (some 12) Tryz.func48 (impl_xReach.calls k _ _ l0 _ _ y559 a1 0 t562 _ ?side1 ?side2 ?side3 ?side4 A6.out) ?_; (case side1 => exact zCB HR0 HB); (case side2 => exact HC0.out); (case side3 => exact zCR HO561); (case side4 => exact (Kd.R_reads' HO561.out).2.1); intro w11 hb; replace HO561 := uR HO561 hb; replace HB := uB HB hb; (try clear hb); (try clear hk)))
 go_ret
 exact ⟨eB, (bW HB)⟩

end Go.Proofs.YtmfidodcpbochaaGreat.QFnSteps
