/- Contracts of Go functions that FnSteps reaches: the call computes what the plain function says. No condition. -/
import Derived.Test.YtmfidodcpbochaaGreatQFnStepsx0
import Derived.Test.YtmfidodcpbochaaGreatQFnStepsx8
namespace Go.Proofs.YtmfidodcpbochaaGreat.QFnSteps
open Go.RowKit Go.Proofs.YtmfidodcpbochaaGreatW.PrintWords Go.Proofs.YtmfidodcpbochaaGreatW.PrintLast Go.Proofs.YtmfidodcpbochaaGreatW.PrintMore
attribute [local go_sem] max2_int min2_int max_two min_two max_three min_three max_four min_four   -- for this text's walks alone
set_option linter.unusedVariables false
set_option linter.unusedSimpArgs false

/-! ### spec_l17Steps: function 25 -/
mutual
def spec_l17Steps.l0 : Nat → List (S32) → List Int → List Int → Int → Option (List Int)
 | 0, _, _, _, _ => none
 | k + 1, x0, x1, x5, x6 => if x6 < 8 then ((spec_l1Has.f k x1 x6).bind fun t478 => (if t478 = true then (if x5.length < 17592186044416 then (spec_l17Steps.l0 k x0 x1 (x5 ++ [0]) (wrap64 (x6 + 1))) else (none)) else (if x5.length < 17592186044416 then (spec_l17Steps.l0 k x0 x1 (x5 ++ [(-1)]) (wrap64 (x6 + 1))) else (none)))) else (spec_l17Steps.l1 k x0 x5 0)
def spec_l17Steps.l1 : Nat → List (S32) → List Int → Int → Option (List Int)
 | 0, _, _, _ => none
 | k + 1, x0, x5, x7 => if x7 < 8 then (spec_l17Steps.l2 k x0 x5 x7 0) else (some x5)
def spec_l17Steps.l2 : Nat → List (S32) → List Int → Int → Int → Option (List Int)
 | 0, _, _, _, _ => none
 | k + 1, x0, x5, x7, x8 => if x8 < (x0.length : Int) then (if 0 ≤ x8 then (if 0 ≤ ((rd_T32 x0 x8).f0) then (if ((rd_T32 x0 x8).f0) < (x5.length : Int) then (if (rd x5 ((rd_T32 x0 x8).f0)) = x7 then (if 0 ≤ ((rd_T32 x0 x8).f1) then (if ((rd_T32 x0 x8).f1) < (x5.length : Int) then (spec_l17Steps.j3 k x0 x5 x7 x8 ((rd_T32 x0 x8).f0) ((rd_T32 x0 x8).f1) (decide ((rd x5 ((rd_T32 x0 x8).f1)) < 0))) else (none)) else (none)) else (spec_l17Steps.j3 k x0 x5 x7 x8 ((rd_T32 x0 x8).f0) ((rd_T32 x0 x8).f1) false)) else (none)) else (none)) else (none)) else (spec_l17Steps.l1 k x0 x5 (wrap64 (x7 + 1)))
def spec_l17Steps.j3 : Nat → List (S32) → List Int → Int → Int → Int → Int → Bool → Option (List Int)
 | 0, _, _, _, _, _, _, _ => none
 | k + 1, x0, x5, x7, x8, x9, x10, x57 => if x57 = true then (if 0 ≤ x10 then (if x10 < (x5.length : Int) then ((some (x5.set (x10 : Int).toNat (wrap64 (x7 + 1)) : List Int)).bind fun y489 => (if (rd y489 x10) = x7 then (if 0 ≤ x9 then (if x9 < (x5.length : Int) then (if (rd y489 x9) < 0 then (spec_l17Steps.l2 k x0 (y489.set (x9 : Int).toNat (wrap64 (x7 + 1))) x7 (wrap64 (x8 + 1))) else (spec_l17Steps.l2 k x0 y489 x7 (wrap64 (x8 + 1)))) else (none)) else (none)) else (spec_l17Steps.l2 k x0 y489 x7 (wrap64 (x8 + 1))))) else (none)) else (none)) else (if 0 ≤ x10 then (if x10 < (x5.length : Int) then (if (rd x5 x10) = x7 then (if 0 ≤ x9 then (if x9 < (x5.length : Int) then (if (rd x5 x9) < 0 then (spec_l17Steps.l2 k x0 (x5.set (x9 : Int).toNat (wrap64 (x7 + 1))) x7 (wrap64 (x8 + 1))) else (spec_l17Steps.l2 k x0 x5 x7 (wrap64 (x8 + 1)))) else (none)) else (none)) else (spec_l17Steps.l2 k x0 x5 x7 (wrap64 (x8 + 1)))) else (none)) else (none))
end
def spec_l17Steps.f (k : Nat) (l0 : List (S32)) (l1 : List Int) : Option (List Int) := spec_l17Steps.l0 k l0 l1 (([] : List Int)) 0
theorem spec_l17Steps.mono_l : ∀ k, (∀ y0 y1 y2 y3, LeO (spec_l17Steps.l0 k y0 y1 y2 y3) (spec_l17Steps.l0 (k + 1) y0 y1 y2 y3)) ∧ (∀ y0 y1 y2, LeO (spec_l17Steps.l1 k y0 y1 y2) (spec_l17Steps.l1 (k + 1) y0 y1 y2)) ∧ (∀ y0 y1 y2 y3, LeO (spec_l17Steps.l2 k y0 y1 y2 y3) (spec_l17Steps.l2 (k + 1) y0 y1 y2 y3)) ∧ (∀ y0 y1 y2 y3 y4 y5 y6, LeO (spec_l17Steps.j3 k y0 y1 y2 y3 y4 y5 y6) (spec_l17Steps.j3 (k + 1) y0 y1 y2 y3 y4 y5 y6))
 | 0 => ⟨fun _ _ _ _ r h => by simp [spec_l17Steps.l0] at h, fun _ _ _ r h => by simp [spec_l17Steps.l1] at h, fun _ _ _ _ r h => by simp [spec_l17Steps.l2] at h, fun _ _ _ _ _ _ _ r h => by simp [spec_l17Steps.j3] at h⟩
 | k + 1 => by
  obtain ⟨ih0, ih1, ih2, ih3⟩ := spec_l17Steps.mono_l k
  refine ⟨?_, ?_, ?_, ?_⟩
  ·intro y0 y1 y2 y3
   unfold spec_l17Steps.l0
   repeat' with_reducible first | apply ih0 | apply ih1 | apply ih2 | apply ih3 | apply spec_l1Has.mono | exact LeO.refl _ | exact LeO.none _ | refine LeO.ite ?_ ?_ | refine LeO.bind ?_ (fun _ => ?_)
  ·intro y0 y1 y2
   unfold spec_l17Steps.l1
   repeat' with_reducible first | apply ih0 | apply ih1 | apply ih2 | apply ih3 | apply spec_l1Has.mono | exact LeO.refl _ | exact LeO.none _ | refine LeO.ite ?_ ?_ | refine LeO.bind ?_ (fun _ => ?_)
  ·intro y0 y1 y2 y3
   unfold spec_l17Steps.l2
   repeat' with_reducible first | apply ih0 | apply ih1 | apply ih2 | apply ih3 | apply spec_l1Has.mono | exact LeO.refl _ | exact LeO.none _ | refine LeO.ite ?_ ?_ | refine LeO.bind ?_ (fun _ => ?_)
  ·intro y0 y1 y2 y3 y4 y5 y6
   unfold spec_l17Steps.j3
   repeat' with_reducible first | apply ih0 | apply ih1 | apply ih2 | apply ih3 | apply spec_l1Has.mono | exact LeO.refl _ | exact LeO.none _ | refine LeO.ite ?_ ?_ | refine LeO.bind ?_ (fun _ => ?_)
theorem spec_l17Steps.mono : ∀ a0 a1 k, LeO (spec_l17Steps.f k a0 a1) (spec_l17Steps.f (k + 1) a0 a1) := by
 intro a0 a1 k
 obtain ⟨ih0, ih1, ih2, ih3⟩ := spec_l17Steps.mono_l k
 unfold spec_l17Steps.f
 repeat' with_reducible first | apply ih0 | apply ih1 | apply ih2 | apply ih3 | apply spec_l1Has.mono | exact LeO.refl _ | exact LeO.none _ | refine LeO.ite ?_ ?_ | refine LeO.bind ?_ (fun _ => ?_)
set_option maxHeartbeats 8000000 in
set_option maxRecDepth 100000 in
theorem spec_l17Steps.calls (k : Nat) (A0 : Option Addr) (c0 : Nat) (l0 : List (S32)) (A1 : Option Addr) (c1 : Nat) (l1 : List Int) (r : List Int) (w : World) (hr0 : Kd.C k32 w A0 l0.length l0) (hc0 : l0.length ≤ c0) (hr1 : Kd.C (Kd.int .i64) w A1 l1.length l1) (hc1 : l1.length ≤ c1) (h : spec_l17Steps.f k l0 l1 = some r) :
 Calls Tryz.prog 25 #[.slice A0 l0.length c0, .slice A1 l1.length c1] w fun e w' => ∃ v0_ : Value, e = .returned (v0_) ∧ Kd.R (Kd.int .i64) 3 w' w.heap.size (fun _ => True) v0_ r ∧ Below w.heap.size w w' := by
 have HR0 := Aside0.mk hr0
 have HC0 := Aside0.mk hc0
 clear hr0 hc0
 have HR1 := Aside0.mk hr1
 have HC1 := Aside0.mk hc1
 clear hr1 hc1
 have HB := Aside0.mk (Below.refl w.heap.size w)
 have H : (spec_l17Steps.l0 k l0 l1 (([] : List Int)) 0) = some r := h
 clear h
 obtain ⟨y475, hy475⟩ : ∃ y_ : List Int, y_ = (([] : List Int)) := ⟨_, rfl⟩
 rw [← hy475] at H
 have Ny475 := Aside0.mk hy475
 clear hy475
 have H' := Aside0.mk H
 clear H
 go_enter Tryz.func25, Tryz.ntmps25
 go_wp2_with (first | ((with_reducible refine gate_dst (N := 11) rfl ?_); refine Kd.R_lit (Kd.int .i64) _ 3 ?hg (N := 11) ?hd (xs := ([] : List Int)) (inner := []) (ok := fun _ => True) (okp := fun _ => True) ?hr ?hp (fun _ hk => hk) trivial (Below.refl _ _) (Nat.le_refl _) (by simp) ?_; (case hd => rfl); (case hg => rfl); (case hr => first | (go_simp; done) | (go_simp; rfl)); (case hp => exact (Reps.none _ _)); intro v476 w3 ho4 hb hg_ hnew_; clear hg_ hnew_; (first | rw [← Ny475.out] at ho4 | (simp only [Int.reduceToNat] at ho4; rw [← Ny475.out] at ho4)); have HO477 := Aside0.mk (Kd.R_lower ho4 (below_size (bW HB))); replace HB := uB HB hb; clear hb ho4))
 repeat (go_quiet (first | ((with_reducible refine gate_dst (N := 11) rfl ?_); refine Kd.R_lit (Kd.int .i64) _ 3 ?hg (N := 11) ?hd (xs := ([] : List Int)) (inner := []) (ok := fun _ => True) (okp := fun _ => True) ?hr ?hp (fun _ hk => hk) trivial (Below.refl _ _) (Nat.le_refl _) (by simp) ?_; (case hd => rfl); (case hg => rfl); (case hr => first | (go_simp; done) | (go_simp; rfl)); (case hp => exact (Reps.none _ _)); intro v476 w3 ho4 hb hg_ hnew_; clear hg_ hnew_; (first | rw [← Ny475.out] at ho4 | (simp only [Int.reduceToNat] at ho4; rw [← Ny475.out] at ho4)); have HO477 := Aside0.mk (Kd.R_lower ho4 (below_size (bW HB))); replace HB := uB HB hb; clear hb ho4)); try go_wp2_with (first | ((with_reducible refine gate_dst (N := 11) rfl ?_); refine Kd.R_lit (Kd.int .i64) _ 3 ?hg (N := 11) ?hd (xs := ([] : List Int)) (inner := []) (ok := fun _ => True) (okp := fun _ => True) ?hr ?hp (fun _ hk => hk) trivial (Below.refl _ _) (Nat.le_refl _) (by simp) ?_; (case hd => rfl); (case hg => rfl); (case hr => first | (go_simp; done) | (go_simp; rfl)); (case hp => exact (Reps.none _ _)); intro v476 w3 ho4 hb hg_ hnew_; clear hg_ hnew_; (first | rw [← Ny475.out] at ho4 | (simp only [Int.reduceToNat] at ho4; rw [← Ny475.out] at ho4)); have HO477 := Aside0.mk (Kd.R_lower ho4 (below_size (bW HB))); replace HB := uB HB hb; clear hb ho4)))
 go_loopg [5, 6] k (fun kq v5 v6 w' => ∃ (x5_1 : List Int) (x6_1 : Int), v6 = .int .i64 x6_1 ∧ Aside0 (spec_l17Steps.l0 kq l0 l1 x5_1 x6_1 = some r) ∧ Aside0 (kq ≤ k) ∧ Aside0 (Kd.R (Kd.int .i64) 3 w' w.heap.size (fun _ => True) v5 x5_1) ∧ Aside0 (Below w.heap.size w w'))
 case atStart => exact ⟨(y475), (0), rB, H', ⟨Nat.le_refl _⟩, ⟨upR HO477.out⟩, (aB HB)⟩
 case round =>
  clear H'
  try clear c1
  obtain ⟨x5_1, x6_1, rfl, HA, HK1, HO_5, HB⟩ := hrel
  cases gk with
  | zero => exact absurd HA.out (by simp [spec_l17Steps.l0])
  | succ k1 =>
   have H := HA.out
   clear HA
   simp only [spec_l17Steps.l0] at H
   replace H := ifD H
   rcases H with ⟨H, -, c5b0⟩ | ⟨H, -, c5b0⟩
   ·replace H := bA H
    obtain ⟨t478, A6, H⟩ := H
    rcases Bool.eq_false_or_eq_true t478 with rfl | rfl
    ·replace H := iT rfl H
     replace H := zM H
     obtain ⟨c8, H⟩ := H
     have LMc8 := Aside0.mk c8
     clear c8
     obtain ⟨y479, hy479⟩ : ∃ y_ : List Int, y_ = (x5_1 ++ [0]) := ⟨_, rfl⟩
     rw [← hy479] at H
     have Ny479 := Aside0.mk hy479
     clear hy479
     have H' := Aside0.mk H
     clear H
     go_wp2_with (first | (go_at_call 43; (with_reducible refine (spec_l1Has.calls k1 _ _ l1 x6_1 true _ ?side1 ?side2 A6.out).mono ?_); (case side1 => exact zCB HR1 HB); (case side2 => exact HC1.out); rintro e w' ⟨rfl, ⟨nd, rfl⟩⟩; (try first | exact zQ | exact zQ2)) | ((with_reducible refine gate_builtin (b := .append) (xs := #[.tmp 19, .tmp 20]) rfl ?_); at_builtin; refine Kd.R_append (Kd.int .i64) (w0 := w) w.heap.size rfl (.tmp 19) (.tmp 20) 25 3 (.int .i64 0) 8 rfl Tryz.underlying25 info3 rfl (by decide) (by omega) u5 x5_1 0 [.int .i64 0] (fun _ => True) (fun _ => False) rfl rfl ?aP (fun _ hk => hk.elim) ?aF ?aO ?aB ?aS ?aL ?_; (case aP => exact rfl); (case aB => exact (bW HB)); (case aF => exact (fun _ _ => trivial)); (case aO => exact (upR HO_5.out)); (case aS => exact (below_size (bW HB))); (case aL => have := LMc8.out; omega); intro v480 w9 ho hb hg hat; rw [← Ny479.out] at ho; have HO481 := Aside0.mk (ho); replace HB := Aside0.mk (hb); clear HO_5; clear ho hb hg hat))
     repeat (go_quiet (first | (go_at_call 43; (with_reducible refine (spec_l1Has.calls k1 _ _ l1 x6_1 true _ ?side1 ?side2 A6.out).mono ?_); (case side1 => exact zCB HR1 HB); (case side2 => exact HC1.out); rintro e w' ⟨rfl, ⟨nd, rfl⟩⟩; (try first | exact zQ | exact zQ2)) | ((with_reducible refine gate_builtin (b := .append) (xs := #[.tmp 19, .tmp 20]) rfl ?_); at_builtin; refine Kd.R_append (Kd.int .i64) (w0 := w) w.heap.size rfl (.tmp 19) (.tmp 20) 25 3 (.int .i64 0) 8 rfl Tryz.underlying25 info3 rfl (by decide) (by omega) u5 x5_1 0 [.int .i64 0] (fun _ => True) (fun _ => False) rfl rfl ?aP (fun _ hk => hk.elim) ?aF ?aO ?aB ?aS ?aL ?_; (case aP => exact rfl); (case aB => exact (bW HB)); (case aF => exact (fun _ _ => trivial)); (case aO => exact (upR HO_5.out)); (case aS => exact (below_size (bW HB))); (case aL => have := LMc8.out; omega); intro v480 w9 ho hb hg hat; rw [← Ny479.out] at ho; have HO481 := Aside0.mk (ho); replace HB := Aside0.mk (hb); clear HO_5; clear ho hb hg hat)); try go_wp2_with (first | (go_at_call 43; (with_reducible refine (spec_l1Has.calls k1 _ _ l1 x6_1 true _ ?side1 ?side2 A6.out).mono ?_); (case side1 => exact zCB HR1 HB); (case side2 => exact HC1.out); rintro e w' ⟨rfl, ⟨nd, rfl⟩⟩; (try first | exact zQ | exact zQ2)) | ((with_reducible refine gate_builtin (b := .append) (xs := #[.tmp 19, .tmp 20]) rfl ?_); at_builtin; refine Kd.R_append (Kd.int .i64) (w0 := w) w.heap.size rfl (.tmp 19) (.tmp 20) 25 3 (.int .i64 0) 8 rfl Tryz.underlying25 info3 rfl (by decide) (by omega) u5 x5_1 0 [.int .i64 0] (fun _ => True) (fun _ => False) rfl rfl ?aP (fun _ hk => hk.elim) ?aF ?aO ?aB ?aS ?aL ?_; (case aP => exact rfl); (case aB => exact (bW HB)); (case aF => exact (fun _ _ => trivial)); (case aO => exact (upR HO_5.out)); (case aS => exact (below_size (bW HB))); (case aL => have := LMc8.out; omega); intro v480 w9 ho hb hg hat; rw [← Ny479.out] at ho; have HO481 := Aside0.mk (ho); replace HB := Aside0.mk (hb); clear HO_5; clear ho hb hg hat)))
     go_roundg k1
     case measure => have := HK1.out; omega
     case rel => exact ⟨(y479), (wrap64 (x6_1 + 1)), rB, H', ⟨by have := HK1.out; omega⟩, ⟨upR HO481.out⟩, (aB HB)⟩
    ·replace H := iF (by decide) H
     replace H := zM H
     obtain ⟨c10, H⟩ := H
     have LMc10 := Aside0.mk c10
     clear c10
     obtain ⟨y482, hy482⟩ : ∃ y_ : List Int, y_ = (x5_1 ++ [(-1)]) := ⟨_, rfl⟩
     rw [← hy482] at H
     have Ny482 := Aside0.mk hy482
     clear hy482
     have H' := Aside0.mk H
     clear H
     go_wp2_with (first | (go_at_call 43; (with_reducible refine (spec_l1Has.calls k1 _ _ l1 x6_1 false _ ?side1 ?side2 A6.out).mono ?_); (case side1 => exact zCB HR1 HB); (case side2 => exact HC1.out); rintro e w' ⟨rfl, ⟨nd, rfl⟩⟩; (try first | exact zQ | exact zQ2)) | ((with_reducible refine gate_builtin (b := .append) (xs := #[.tmp 22, .tmp 23]) rfl ?_); at_builtin; refine Kd.R_append (Kd.int .i64) (w0 := w) w.heap.size rfl (.tmp 22) (.tmp 23) 25 3 (.int .i64 0) 8 rfl Tryz.underlying25 info3 rfl (by decide) (by omega) u5 x5_1 (-1) [.int .i64 (-1)] (fun _ => True) (fun _ => False) rfl rfl ?aP (fun _ hk => hk.elim) ?aF ?aO ?aB ?aS ?aL ?_; (case aP => exact rfl); (case aB => exact (bW HB)); (case aF => exact (fun _ _ => trivial)); (case aO => exact (upR HO_5.out)); (case aS => exact (below_size (bW HB))); (case aL => have := LMc10.out; omega); intro v483 w11 ho hb hg hat; rw [← Ny482.out] at ho; have HO484 := Aside0.mk (ho); replace HB := Aside0.mk (hb); clear HO_5; clear ho hb hg hat))
     repeat (go_quiet (first | (go_at_call 43; (with_reducible refine (spec_l1Has.calls k1 _ _ l1 x6_1 false _ ?side1 ?side2 A6.out).mono ?_); (case side1 => exact zCB HR1 HB); (case side2 => exact HC1.out); rintro e w' ⟨rfl, ⟨nd, rfl⟩⟩; (try first | exact zQ | exact zQ2)) | ((with_reducible refine gate_builtin (b := .append) (xs := #[.tmp 22, .tmp 23]) rfl ?_); at_builtin; refine Kd.R_append (Kd.int .i64) (w0 := w) w.heap.size rfl (.tmp 22) (.tmp 23) 25 3 (.int .i64 0) 8 rfl Tryz.underlying25 info3 rfl (by decide) (by omega) u5 x5_1 (-1) [.int .i64 (-1)] (fun _ => True) (fun _ => False) rfl rfl ?aP (fun _ hk => hk.elim) ?aF ?aO ?aB ?aS ?aL ?_; (case aP => exact rfl); (case aB => exact (bW HB)); (case aF => exact (fun _ _ => trivial)); (case aO => exact (upR HO_5.out)); (case aS => exact (below_size (bW HB))); (case aL => have := LMc10.out; omega); intro v483 w11 ho hb hg hat; rw [← Ny482.out] at ho; have HO484 := Aside0.mk (ho); replace HB := Aside0.mk (hb); clear HO_5; clear ho hb hg hat)); try go_wp2_with (first | (go_at_call 43; (with_reducible refine (spec_l1Has.calls k1 _ _ l1 x6_1 false _ ?side1 ?side2 A6.out).mono ?_); (case side1 => exact zCB HR1 HB); (case side2 => exact HC1.out); rintro e w' ⟨rfl, ⟨nd, rfl⟩⟩; (try first | exact zQ | exact zQ2)) | ((with_reducible refine gate_builtin (b := .append) (xs := #[.tmp 22, .tmp 23]) rfl ?_); at_builtin; refine Kd.R_append (Kd.int .i64) (w0 := w) w.heap.size rfl (.tmp 22) (.tmp 23) 25 3 (.int .i64 0) 8 rfl Tryz.underlying25 info3 rfl (by decide) (by omega) u5 x5_1 (-1) [.int .i64 (-1)] (fun _ => True) (fun _ => False) rfl rfl ?aP (fun _ hk => hk.elim) ?aF ?aO ?aB ?aS ?aL ?_; (case aP => exact rfl); (case aB => exact (bW HB)); (case aF => exact (fun _ _ => trivial)); (case aO => exact (upR HO_5.out)); (case aS => exact (below_size (bW HB))); (case aL => have := LMc10.out; omega); intro v483 w11 ho hb hg hat; rw [← Ny482.out] at ho; have HO484 := Aside0.mk (ho); replace HB := Aside0.mk (hb); clear HO_5; clear ho hb hg hat)))
     go_roundg k1
     case measure => have := HK1.out; omega
     case rel => exact ⟨(y482), (wrap64 (x6_1 + 1)), rB, H', ⟨by have := HK1.out; omega⟩, ⟨upR HO484.out⟩, (aB HB)⟩
   ·have H' := Aside0.mk H
    clear H
    go_wp2
    repeat (go_quiet (fail); try go_wp2)
    go_loopg [7] k1 (fun kq v7 w' => ∃ (x5_2 : List Int) (x7_2 : Int), v7 = .int .i64 x7_2 ∧ Aside0 (spec_l17Steps.l1 kq l0 x5_2 x7_2 = some r) ∧ Aside0 (kq ≤ k1) ∧ Aside0 (Kd.R (Kd.int .i64) 3 w' w.heap.size (fun _ => True) u5 x5_2) ∧ Aside0 (Below w.heap.size w w'))
    case atStart => exact ⟨(x5_1), (0), rB, H', ⟨Nat.le_refl _⟩, ⟨upR HO_5.out⟩, (aB HB)⟩
    case round =>
     clear H'
     try clear c1
     try clear c5b0
     obtain ⟨x5_2, x7_2, rfl, HA, HK2, HO_5, HB⟩ := hrel
     cases gk with
     | zero => exact absurd HA.out (by simp [spec_l17Steps.l1])
     | succ k2 =>
      have H := HA.out
      clear HA
      simp only [spec_l17Steps.l1] at H
      replace H := ifD H
      rcases H with ⟨H, -, c12b0⟩ | ⟨H, -, c12b0⟩
      ·have H' := Aside0.mk H
       clear H
       go_wp2
       repeat (go_quiet (fail); try go_wp2)
       go_loopg [8] k2 (fun kq v8 w' => ∃ (x5_3 : List Int) (x8_3 : Int), v8 = .int .i64 x8_3 ∧ Aside0 (spec_l17Steps.l2 kq l0 x5_3 x7_2 x8_3 = some r) ∧ Aside0 (kq ≤ k2) ∧ Aside0 (Kd.R (Kd.int .i64) 3 w' w.heap.size (fun _ => True) u5 x5_3) ∧ Aside0 (Below w.heap.size w w'))
       case atStart => exact ⟨(x5_2), (0), rB, H', ⟨Nat.le_refl _⟩, ⟨upR HO_5.out⟩, (aB HB)⟩
       case round =>
        clear H'
        try clear c1
        try clear c5b0
        try clear c12b0
        obtain ⟨x5_3, x8_3, rfl, HA, HK3, HO_5, HB⟩ := hrel
        cases gk with
        | zero => exact absurd HA.out (by simp [spec_l17Steps.l2])
        | succ k3 =>
         have H := HA.out
         clear HA
         simp only [spec_l17Steps.l2] at H
         replace H := ifD H
         rcases H with ⟨H, -, c13b0⟩ | ⟨H, -, c13b0⟩
         ·replace H := zN H
          obtain ⟨c14b0, H⟩ := H
          have HC15 := Aside0.mk H
          clear H
          obtain ⟨ad485, e485, hx485_0, hx485_1, hx485_2, hx485_3, hx485_4, p485, q485⟩ := zT HR0 HB x8_3
          cases e485
          obtain ⟨ad486, e486, hx486_0, hx486_1, hx486_2, hx486_3, hx486_4, p486, q486⟩ := zT HR0 HB x8_3
          obtain rfl : ad485 = ad486 := (by injection e486)
          go_upto_region 15 with (fail)
          repeat (go_quiet (fail); go_upto_region 15 with (fail))
          go_cut [57] (fun v57 wc => ∃ (kq : Nat) (x57_14 : Bool), v57 = .bool x57_14 ∧ Aside0 (spec_l17Steps.j3 kq l0 x5_3 x7_2 x8_3 ((rd_T32 l0 x8_3).f0) ((rd_T32 l0 x8_3).f1) x57_14 = some r) ∧ Aside0 (kq ≤ k3) ∧ Aside0 (Kd.R (Kd.int .i64) 3 wc w.heap.size (fun _ => True) u5 x5_3) ∧ Aside0 (Below w.heap.size w wc))
          case first =>
           have H := HC15.out
           clear HC15
           replace H := zN H
           obtain ⟨c16b0, H⟩ := H
           (first | rw [c16b0] | (simp only [i64_w, i32_w]; rw [c16b0]) | skip)
           replace H := zN H
           obtain ⟨c17b0, H⟩ := H
           replace H := ifI H
           rcases H with ⟨H, -, c18b0, c18b1⟩ | ⟨H, c18, c18b0, c18b1⟩
           ·replace H := zN H
            obtain ⟨c19b0, H⟩ := H
            replace H := zN H
            obtain ⟨c20b0, H⟩ := H
            have H' := Aside0.mk H
            clear H
            obtain ⟨Ao21, co21, eo21⟩ := Kd.R_slice HO_5.out
            subst eo21
            obtain ⟨ad487, e487, hx487_0, p487, q487⟩ := zr HO_5 ((rd_T32 l0 x8_3).f0)
            cases e487
            obtain ⟨ad488, e488, hx488_0, p488, q488⟩ := zr HO_5 ((rd_T32 l0 x8_3).f1)
            obtain rfl : ad487 = ad488 := (by injection e488)
            go_wp2
            repeat (go_quiet (fail); try go_wp2)
            go_meet
            case rel => exact ⟨_, (decide ((rd x5_3 ((rd_T32 l0 x8_3).f1)) < 0)), rB, H', ⟨by have := HK1.out; have := HK2.out; have := HK3.out; first | omega | exact Nat.le_refl _⟩, ⟨upR HO_5.out⟩, (aB HB)⟩
           ·have H' := Aside0.mk H
            clear H
            obtain ⟨Ao22, co22, eo22⟩ := Kd.R_slice HO_5.out
            subst eo22
            obtain ⟨ad487, e487, hx487_0, p487, q487⟩ := zr HO_5 ((rd_T32 l0 x8_3).f0)
            cases e487
            go_wp2
            repeat (go_quiet (fail); try go_wp2)
            go_meet
            case rel => exact ⟨_, (false), rB, H', ⟨by have := HK1.out; have := HK2.out; have := HK3.out; first | omega | exact Nat.le_refl _⟩, ⟨upR HO_5.out⟩, (aB HB)⟩
          case rest =>
           clear HC15
           try clear c1
           try clear c5b0
           try clear c12b0
           try clear c13b0
           try clear c14
           try clear c14b0
           try clear hx485_0
           try clear hx485_1
           try clear hx485_2
           try clear hx485_3
           try clear hx485_4
           try clear hx486_0
           try clear hx486_1
           try clear hx486_2
           try clear hx486_3
           try clear hx486_4
           try clear p485
           try clear p486
           try clear q485
           try clear q486
           obtain ⟨kq, x57_14, rfl, HA, HJ14, HO_5, HB⟩ := hcut
           cases kq with
           | zero => exact absurd HA.out (by simp [spec_l17Steps.j3])
           | succ kj14 =>
            have H := HA.out
            clear HA
            simp only [spec_l17Steps.j3] at H
            rcases Bool.eq_false_or_eq_true x57_14 with rfl | rfl
            ·replace H := iT rfl H
             replace H := zN H
             obtain ⟨c24b0, H⟩ := H
             replace H := zN H
             obtain ⟨c25b0, H⟩ := H
             replace H := zS H
             obtain ⟨y489, Ny489, H⟩ := H
             replace H := ifI H
             rcases H with ⟨H, -, c27b0, c27b1⟩ | ⟨H, c27, c27b0, c27b1⟩
             ·replace H := zN H
              obtain ⟨c28b0, H⟩ := H
              replace H := zN H
              obtain ⟨c29b0, H⟩ := H
              replace H := ifD H
              rcases H with ⟨H, -, c30b0⟩ | ⟨H, -, c30b0⟩
              ·obtain ⟨y492, hy492⟩ : ∃ y_ : List Int, y_ = (y489.set (((rd_T32 l0 x8_3).f0) : Int).toNat (wrap64 (x7_2 + 1))) := ⟨_, rfl⟩
               rw [← hy492] at H
               have Ny492 := Aside0.mk hy492
               clear hy492
               have H' := Aside0.mk H
               clear H
               have p26 : 0 ≤ (((rd_T32 l0 x8_3).f1) : Int) := of_decide_eq_true asmB
               have q26 : (((rd_T32 l0 x8_3).f1) : Int) < ((x5_3.length : Int) : Int) := of_decide_eq_true asmB
               obtain ⟨go26, co26, eo26, gb26, gl26, cl26, HG26⟩ := Kd.R_form HO_5.out (by omega)
               (first | cases eo26 | (injection eo26 with ea_ en_ ec_; (first | subst ea_ | (injection ea_ with ea_; subst ea_)); subst ec_; clear en_))
               have GB26 := Aside0.mk gb26
               have GG26 := Aside0.mk HG26
               clear gb26 gl26 HG26
               obtain ⟨hx26_0, hf26_0⟩ := Kd.R_celln 0 HO_5.out (((rd_T32 l0 x8_3).f1) : Int) p26 q26
               replace p26 := eq_true p26
               replace q26 := eq_true q26
               have HP32 := Kd.R_putg HO_5.out (((rd_T32 l0 x8_3).f1) : Int) (wrap64 (x7_2 + 1))
               go_wp2_with (first | ((with_reducible refine gate_store (t := 3) (p := 62) rfl ?_); (try (rw [drewN_self wc]; generalize hq_ : World.drewN wc _ = wc; replace HO_5 := Aside0.mk (Kd.R_at hq_ HO_5.out); replace HB := Aside0.mk (below_at hq_ HB.out); clear hq_; (try (obtain ⟨hyq_, hzq_⟩ := Kd.R_celln 0 HO_5.out (((rd_T32 l0 x8_3).f1) : Int) (of_decide_eq_true asmB) (of_decide_eq_true asmB))); (try (have HP32 := Kd.R_putg HO_5.out (((rd_T32 l0 x8_3).f1) : Int) (wrap64 (x7_2 + 1)))))); refine store_event (t := 3) (p := 62) (v := ?vo_w33) (w1 := (wc.setCell ⟨go26, (((rd_T32 l0 x8_3).f1) : Int).toNat, none⟩ (.int .i64 (wrap64 (x7_2 + 1))))) ?hg ?ho ?hn ?hr ?_; (case ho => rfl); (case hg => rfl); (case hn => rfl); (case hr => first | (go_simp; done) | (go_simp; rfl)); intro w33 hw; have hg : wc.grownBy w33 (some go26) := (by rw [hw]; exact HP32.2); have hp_ : Kd.R (Kd.int .i64) 3 w33 w.heap.size (fun _ => True) (.slice (some ⟨go26, 0, none⟩) x5_3.length co26) y489 := (by rw [hw, Ny489.out]; exact HP32.1); clear HP32; replace HO_5 := Aside0.mk (hp_); replace HB := Aside0.mk ((by rw [hw]; exact below_set (HB.out) GB26.out : Below w.heap.size w w33)); clear hg hw hp_; have p490 : 0 ≤ (((rd_T32 l0 x8_3).f1) : Int) := of_decide_eq_true asmB; have q490 : ((rd_T32 l0 x8_3).f1) < (y489.length : Int) := (by have h_ : (((rd_T32 l0 x8_3).f1) : Int) < ((x5_3.length : Int) : Int) := of_decide_eq_true asmB; first | (have e_ := (Kd.R_reads' HO_5.out).1; omega) | simpa only [Ny489.out, List.length_set] using h_); have ql490 : ((((rd_T32 l0 x8_3).f1) : Int) < ((x5_3.length : Int) : Int)) = True := eq_true (of_decide_eq_true asmB); obtain ⟨ad490, e490, hx490_0⟩ := Kd.at_int (Kd.R_reads' HO_5.out).2.2 ((rd_T32 l0 x8_3).f1) p490 q490; obtain rfl : (⟨go26, 0, none⟩ : Addr) = ad490 := (by injection e490); (first | simp only [add_plain] at hx490_0 | simp only [add_at] at hx490_0 | simp only [Addr.add, Nat.zero_add] at hx490_0 | skip); replace p490 := eq_true p490; replace q490 := eq_true q490; have p491 : 0 ≤ (((rd_T32 l0 x8_3).f0) : Int) := of_decide_eq_true asmB; have q491 : ((rd_T32 l0 x8_3).f0) < (y489.length : Int) := (by have h_ : (((rd_T32 l0 x8_3).f0) : Int) < ((x5_3.length : Int) : Int) := of_decide_eq_true asmB; first | (have e_ := (Kd.R_reads' HO_5.out).1; omega) | simpa only [Ny489.out, List.length_set] using h_); have ql491 : ((((rd_T32 l0 x8_3).f0) : Int) < ((x5_3.length : Int) : Int)) = True := eq_true (of_decide_eq_true asmB); obtain ⟨ad491, e491, hx491_0⟩ := Kd.at_int (Kd.R_reads' HO_5.out).2.2 ((rd_T32 l0 x8_3).f0) p491 q491; obtain rfl : (⟨go26, 0, none⟩ : Addr) = ad491 := (by injection e491); (first | simp only [add_plain] at hx491_0 | simp only [add_at] at hx491_0 | simp only [Addr.add, Nat.zero_add] at hx491_0 | skip); replace p491 := eq_true p491; replace q491 := eq_true q491; have p31 : 0 ≤ (((rd_T32 l0 x8_3).f0) : Int) := of_decide_eq_true asmB; have q31 : (((rd_T32 l0 x8_3).f0) : Int) < ((x5_3.length : Int) : Int) := of_decide_eq_true asmB; obtain ⟨hx31_0, hf31_0⟩ := Kd.R_celln 0 HO_5.out (((rd_T32 l0 x8_3).f0) : Int) p31 q31; replace p31 := eq_true p31; replace q31 := eq_true q31; obtain ⟨hy34_, hz34_⟩ := Kd.R_celln 0 HO_5.out (((rd_T32 l0 x8_3).f0) : Int) (of_decide_eq_true asmB) (of_decide_eq_true asmB); have HP34 := Kd.R_putg HO_5.out (((rd_T32 l0 x8_3).f0) : Int) (wrap64 (x7_2 + 1))) | ((with_reducible refine gate_store (t := 3) (p := 80) rfl ?_); (try (rw [drewN_self w33]; generalize hq_ : World.drewN w33 _ = w33; replace HO_5 := Aside0.mk (Kd.R_at hq_ HO_5.out); replace HB := Aside0.mk (below_at hq_ HB.out); clear hq_; (try (obtain ⟨hy34_, hz34_⟩ := Kd.R_celln 0 HO_5.out (((rd_T32 l0 x8_3).f0) : Int) (of_decide_eq_true asmB) (of_decide_eq_true asmB))); (try (have HP34 := Kd.R_putg HO_5.out (((rd_T32 l0 x8_3).f0) : Int) (wrap64 (x7_2 + 1)))))); refine store_event (t := 3) (p := 80) (v := ?vo_w35) (w1 := (w33.setCell ⟨go26, (((rd_T32 l0 x8_3).f0) : Int).toNat, none⟩ (.int .i64 (wrap64 (x7_2 + 1))))) ?hg ?ho ?hn ?hr ?_; (case ho => rfl); (case hg => rfl); (case hn => rfl); (case hr => first | (go_simp; done) | (go_simp; rfl)); intro w35 hw; have hg : w33.grownBy w35 (some go26) := (by rw [hw]; exact HP34.2); have hp_ : Kd.R (Kd.int .i64) 3 w35 w.heap.size (fun _ => True) (.slice (some ⟨go26, 0, none⟩) x5_3.length co26) y492 := (by rw [hw, Ny492.out]; exact HP34.1); clear HP34; replace HO_5 := Aside0.mk (hp_); replace HB := Aside0.mk ((by rw [hw]; exact below_set (HB.out) GB26.out : Below w.heap.size w w35)); clear hg hw hp_))
               repeat (go_quiet (first | ((with_reducible refine gate_store (t := 3) (p := 62) rfl ?_); (try (rw [drewN_self wc]; generalize hq_ : World.drewN wc _ = wc; replace HO_5 := Aside0.mk (Kd.R_at hq_ HO_5.out); replace HB := Aside0.mk (below_at hq_ HB.out); clear hq_; (try (obtain ⟨hyq_, hzq_⟩ := Kd.R_celln 0 HO_5.out (((rd_T32 l0 x8_3).f1) : Int) (of_decide_eq_true asmB) (of_decide_eq_true asmB))); (try (have HP32 := Kd.R_putg HO_5.out (((rd_T32 l0 x8_3).f1) : Int) (wrap64 (x7_2 + 1)))))); refine store_event (t := 3) (p := 62) (v := ?vo_w33) (w1 := (wc.setCell ⟨go26, (((rd_T32 l0 x8_3).f1) : Int).toNat, none⟩ (.int .i64 (wrap64 (x7_2 + 1))))) ?hg ?ho ?hn ?hr ?_; (case ho => rfl); (case hg => rfl); (case hn => rfl); (case hr => first | (go_simp; done) | (go_simp; rfl)); intro w33 hw; have hg : wc.grownBy w33 (some go26) := (by rw [hw]; exact HP32.2); have hp_ : Kd.R (Kd.int .i64) 3 w33 w.heap.size (fun _ => True) (.slice (some ⟨go26, 0, none⟩) x5_3.length co26) y489 := (by rw [hw, Ny489.out]; exact HP32.1); clear HP32; replace HO_5 := Aside0.mk (hp_); replace HB := Aside0.mk ((by rw [hw]; exact below_set (HB.out) GB26.out : Below w.heap.size w w33)); clear hg hw hp_; have p490 : 0 ≤ (((rd_T32 l0 x8_3).f1) : Int) := of_decide_eq_true asmB; have q490 : ((rd_T32 l0 x8_3).f1) < (y489.length : Int) := (by have h_ : (((rd_T32 l0 x8_3).f1) : Int) < ((x5_3.length : Int) : Int) := of_decide_eq_true asmB; first | (have e_ := (Kd.R_reads' HO_5.out).1; omega) | simpa only [Ny489.out, List.length_set] using h_); have ql490 : ((((rd_T32 l0 x8_3).f1) : Int) < ((x5_3.length : Int) : Int)) = True := eq_true (of_decide_eq_true asmB); obtain ⟨ad490, e490, hx490_0⟩ := Kd.at_int (Kd.R_reads' HO_5.out).2.2 ((rd_T32 l0 x8_3).f1) p490 q490; obtain rfl : (⟨go26, 0, none⟩ : Addr) = ad490 := (by injection e490); (first | simp only [add_plain] at hx490_0 | simp only [add_at] at hx490_0 | simp only [Addr.add, Nat.zero_add] at hx490_0 | skip); replace p490 := eq_true p490; replace q490 := eq_true q490; have p491 : 0 ≤ (((rd_T32 l0 x8_3).f0) : Int) := of_decide_eq_true asmB; have q491 : ((rd_T32 l0 x8_3).f0) < (y489.length : Int) := (by have h_ : (((rd_T32 l0 x8_3).f0) : Int) < ((x5_3.length : Int) : Int) := of_decide_eq_true asmB; first | (have e_ := (Kd.R_reads' HO_5.out).1; omega) | simpa only [Ny489.out, List.length_set] using h_); have ql491 : ((((rd_T32 l0 x8_3).f0) : Int) < ((x5_3.length : Int) : Int)) = True := eq_true (of_decide_eq_true asmB); obtain ⟨ad491, e491, hx491_0⟩ := Kd.at_int (Kd.R_reads' HO_5.out).2.2 ((rd_T32 l0 x8_3).f0) p491 q491; obtain rfl : (⟨go26, 0, none⟩ : Addr) = ad491 := (by injection e491); (first | simp only [add_plain] at hx491_0 | simp only [add_at] at hx491_0 | simp only [Addr.add, Nat.zero_add] at hx491_0 | skip); replace p491 := eq_true p491; replace q491 := eq_true q491; have p31 : 0 ≤ (((rd_T32 l0 x8_3).f0) : Int) := of_decide_eq_true asmB; have q31 : (((rd_T32 l0 x8_3).f0) : Int) < ((x5_3.length : Int) : Int) := of_decide_eq_true asmB; obtain ⟨hx31_0, hf31_0⟩ := Kd.R_celln 0 HO_5.out (((rd_T32 l0 x8_3).f0) : Int) p31 q31; replace p31 := eq_true p31; replace q31 := eq_true q31; obtain ⟨hy34_, hz34_⟩ := Kd.R_celln 0 HO_5.out (((rd_T32 l0 x8_3).f0) : Int) (of_decide_eq_true asmB) (of_decide_eq_true asmB); have HP34 := Kd.R_putg HO_5.out (((rd_T32 l0 x8_3).f0) : Int) (wrap64 (x7_2 + 1))) | ((with_reducible refine gate_store (t := 3) (p := 80) rfl ?_); (try (rw [drewN_self w33]; generalize hq_ : World.drewN w33 _ = w33; replace HO_5 := Aside0.mk (Kd.R_at hq_ HO_5.out); replace HB := Aside0.mk (below_at hq_ HB.out); clear hq_; (try (obtain ⟨hy34_, hz34_⟩ := Kd.R_celln 0 HO_5.out (((rd_T32 l0 x8_3).f0) : Int) (of_decide_eq_true asmB) (of_decide_eq_true asmB))); (try (have HP34 := Kd.R_putg HO_5.out (((rd_T32 l0 x8_3).f0) : Int) (wrap64 (x7_2 + 1)))))); refine store_event (t := 3) (p := 80) (v := ?vo_w35) (w1 := (w33.setCell ⟨go26, (((rd_T32 l0 x8_3).f0) : Int).toNat, none⟩ (.int .i64 (wrap64 (x7_2 + 1))))) ?hg ?ho ?hn ?hr ?_; (case ho => rfl); (case hg => rfl); (case hn => rfl); (case hr => first | (go_simp; done) | (go_simp; rfl)); intro w35 hw; have hg : w33.grownBy w35 (some go26) := (by rw [hw]; exact HP34.2); have hp_ : Kd.R (Kd.int .i64) 3 w35 w.heap.size (fun _ => True) (.slice (some ⟨go26, 0, none⟩) x5_3.length co26) y492 := (by rw [hw, Ny492.out]; exact HP34.1); clear HP34; replace HO_5 := Aside0.mk (hp_); replace HB := Aside0.mk ((by rw [hw]; exact below_set (HB.out) GB26.out : Below w.heap.size w w35)); clear hg hw hp_)); try go_wp2_with (first | ((with_reducible refine gate_store (t := 3) (p := 62) rfl ?_); (try (rw [drewN_self wc]; generalize hq_ : World.drewN wc _ = wc; replace HO_5 := Aside0.mk (Kd.R_at hq_ HO_5.out); replace HB := Aside0.mk (below_at hq_ HB.out); clear hq_; (try (obtain ⟨hyq_, hzq_⟩ := Kd.R_celln 0 HO_5.out (((rd_T32 l0 x8_3).f1) : Int) (of_decide_eq_true asmB) (of_decide_eq_true asmB))); (try (have HP32 := Kd.R_putg HO_5.out (((rd_T32 l0 x8_3).f1) : Int) (wrap64 (x7_2 + 1)))))); refine store_event (t := 3) (p := 62) (v := ?vo_w33) (w1 := (wc.setCell ⟨go26, (((rd_T32 l0 x8_3).f1) : Int).toNat, none⟩ (.int .i64 (wrap64 (x7_2 + 1))))) ?hg ?ho ?hn ?hr ?_; (case ho => rfl); (case hg => rfl); (case hn => rfl); (case hr => first | (go_simp; done) | (go_simp; rfl)); intro w33 hw; have hg : wc.grownBy w33 (some go26) := (by rw [hw]; exact HP32.2); have hp_ : Kd.R (Kd.int .i64) 3 w33 w.heap.size (fun _ => True) (.slice (some ⟨go26, 0, none⟩) x5_3.length co26) y489 := (by rw [hw, Ny489.out]; exact HP32.1); clear HP32; replace HO_5 := Aside0.mk (hp_); replace HB := Aside0.mk ((by rw [hw]; exact below_set (HB.out) GB26.out : Below w.heap.size w w33)); clear hg hw hp_; have p490 : 0 ≤ (((rd_T32 l0 x8_3).f1) : Int) := of_decide_eq_true asmB; have q490 : ((rd_T32 l0 x8_3).f1) < (y489.length : Int) := (by have h_ : (((rd_T32 l0 x8_3).f1) : Int) < ((x5_3.length : Int) : Int) := of_decide_eq_true asmB; first | (have e_ := (Kd.R_reads' HO_5.out).1; omega) | simpa only [Ny489.out, List.length_set] using h_); have ql490 : ((((rd_T32 l0 x8_3).f1) : Int) < ((x5_3.length : Int) : Int)) = True := eq_true (of_decide_eq_true asmB); obtain ⟨ad490, e490, hx490_0⟩ := Kd.at_int (Kd.R_reads' HO_5.out).2.2 ((rd_T32 l0 x8_3).f1) p490 q490; obtain rfl : (⟨go26, 0, none⟩ : Addr) = ad490 := (by injection e490); (first | simp only [add_plain] at hx490_0 | simp only [add_at] at hx490_0 | simp only [Addr.add, Nat.zero_add] at hx490_0 | skip); replace p490 := eq_true p490; replace q490 := eq_true q490; have p491 : 0 ≤ (((rd_T32 l0 x8_3).f0) : Int) := of_decide_eq_true asmB; have q491 : ((rd_T32 l0 x8_3).f0) < (y489.length : Int) := (by have h_ : (((rd_T32 l0 x8_3).f0) : Int) < ((x5_3.length : Int) : Int) := of_decide_eq_true asmB; first | (have e_ := (Kd.R_reads' HO_5.out).1; omega) | simpa only [Ny489.out, List.length_set] using h_); have ql491 : ((((rd_T32 l0 x8_3).f0) : Int) < ((x5_3.length : Int) : Int)) = True := eq_true (of_decide_eq_true asmB); obtain ⟨ad491, e491, hx491_0⟩ := Kd.at_int (Kd.R_reads' HO_5.out).2.2 ((rd_T32 l0 x8_3).f0) p491 q491; obtain rfl : (⟨go26, 0, none⟩ : Addr) = ad491 := (by injection e491); (first | simp only [add_plain] at hx491_0 | simp only [add_at] at hx491_0 | simp only [Addr.add, Nat.zero_add] at hx491_0 | skip); replace p491 := eq_true p491; replace q491 := eq_true q491; have p31 : 0 ≤ (((rd_T32 l0 x8_3).f0) : Int) := of_decide_eq_true asmB; have q31 : (((rd_T32 l0 x8_3).f0) : Int) < ((x5_3.length : Int) : Int) := of_decide_eq_true asmB; obtain ⟨hx31_0, hf31_0⟩ := Kd.R_celln 0 HO_5.out (((rd_T32 l0 x8_3).f0) : Int) p31 q31; replace p31 := eq_true p31; replace q31 := eq_true q31; obtain ⟨hy34_, hz34_⟩ := Kd.R_celln 0 HO_5.out (((rd_T32 l0 x8_3).f0) : Int) (of_decide_eq_true asmB) (of_decide_eq_true asmB); have HP34 := Kd.R_putg HO_5.out (((rd_T32 l0 x8_3).f0) : Int) (wrap64 (x7_2 + 1))) | ((with_reducible refine gate_store (t := 3) (p := 80) rfl ?_); (try (rw [drewN_self w33]; generalize hq_ : World.drewN w33 _ = w33; replace HO_5 := Aside0.mk (Kd.R_at hq_ HO_5.out); replace HB := Aside0.mk (below_at hq_ HB.out); clear hq_; (try (obtain ⟨hy34_, hz34_⟩ := Kd.R_celln 0 HO_5.out (((rd_T32 l0 x8_3).f0) : Int) (of_decide_eq_true asmB) (of_decide_eq_true asmB))); (try (have HP34 := Kd.R_putg HO_5.out (((rd_T32 l0 x8_3).f0) : Int) (wrap64 (x7_2 + 1)))))); refine store_event (t := 3) (p := 80) (v := ?vo_w35) (w1 := (w33.setCell ⟨go26, (((rd_T32 l0 x8_3).f0) : Int).toNat, none⟩ (.int .i64 (wrap64 (x7_2 + 1))))) ?hg ?ho ?hn ?hr ?_; (case ho => rfl); (case hg => rfl); (case hn => rfl); (case hr => first | (go_simp; done) | (go_simp; rfl)); intro w35 hw; have hg : w33.grownBy w35 (some go26) := (by rw [hw]; exact HP34.2); have hp_ : Kd.R (Kd.int .i64) 3 w35 w.heap.size (fun _ => True) (.slice (some ⟨go26, 0, none⟩) x5_3.length co26) y492 := (by rw [hw, Ny492.out]; exact HP34.1); clear HP34; replace HO_5 := Aside0.mk (hp_); replace HB := Aside0.mk ((by rw [hw]; exact below_set (HB.out) GB26.out : Below w.heap.size w w35)); clear hg hw hp_)))
               go_roundg kj14
               case measure => have := HK1.out; have := HK2.out; have := HK3.out; have := HJ14.out; omega
               case rel => exact ⟨(y492), (wrap64 (x8_3 + 1)), rB, H', ⟨by have := HK1.out; have := HK2.out; have := HK3.out; have := HJ14.out; omega⟩, ⟨upR HO_5.out⟩, (aB HB)⟩
              ·have H' := Aside0.mk H
               clear H
               have p26 : 0 ≤ (((rd_T32 l0 x8_3).f1) : Int) := of_decide_eq_true asmB
               have q26 : (((rd_T32 l0 x8_3).f1) : Int) < ((x5_3.length : Int) : Int) := of_decide_eq_true asmB
               obtain ⟨go26, co26, eo26, gb26, gl26, cl26, HG26⟩ := Kd.R_form HO_5.out (by omega)
               (first | cases eo26 | (injection eo26 with ea_ en_ ec_; (first | subst ea_ | (injection ea_ with ea_; subst ea_)); subst ec_; clear en_))
               have GB26 := Aside0.mk gb26
               have GG26 := Aside0.mk HG26
               clear gb26 gl26 HG26
               obtain ⟨hx26_0, hf26_0⟩ := Kd.R_celln 0 HO_5.out (((rd_T32 l0 x8_3).f1) : Int) p26 q26
               replace p26 := eq_true p26
               replace q26 := eq_true q26
               have HP36 := Kd.R_putg HO_5.out (((rd_T32 l0 x8_3).f1) : Int) (wrap64 (x7_2 + 1))
               go_wp2_with (first | ((with_reducible refine gate_store (t := 3) (p := 62) rfl ?_); (try (rw [drewN_self wc]; generalize hq_ : World.drewN wc _ = wc; replace HO_5 := Aside0.mk (Kd.R_at hq_ HO_5.out); replace HB := Aside0.mk (below_at hq_ HB.out); clear hq_; (try (obtain ⟨hyq_, hzq_⟩ := Kd.R_celln 0 HO_5.out (((rd_T32 l0 x8_3).f1) : Int) (of_decide_eq_true asmB) (of_decide_eq_true asmB))); (try (have HP36 := Kd.R_putg HO_5.out (((rd_T32 l0 x8_3).f1) : Int) (wrap64 (x7_2 + 1)))))); refine store_event (t := 3) (p := 62) (v := ?vo_w37) (w1 := (wc.setCell ⟨go26, (((rd_T32 l0 x8_3).f1) : Int).toNat, none⟩ (.int .i64 (wrap64 (x7_2 + 1))))) ?hg ?ho ?hn ?hr ?_; (case ho => rfl); (case hg => rfl); (case hn => rfl); (case hr => first | (go_simp; done) | (go_simp; rfl)); intro w37 hw; have hg : wc.grownBy w37 (some go26) := (by rw [hw]; exact HP36.2); have hp_ : Kd.R (Kd.int .i64) 3 w37 w.heap.size (fun _ => True) (.slice (some ⟨go26, 0, none⟩) x5_3.length co26) y489 := (by rw [hw, Ny489.out]; exact HP36.1); clear HP36; replace HO_5 := Aside0.mk (hp_); replace HB := Aside0.mk ((by rw [hw]; exact below_set (HB.out) GB26.out : Below w.heap.size w w37)); clear hg hw hp_; have p490 : 0 ≤ (((rd_T32 l0 x8_3).f1) : Int) := of_decide_eq_true asmB; have q490 : ((rd_T32 l0 x8_3).f1) < (y489.length : Int) := (by have h_ : (((rd_T32 l0 x8_3).f1) : Int) < ((x5_3.length : Int) : Int) := of_decide_eq_true asmB; first | (have e_ := (Kd.R_reads' HO_5.out).1; omega) | simpa only [Ny489.out, List.length_set] using h_); have ql490 : ((((rd_T32 l0 x8_3).f1) : Int) < ((x5_3.length : Int) : Int)) = True := eq_true (of_decide_eq_true asmB); obtain ⟨ad490, e490, hx490_0⟩ := Kd.at_int (Kd.R_reads' HO_5.out).2.2 ((rd_T32 l0 x8_3).f1) p490 q490; obtain rfl : (⟨go26, 0, none⟩ : Addr) = ad490 := (by injection e490); (first | simp only [add_plain] at hx490_0 | simp only [add_at] at hx490_0 | simp only [Addr.add, Nat.zero_add] at hx490_0 | skip); replace p490 := eq_true p490; replace q490 := eq_true q490; have p491 : 0 ≤ (((rd_T32 l0 x8_3).f0) : Int) := of_decide_eq_true asmB; have q491 : ((rd_T32 l0 x8_3).f0) < (y489.length : Int) := (by have h_ : (((rd_T32 l0 x8_3).f0) : Int) < ((x5_3.length : Int) : Int) := of_decide_eq_true asmB; first | (have e_ := (Kd.R_reads' HO_5.out).1; omega) | simpa only [Ny489.out, List.length_set] using h_); have ql491 : ((((rd_T32 l0 x8_3).f0) : Int) < ((x5_3.length : Int) : Int)) = True := eq_true (of_decide_eq_true asmB); obtain ⟨ad491, e491, hx491_0⟩ := Kd.at_int (Kd.R_reads' HO_5.out).2.2 ((rd_T32 l0 x8_3).f0) p491 q491; obtain rfl : (⟨go26, 0, none⟩ : Addr) = ad491 := (by injection e491); (first | simp only [add_plain] at hx491_0 | simp only [add_at] at hx491_0 | simp only [Addr.add, Nat.zero_add] at hx491_0 | skip); replace p491 := eq_true p491; replace q491 := eq_true q491))
               repeat (go_quiet (first | ((with_reducible refine gate_store (t := 3) (p := 62) rfl ?_); (try (rw [drewN_self wc]; generalize hq_ : World.drewN wc _ = wc; replace HO_5 := Aside0.mk (Kd.R_at hq_ HO_5.out); replace HB := Aside0.mk (below_at hq_ HB.out); clear hq_; (try (obtain ⟨hyq_, hzq_⟩ := Kd.R_celln 0 HO_5.out (((rd_T32 l0 x8_3).f1) : Int) (of_decide_eq_true asmB) (of_decide_eq_true asmB))); (try (have HP36 := Kd.R_putg HO_5.out (((rd_T32 l0 x8_3).f1) : Int) (wrap64 (x7_2 + 1)))))); refine store_event (t := 3) (p := 62) (v := ?vo_w37) (w1 := (wc.setCell ⟨go26, (((rd_T32 l0 x8_3).f1) : Int).toNat, none⟩ (.int .i64 (wrap64 (x7_2 + 1))))) ?hg ?ho ?hn ?hr ?_; (case ho => rfl); (case hg => rfl); (case hn => rfl); (case hr => first | (go_simp; done) | (go_simp; rfl)); intro w37 hw; have hg : wc.grownBy w37 (some go26) := (by rw [hw]; exact HP36.2); have hp_ : Kd.R (Kd.int .i64) 3 w37 w.heap.size (fun _ => True) (.slice (some ⟨go26, 0, none⟩) x5_3.length co26) y489 := (by rw [hw, Ny489.out]; exact HP36.1); clear HP36; replace HO_5 := Aside0.mk (hp_); replace HB := Aside0.mk ((by rw [hw]; exact below_set (HB.out) GB26.out : Below w.heap.size w w37)); clear hg hw hp_; have p490 : 0 ≤ (((rd_T32 l0 x8_3).f1) : Int) := of_decide_eq_true asmB; have q490 : ((rd_T32 l0 x8_3).f1) < (y489.length : Int) := (by have h_ : (((rd_T32 l0 x8_3).f1) : Int) < ((x5_3.length : Int) : Int) := of_decide_eq_true asmB; first | (have e_ := (Kd.R_reads' HO_5.out).1; omega) | simpa only [Ny489.out, List.length_set] using h_); have ql490 : ((((rd_T32 l0 x8_3).f1) : Int) < ((x5_3.length : Int) : Int)) = True := eq_true (of_decide_eq_true asmB); obtain ⟨ad490, e490, hx490_0⟩ := Kd.at_int (Kd.R_reads' HO_5.out).2.2 ((rd_T32 l0 x8_3).f1) p490 q490; obtain rfl : (⟨go26, 0, none⟩ : Addr) = ad490 := (by injection e490); (first | simp only [add_plain] at hx490_0 | simp only [add_at] at hx490_0 | simp only [Addr.add, Nat.zero_add] at hx490_0 | skip); replace p490 := eq_true p490; replace q490 := eq_true q490; have p491 : 0 ≤ (((rd_T32 l0 x8_3).f0) : Int) := of_decide_eq_true asmB; have q491 : ((rd_T32 l0 x8_3).f0) < (y489.length : Int) := (by have h_ : (((rd_T32 l0 x8_3).f0) : Int) < ((x5_3.length : Int) : Int) := of_decide_eq_true asmB; first | (have e_ := (Kd.R_reads' HO_5.out).1; omega) | simpa only [Ny489.out, List.length_set] using h_); have ql491 : ((((rd_T32 l0 x8_3).f0) : Int) < ((x5_3.length : Int) : Int)) = True := eq_true (of_decide_eq_true asmB); obtain ⟨ad491, e491, hx491_0⟩ := Kd.at_int (Kd.R_reads' HO_5.out).2.2 ((rd_T32 l0 x8_3).f0) p491 q491; obtain rfl : (⟨go26, 0, none⟩ : Addr) = ad491 := (by injection e491); (first | simp only [add_plain] at hx491_0 | simp only [add_at] at hx491_0 | simp only [Addr.add, Nat.zero_add] at hx491_0 | skip); replace p491 := eq_true p491; replace q491 := eq_true q491)); try go_wp2_with (first | ((with_reducible refine gate_store (t := 3) (p := 62) rfl ?_); (try (rw [drewN_self wc]; generalize hq_ : World.drewN wc _ = wc; replace HO_5 := Aside0.mk (Kd.R_at hq_ HO_5.out); replace HB := Aside0.mk (below_at hq_ HB.out); clear hq_; (try (obtain ⟨hyq_, hzq_⟩ := Kd.R_celln 0 HO_5.out (((rd_T32 l0 x8_3).f1) : Int) (of_decide_eq_true asmB) (of_decide_eq_true asmB))); (try (have HP36 := Kd.R_putg HO_5.out (((rd_T32 l0 x8_3).f1) : Int) (wrap64 (x7_2 + 1)))))); refine store_event (t := 3) (p := 62) (v := ?vo_w37) (w1 := (wc.setCell ⟨go26, (((rd_T32 l0 x8_3).f1) : Int).toNat, none⟩ (.int .i64 (wrap64 (x7_2 + 1))))) ?hg ?ho ?hn ?hr ?_; (case ho => rfl); (case hg => rfl); (case hn => rfl); (case hr => first | (go_simp; done) | (go_simp; rfl)); intro w37 hw; have hg : wc.grownBy w37 (some go26) := (by rw [hw]; exact HP36.2); have hp_ : Kd.R (Kd.int .i64) 3 w37 w.heap.size (fun _ => True) (.slice (some ⟨go26, 0, none⟩) x5_3.length co26) y489 := (by rw [hw, Ny489.out]; exact HP36.1); clear HP36; replace HO_5 := Aside0.mk (hp_); replace HB := Aside0.mk ((by rw [hw]; exact below_set (HB.out) GB26.out : Below w.heap.size w w37)); clear hg hw hp_; have p490 : 0 ≤ (((rd_T32 l0 x8_3).f1) : Int) := of_decide_eq_true asmB; have q490 : ((rd_T32 l0 x8_3).f1) < (y489.length : Int) := (by have h_ : (((rd_T32 l0 x8_3).f1) : Int) < ((x5_3.length : Int) : Int) := of_decide_eq_true asmB; first | (have e_ := (Kd.R_reads' HO_5.out).1; omega) | simpa only [Ny489.out, List.length_set] using h_); have ql490 : ((((rd_T32 l0 x8_3).f1) : Int) < ((x5_3.length : Int) : Int)) = True := eq_true (of_decide_eq_true asmB); obtain ⟨ad490, e490, hx490_0⟩ := Kd.at_int (Kd.R_reads' HO_5.out).2.2 ((rd_T32 l0 x8_3).f1) p490 q490; obtain rfl : (⟨go26, 0, none⟩ : Addr) = ad490 := (by injection e490); (first | simp only [add_plain] at hx490_0 | simp only [add_at] at hx490_0 | simp only [Addr.add, Nat.zero_add] at hx490_0 | skip); replace p490 := eq_true p490; replace q490 := eq_true q490; have p491 : 0 ≤ (((rd_T32 l0 x8_3).f0) : Int) := of_decide_eq_true asmB; have q491 : ((rd_T32 l0 x8_3).f0) < (y489.length : Int) := (by have h_ : (((rd_T32 l0 x8_3).f0) : Int) < ((x5_3.length : Int) : Int) := of_decide_eq_true asmB; first | (have e_ := (Kd.R_reads' HO_5.out).1; omega) | simpa only [Ny489.out, List.length_set] using h_); have ql491 : ((((rd_T32 l0 x8_3).f0) : Int) < ((x5_3.length : Int) : Int)) = True := eq_true (of_decide_eq_true asmB); obtain ⟨ad491, e491, hx491_0⟩ := Kd.at_int (Kd.R_reads' HO_5.out).2.2 ((rd_T32 l0 x8_3).f0) p491 q491; obtain rfl : (⟨go26, 0, none⟩ : Addr) = ad491 := (by injection e491); (first | simp only [add_plain] at hx491_0 | simp only [add_at] at hx491_0 | simp only [Addr.add, Nat.zero_add] at hx491_0 | skip); replace p491 := eq_true p491; replace q491 := eq_true q491)))
               go_roundg kj14
               case measure => have := HK1.out; have := HK2.out; have := HK3.out; have := HJ14.out; omega
               case rel => exact ⟨(y489), (wrap64 (x8_3 + 1)), rB, H', ⟨by have := HK1.out; have := HK2.out; have := HK3.out; have := HJ14.out; omega⟩, ⟨upR HO_5.out⟩, (aB HB)⟩
             ·have H' := Aside0.mk H
              clear H
              have p26 : 0 ≤ (((rd_T32 l0 x8_3).f1) : Int) := of_decide_eq_true asmB
              have q26 : (((rd_T32 l0 x8_3).f1) : Int) < ((x5_3.length : Int) : Int) := of_decide_eq_true asmB
              obtain ⟨go26, co26, eo26, gb26, gl26, cl26, HG26⟩ := Kd.R_form HO_5.out (by omega)
              (first | cases eo26 | (injection eo26 with ea_ en_ ec_; (first | subst ea_ | (injection ea_ with ea_; subst ea_)); subst ec_; clear en_))
              have GB26 := Aside0.mk gb26
              have GG26 := Aside0.mk HG26
              clear gb26 gl26 HG26
              obtain ⟨hx26_0, hf26_0⟩ := Kd.R_celln 0 HO_5.out (((rd_T32 l0 x8_3).f1) : Int) p26 q26
              replace p26 := eq_true p26
              replace q26 := eq_true q26
              have HP38 := Kd.R_putg HO_5.out (((rd_T32 l0 x8_3).f1) : Int) (wrap64 (x7_2 + 1))
              go_wp2_with (first | ((with_reducible refine gate_store (t := 3) (p := 62) rfl ?_); (try (rw [drewN_self wc]; generalize hq_ : World.drewN wc _ = wc; replace HO_5 := Aside0.mk (Kd.R_at hq_ HO_5.out); replace HB := Aside0.mk (below_at hq_ HB.out); clear hq_; (try (obtain ⟨hyq_, hzq_⟩ := Kd.R_celln 0 HO_5.out (((rd_T32 l0 x8_3).f1) : Int) (of_decide_eq_true asmB) (of_decide_eq_true asmB))); (try (have HP38 := Kd.R_putg HO_5.out (((rd_T32 l0 x8_3).f1) : Int) (wrap64 (x7_2 + 1)))))); refine store_event (t := 3) (p := 62) (v := ?vo_w39) (w1 := (wc.setCell ⟨go26, (((rd_T32 l0 x8_3).f1) : Int).toNat, none⟩ (.int .i64 (wrap64 (x7_2 + 1))))) ?hg ?ho ?hn ?hr ?_; (case ho => rfl); (case hg => rfl); (case hn => rfl); (case hr => first | (go_simp; done) | (go_simp; rfl)); intro w39 hw; have hg : wc.grownBy w39 (some go26) := (by rw [hw]; exact HP38.2); have hp_ : Kd.R (Kd.int .i64) 3 w39 w.heap.size (fun _ => True) (.slice (some ⟨go26, 0, none⟩) x5_3.length co26) y489 := (by rw [hw, Ny489.out]; exact HP38.1); clear HP38; replace HO_5 := Aside0.mk (hp_); replace HB := Aside0.mk ((by rw [hw]; exact below_set (HB.out) GB26.out : Below w.heap.size w w39)); clear hg hw hp_; have p490 : 0 ≤ (((rd_T32 l0 x8_3).f1) : Int) := of_decide_eq_true asmB; have q490 : ((rd_T32 l0 x8_3).f1) < (y489.length : Int) := (by have h_ : (((rd_T32 l0 x8_3).f1) : Int) < ((x5_3.length : Int) : Int) := of_decide_eq_true asmB; first | (have e_ := (Kd.R_reads' HO_5.out).1; omega) | simpa only [Ny489.out, List.length_set] using h_); have ql490 : ((((rd_T32 l0 x8_3).f1) : Int) < ((x5_3.length : Int) : Int)) = True := eq_true (of_decide_eq_true asmB); obtain ⟨ad490, e490, hx490_0⟩ := Kd.at_int (Kd.R_reads' HO_5.out).2.2 ((rd_T32 l0 x8_3).f1) p490 q490; obtain rfl : (⟨go26, 0, none⟩ : Addr) = ad490 := (by injection e490); (first | simp only [add_plain] at hx490_0 | simp only [add_at] at hx490_0 | simp only [Addr.add, Nat.zero_add] at hx490_0 | skip); replace p490 := eq_true p490; replace q490 := eq_true q490))
              repeat (go_quiet (first | ((with_reducible refine gate_store (t := 3) (p := 62) rfl ?_); (try (rw [drewN_self wc]; generalize hq_ : World.drewN wc _ = wc; replace HO_5 := Aside0.mk (Kd.R_at hq_ HO_5.out); replace HB := Aside0.mk (below_at hq_ HB.out); clear hq_; (try (obtain ⟨hyq_, hzq_⟩ := Kd.R_celln 0 HO_5.out (((rd_T32 l0 x8_3).f1) : Int) (of_decide_eq_true asmB) (of_decide_eq_true asmB))); (try (have HP38 := Kd.R_putg HO_5.out (((rd_T32 l0 x8_3).f1) : Int) (wrap64 (x7_2 + 1)))))); refine store_event (t := 3) (p := 62) (v := ?vo_w39) (w1 := (wc.setCell ⟨go26, (((rd_T32 l0 x8_3).f1) : Int).toNat, none⟩ (.int .i64 (wrap64 (x7_2 + 1))))) ?hg ?ho ?hn ?hr ?_; (case ho => rfl); (case hg => rfl); (case hn => rfl); (case hr => first | (go_simp; done) | (go_simp; rfl)); intro w39 hw; have hg : wc.grownBy w39 (some go26) := (by rw [hw]; exact HP38.2); have hp_ : Kd.R (Kd.int .i64) 3 w39 w.heap.size (fun _ => True) (.slice (some ⟨go26, 0, none⟩) x5_3.length co26) y489 := (by rw [hw, Ny489.out]; exact HP38.1); clear HP38; replace HO_5 := Aside0.mk (hp_); replace HB := Aside0.mk ((by rw [hw]; exact below_set (HB.out) GB26.out : Below w.heap.size w w39)); clear hg hw hp_; have p490 : 0 ≤ (((rd_T32 l0 x8_3).f1) : Int) := of_decide_eq_true asmB; have q490 : ((rd_T32 l0 x8_3).f1) < (y489.length : Int) := (by have h_ : (((rd_T32 l0 x8_3).f1) : Int) < ((x5_3.length : Int) : Int) := of_decide_eq_true asmB; first | (have e_ := (Kd.R_reads' HO_5.out).1; omega) | simpa only [Ny489.out, List.length_set] using h_); have ql490 : ((((rd_T32 l0 x8_3).f1) : Int) < ((x5_3.length : Int) : Int)) = True := eq_true (of_decide_eq_true asmB); obtain ⟨ad490, e490, hx490_0⟩ := Kd.at_int (Kd.R_reads' HO_5.out).2.2 ((rd_T32 l0 x8_3).f1) p490 q490; obtain rfl : (⟨go26, 0, none⟩ : Addr) = ad490 := (by injection e490); (first | simp only [add_plain] at hx490_0 | simp only [add_at] at hx490_0 | simp only [Addr.add, Nat.zero_add] at hx490_0 | skip); replace p490 := eq_true p490; replace q490 := eq_true q490)); try go_wp2_with (first | ((with_reducible refine gate_store (t := 3) (p := 62) rfl ?_); (try (rw [drewN_self wc]; generalize hq_ : World.drewN wc _ = wc; replace HO_5 := Aside0.mk (Kd.R_at hq_ HO_5.out); replace HB := Aside0.mk (below_at hq_ HB.out); clear hq_; (try (obtain ⟨hyq_, hzq_⟩ := Kd.R_celln 0 HO_5.out (((rd_T32 l0 x8_3).f1) : Int) (of_decide_eq_true asmB) (of_decide_eq_true asmB))); (try (have HP38 := Kd.R_putg HO_5.out (((rd_T32 l0 x8_3).f1) : Int) (wrap64 (x7_2 + 1)))))); refine store_event (t := 3) (p := 62) (v := ?vo_w39) (w1 := (wc.setCell ⟨go26, (((rd_T32 l0 x8_3).f1) : Int).toNat, none⟩ (.int .i64 (wrap64 (x7_2 + 1))))) ?hg ?ho ?hn ?hr ?_; (case ho => rfl); (case hg => rfl); (case hn => rfl); (case hr => first | (go_simp; done) | (go_simp; rfl)); intro w39 hw; have hg : wc.grownBy w39 (some go26) := (by rw [hw]; exact HP38.2); have hp_ : Kd.R (Kd.int .i64) 3 w39 w.heap.size (fun _ => True) (.slice (some ⟨go26, 0, none⟩) x5_3.length co26) y489 := (by rw [hw, Ny489.out]; exact HP38.1); clear HP38; replace HO_5 := Aside0.mk (hp_); replace HB := Aside0.mk ((by rw [hw]; exact below_set (HB.out) GB26.out : Below w.heap.size w w39)); clear hg hw hp_; have p490 : 0 ≤ (((rd_T32 l0 x8_3).f1) : Int) := of_decide_eq_true asmB; have q490 : ((rd_T32 l0 x8_3).f1) < (y489.length : Int) := (by have h_ : (((rd_T32 l0 x8_3).f1) : Int) < ((x5_3.length : Int) : Int) := of_decide_eq_true asmB; first | (have e_ := (Kd.R_reads' HO_5.out).1; omega) | simpa only [Ny489.out, List.length_set] using h_); have ql490 : ((((rd_T32 l0 x8_3).f1) : Int) < ((x5_3.length : Int) : Int)) = True := eq_true (of_decide_eq_true asmB); obtain ⟨ad490, e490, hx490_0⟩ := Kd.at_int (Kd.R_reads' HO_5.out).2.2 ((rd_T32 l0 x8_3).f1) p490 q490; obtain rfl : (⟨go26, 0, none⟩ : Addr) = ad490 := (by injection e490); (first | simp only [add_plain] at hx490_0 | simp only [add_at] at hx490_0 | simp only [Addr.add, Nat.zero_add] at hx490_0 | skip); replace p490 := eq_true p490; replace q490 := eq_true q490)))
              go_roundg kj14
              case measure => have := HK1.out; have := HK2.out; have := HK3.out; have := HJ14.out; omega
              case rel => exact ⟨(y489), (wrap64 (x8_3 + 1)), rB, H', ⟨by have := HK1.out; have := HK2.out; have := HK3.out; have := HJ14.out; omega⟩, ⟨upR HO_5.out⟩, (aB HB)⟩
            ·replace H := iF (by decide) H
             replace H := zN H
             obtain ⟨c40b0, H⟩ := H
             replace H := zN H
             obtain ⟨c41b0, H⟩ := H
             replace H := ifI H
             rcases H with ⟨H, -, c42b0, c42b1⟩ | ⟨H, c42, c42b0, c42b1⟩
             ·replace H := zN H
              obtain ⟨c43b0, H⟩ := H
              replace H := zN H
              obtain ⟨c44b0, H⟩ := H
              replace H := ifD H
              rcases H with ⟨H, -, c45b0⟩ | ⟨H, -, c45b0⟩
              ·obtain ⟨y495, hy495⟩ : ∃ y_ : List Int, y_ = (x5_3.set (((rd_T32 l0 x8_3).f0) : Int).toNat (wrap64 (x7_2 + 1))) := ⟨_, rfl⟩
               rw [← hy495] at H
               have Ny495 := Aside0.mk hy495
               clear hy495
               have H' := Aside0.mk H
               clear H
               obtain ⟨Ao47, co47, eo47⟩ := Kd.R_slice HO_5.out
               subst eo47
               obtain ⟨ad493, e493, hx493_0, p493, q493⟩ := zr HO_5 ((rd_T32 l0 x8_3).f1)
               cases e493
               obtain ⟨ad494, e494, hx494_0, p494, q494⟩ := zr HO_5 ((rd_T32 l0 x8_3).f0)
               obtain rfl : ad493 = ad494 := (by injection e494)
               have p46 : 0 ≤ (((rd_T32 l0 x8_3).f0) : Int) := of_decide_eq_true asmB
               have q46 : (((rd_T32 l0 x8_3).f0) : Int) < ((x5_3.length : Int) : Int) := of_decide_eq_true asmB
               obtain ⟨go46, co46, eo46, gb46, gl46, cl46, HG46⟩ := Kd.R_form HO_5.out (by omega)
               (first | cases eo46 | (injection eo46 with ea_ en_ ec_; (first | subst ea_ | (injection ea_ with ea_; subst ea_)); subst ec_; clear en_))
               have GB46 := Aside0.mk gb46
               have GG46 := Aside0.mk HG46
               clear gb46 gl46 HG46
               (first | simp only [add_plain] at hx493_0 | skip)
               (first | simp only [add_plain] at hx494_0 | skip)
               obtain ⟨hx46_0, hf46_0⟩ := Kd.R_celln 0 HO_5.out (((rd_T32 l0 x8_3).f0) : Int) p46 q46
               replace p46 := eq_true p46
               replace q46 := eq_true q46
               have HP48 := Kd.R_putg HO_5.out (((rd_T32 l0 x8_3).f0) : Int) (wrap64 (x7_2 + 1))
               go_wp2_with (first | ((with_reducible refine gate_store (t := 3) (p := 80) rfl ?_); (try (rw [drewN_self wc]; generalize hq_ : World.drewN wc _ = wc; replace HO_5 := Aside0.mk (Kd.R_at hq_ HO_5.out); replace HB := Aside0.mk (below_at hq_ HB.out); clear hq_; (try (obtain ⟨hyq_, hzq_⟩ := Kd.R_celln 0 HO_5.out (((rd_T32 l0 x8_3).f0) : Int) (of_decide_eq_true asmB) (of_decide_eq_true asmB))); (try (have HP48 := Kd.R_putg HO_5.out (((rd_T32 l0 x8_3).f0) : Int) (wrap64 (x7_2 + 1)))))); refine store_event (t := 3) (p := 80) (v := ?vo_w49) (w1 := (wc.setCell ⟨go46, (((rd_T32 l0 x8_3).f0) : Int).toNat, none⟩ (.int .i64 (wrap64 (x7_2 + 1))))) ?hg ?ho ?hn ?hr ?_; (case ho => rfl); (case hg => rfl); (case hn => rfl); (case hr => first | (go_simp; done) | (go_simp; rfl)); intro w49 hw; have hg : wc.grownBy w49 (some go46) := (by rw [hw]; exact HP48.2); have hp_ : Kd.R (Kd.int .i64) 3 w49 w.heap.size (fun _ => True) (.slice (some ⟨go46, 0, none⟩) x5_3.length co47) y495 := (by rw [hw, Ny495.out]; exact HP48.1); clear HP48; replace HO_5 := Aside0.mk (hp_); replace HB := Aside0.mk ((by rw [hw]; exact below_set (HB.out) GB46.out : Below w.heap.size w w49)); clear hg hw hp_))
               repeat (go_quiet (first | ((with_reducible refine gate_store (t := 3) (p := 80) rfl ?_); (try (rw [drewN_self wc]; generalize hq_ : World.drewN wc _ = wc; replace HO_5 := Aside0.mk (Kd.R_at hq_ HO_5.out); replace HB := Aside0.mk (below_at hq_ HB.out); clear hq_; (try (obtain ⟨hyq_, hzq_⟩ := Kd.R_celln 0 HO_5.out (((rd_T32 l0 x8_3).f0) : Int) (of_decide_eq_true asmB) (of_decide_eq_true asmB))); (try (have HP48 := Kd.R_putg HO_5.out (((rd_T32 l0 x8_3).f0) : Int) (wrap64 (x7_2 + 1)))))); refine store_event (t := 3) (p := 80) (v := ?vo_w49) (w1 := (wc.setCell ⟨go46, (((rd_T32 l0 x8_3).f0) : Int).toNat, none⟩ (.int .i64 (wrap64 (x7_2 + 1))))) ?hg ?ho ?hn ?hr ?_; (case ho => rfl); (case hg => rfl); (case hn => rfl); (case hr => first | (go_simp; done) | (go_simp; rfl)); intro w49 hw; have hg : wc.grownBy w49 (some go46) := (by rw [hw]; exact HP48.2); have hp_ : Kd.R (Kd.int .i64) 3 w49 w.heap.size (fun _ => True) (.slice (some ⟨go46, 0, none⟩) x5_3.length co47) y495 := (by rw [hw, Ny495.out]; exact HP48.1); clear HP48; replace HO_5 := Aside0.mk (hp_); replace HB := Aside0.mk ((by rw [hw]; exact below_set (HB.out) GB46.out : Below w.heap.size w w49)); clear hg hw hp_)); try go_wp2_with (first | ((with_reducible refine gate_store (t := 3) (p := 80) rfl ?_); (try (rw [drewN_self wc]; generalize hq_ : World.drewN wc _ = wc; replace HO_5 := Aside0.mk (Kd.R_at hq_ HO_5.out); replace HB := Aside0.mk (below_at hq_ HB.out); clear hq_; (try (obtain ⟨hyq_, hzq_⟩ := Kd.R_celln 0 HO_5.out (((rd_T32 l0 x8_3).f0) : Int) (of_decide_eq_true asmB) (of_decide_eq_true asmB))); (try (have HP48 := Kd.R_putg HO_5.out (((rd_T32 l0 x8_3).f0) : Int) (wrap64 (x7_2 + 1)))))); refine store_event (t := 3) (p := 80) (v := ?vo_w49) (w1 := (wc.setCell ⟨go46, (((rd_T32 l0 x8_3).f0) : Int).toNat, none⟩ (.int .i64 (wrap64 (x7_2 + 1))))) ?hg ?ho ?hn ?hr ?_; (case ho => rfl); (case hg => rfl); (case hn => rfl); (case hr => first | (go_simp; done) | (go_simp; rfl)); intro w49 hw; have hg : wc.grownBy w49 (some go46) := (by rw [hw]; exact HP48.2); have hp_ : Kd.R (Kd.int .i64) 3 w49 w.heap.size (fun _ => True) (.slice (some ⟨go46, 0, none⟩) x5_3.length co47) y495 := (by rw [hw, Ny495.out]; exact HP48.1); clear HP48; replace HO_5 := Aside0.mk (hp_); replace HB := Aside0.mk ((by rw [hw]; exact below_set (HB.out) GB46.out : Below w.heap.size w w49)); clear hg hw hp_)))
               go_roundg kj14
               case measure => have := HK1.out; have := HK2.out; have := HK3.out; have := HJ14.out; omega
               case rel => exact ⟨(y495), (wrap64 (x8_3 + 1)), rB, H', ⟨by have := HK1.out; have := HK2.out; have := HK3.out; have := HJ14.out; omega⟩, ⟨upR HO_5.out⟩, (aB HB)⟩
              ·have H' := Aside0.mk H
               clear H
               obtain ⟨Ao50, co50, eo50⟩ := Kd.R_slice HO_5.out
               subst eo50
               obtain ⟨ad493, e493, hx493_0, p493, q493⟩ := zr HO_5 ((rd_T32 l0 x8_3).f1)
               cases e493
               obtain ⟨ad494, e494, hx494_0, p494, q494⟩ := zr HO_5 ((rd_T32 l0 x8_3).f0)
               obtain rfl : ad493 = ad494 := (by injection e494)
               go_wp2
               repeat (go_quiet (fail); try go_wp2)
               go_roundg kj14
               case measure => have := HK1.out; have := HK2.out; have := HK3.out; have := HJ14.out; omega
               case rel => exact ⟨(x5_3), (wrap64 (x8_3 + 1)), rB, H', ⟨by have := HK1.out; have := HK2.out; have := HK3.out; have := HJ14.out; omega⟩, ⟨upR HO_5.out⟩, (aB HB)⟩
             ·have H' := Aside0.mk H
              clear H
              obtain ⟨Ao51, co51, eo51⟩ := Kd.R_slice HO_5.out
              subst eo51
              obtain ⟨ad493, e493, hx493_0, p493, q493⟩ := zr HO_5 ((rd_T32 l0 x8_3).f1)
              cases e493
              go_wp2
              repeat (go_quiet (fail); try go_wp2)
              go_roundg kj14
              case measure => have := HK1.out; have := HK2.out; have := HK3.out; have := HJ14.out; omega
              case rel => exact ⟨(x5_3), (wrap64 (x8_3 + 1)), rB, H', ⟨by have := HK1.out; have := HK2.out; have := HK3.out; have := HJ14.out; omega⟩, ⟨upR HO_5.out⟩, (aB HB)⟩
         ·have H' := Aside0.mk H
          clear H
          go_wp2
          repeat (go_quiet (fail); try go_wp2)
          go_roundg k3
          case measure => have := HK1.out; have := HK2.out; have := HK3.out; omega
          case rel => exact ⟨(x5_3), (wrap64 (x7_2 + 1)), rB, H', ⟨by have := HK1.out; have := HK2.out; have := HK3.out; omega⟩, ⟨upR HO_5.out⟩, (aB HB)⟩
      ·obtain rfl := Option.some.inj H
       go_wp2
       repeat (go_quiet (fail); try go_wp2)
       go_ret
       exact ⟨_, eB, upR HO_5.out, (bW HB)⟩

/-! ### spec_StepsFrom: function 7 -/
def spec_StepsFrom.f (k : Nat) (l0 : List (S32)) (l1 : List Int) : Option (List Int × Bool) := (spec_l17Asked.f k l0 l1).bind fun t496 => (if t496 = true then ((spec_l17Steps.f k l0 l1).bind fun t497 => (some (t497, true))) else (some ((([] : List Int)), false)))
theorem spec_StepsFrom.mono : ∀ a0 a1 k, LeO (spec_StepsFrom.f k a0 a1) (spec_StepsFrom.f (k + 1) a0 a1) := by
 intro a0 a1 k
 unfold spec_StepsFrom.f
 repeat' with_reducible first | apply spec_l17Asked.mono | apply spec_l17Steps.mono | exact LeO.refl _ | exact LeO.none _ | refine LeO.ite ?_ ?_ | refine LeO.bind ?_ (fun _ => ?_)
set_option maxHeartbeats 8000000 in
set_option maxRecDepth 100000 in
theorem spec_StepsFrom.calls (k : Nat) (A0 : Option Addr) (c0 : Nat) (l0 : List (S32)) (A1 : Option Addr) (c1 : Nat) (l1 : List Int) (r1 : List Int) (r2 : Bool) (w : World) (hr0 : Kd.C k32 w A0 l0.length l0) (hc0 : l0.length ≤ c0) (hr1 : Kd.C (Kd.int .i64) w A1 l1.length l1) (hc1 : l1.length ≤ c1) (h : spec_StepsFrom.f k l0 l1 = some (r1, r2)) :
 Calls Tryz.prog 7 #[.slice A0 l0.length c0, .slice A1 l1.length c1] w fun e w' => ∃ v0_ : Value, e = .returned (.tuple #[v0_, .bool r2]) ∧ Kd.R (Kd.int .i64) 3 w' w.heap.size (fun _ => True) v0_ r1 ∧ Below w.heap.size w w' := by
 have HR0 := Aside0.mk hr0
 have HC0 := Aside0.mk hc0
 clear hr0 hc0
 have HR1 := Aside0.mk hr1
 have HC1 := Aside0.mk hc1
 clear hr1 hc1
 have HB := Aside0.mk (Below.refl w.heap.size w)
 have H := h
 clear h
 unfold spec_StepsFrom.f at H
 replace H := bA H
 obtain ⟨t496, A3, H⟩ := H
 rcases Bool.eq_false_or_eq_true t496 with rfl | rfl
 ·replace H := iT rfl H
  replace H := bA H
  obtain ⟨t497, A5, H⟩ := H
  simp only [Option.some.injEq, Prod.mk.injEq] at H
  obtain ⟨rfl, rfl⟩ := H
  go_enter Tryz.func7, Tryz.ntmps7
  go_wp2_with (first | ((with_reducible refine gC 24 ?_); refine lA (some 8) Tryz.func24 (spec_l17Asked.calls k _ _ l0 _ _ l1 true _ ?side1 ?side2 ?side3 ?side4 A3.out) ?_; (case side1 => exact zC HR0); (case side2 => exact HC0.out); (case side3 => exact zC HR1); (case side4 => exact HC1.out); intro w6 hb; replace HB := uB HB hb; (try clear hb); (try clear hk)) | ((with_reducible refine gC 25 ?_); refine zG (some 13) Tryz.func25 (spec_l17Steps.calls k _ _ l0 _ _ l1 t497 _ (zCB HR0 HB) (HC0.out) (zCB HR1 HB) (HC1.out) A5.out) ?_; rintro e w7 ⟨v498, rfl, ho0, hb⟩; refine ⟨_, rfl, ?_⟩; have HO499 := Aside0.mk (Kd.R_lower ho0 (below_size (bW HB))); replace HB := uB HB hb; (try clear hb); (try clear hk); (try clear ho0)))
  go_ret2
  exact ⟨_, eB, upR HO499.out, (bW HB)⟩
 ·replace H := iF (by decide) H
  obtain ⟨y500, hy500⟩ : ∃ y_ : List Int, y_ = (([] : List Int)) := ⟨_, rfl⟩
  rw [← hy500] at H
  have Ny500 := Aside0.mk hy500
  clear hy500
  simp only [Option.some.injEq, Prod.mk.injEq] at H
  obtain ⟨rfl, rfl⟩ := H
  go_enter Tryz.func7, Tryz.ntmps7
  go_wp2_with (first | ((with_reducible refine gC 24 ?_); refine lA (some 8) Tryz.func24 (spec_l17Asked.calls k _ _ l0 _ _ l1 false _ ?side1 ?side2 ?side3 ?side4 A3.out) ?_; (case side1 => exact zC HR0); (case side2 => exact HC0.out); (case side3 => exact zC HR1); (case side4 => exact HC1.out); intro w8 hb; replace HB := uB HB hb; (try clear hb); (try clear hk)) | ((with_reducible refine gate_dst (N := 10) rfl ?_); refine Kd.R_lit (Kd.int .i64) _ 3 ?hg (N := 10) ?hd (xs := ([] : List Int)) (inner := []) (ok := fun _ => True) (okp := fun _ => True) ?hr ?hp (fun _ hk => hk) trivial (Below.refl _ _) (Nat.le_refl _) (by simp) ?_; (case hd => rfl); (case hg => rfl); (case hr => first | (go_simp; done) | (go_simp; rfl)); (case hp => exact (Reps.none _ _)); intro v501 w9 ho10 hb hg_ hnew_; clear hg_ hnew_; (first | rw [← Ny500.out] at ho10 | (simp only [Int.reduceToNat] at ho10; rw [← Ny500.out] at ho10)); have HO502 := Aside0.mk (Kd.R_lower ho10 (below_size (bW HB))); replace HB := uB HB hb; clear hb ho10))
  go_ret2
  exact ⟨_, eB, upR HO502.out, (bW HB)⟩

end Go.Proofs.YtmfidodcpbochaaGreat.QFnSteps
