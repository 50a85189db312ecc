/- Contracts of Go functions that FnSteps reaches: the call computes what the plain function says. No condition. -/
import Derived.Test.YtmfidodcpbochaaGreatQFnStepsx0
import Derived.Test.YtmfidodcpbochaaGreatQFnStepsx1
import Derived.Test.YtmfidodcpbochaaGreatQFnStepsx2
import Derived.Test.YtmfidodcpbochaaGreatQFnStepsx3
namespace Go.Proofs.YtmfidodcpbochaaGreat.QFnSteps
open Go.RowKit Go.Proofs.YtmfidodcpbochaaGreatW.PrintWords Go.Proofs.YtmfidodcpbochaaGreatW.PrintLast Go.Proofs.YtmfidodcpbochaaGreatW.PrintMore
attribute [local go_sem] max2_int min2_int max_two min_two max_three min_three max_four min_four   -- for this text's walks alone
set_option linter.unusedVariables false
set_option linter.unusedSimpArgs false

/-! ### spec_l1Cur_cave: function 58 -/
mutual
def spec_l1Cur_cave.l0 : Nat → List (S32) → Int → List (S92) → Int → List Int → Int → Int → Option ((List (S32)) × Int × Int)
 | 0, _, _, _, _, _, _, _ => none
 | k + 1, x3, x4, x5, x6, x1000, x1001, x1002 => if x6 < x4 then ((spec_l1Cur_pick.f x1000 x1001 x1002 x6).bind fun bt228 => ((spec_l1Cur_among.f x1000 bt228.2.1 bt228.2.2 (([10, 50, 100, 120, 250] : List Int))).bind fun bt234 => ((spec_l1Cur_among.f x1000 bt234.2.1 bt234.2.2 (([0, 45, 90, 135, 180, 270, 300] : List Int))).bind fun bt240 => ((spec_l1Cur_among.f x1000 bt240.2.1 bt240.2.2 (([0, 0, (-10), (-30), 20, (-90)] : List Int))).bind fun bt246 => (if 0 ≤ bt228.1 then (if bt228.1 < (x5.length : Int) then ((spec_l4Shift.f bt228.1 x6 bt234.1 bt240.1 bt246.1).bind fun bt251 => ((spec_l4Plus.f ((rd_T92 x5 bt228.1).f0) ((rd_T92 x5 bt228.1).f1) ((rd_T92 x5 bt228.1).f2) bt251.1 bt251.2.1 bt251.2.2 1).bind fun bt254 => (if x5.length < 5864062014805 then ((some (x5 ++ [(⟨bt254.1, bt254.2.1, bt254.2.2⟩ : S92)] : List (S92))).bind fun y257 => ((spec_l1Cur_one.f x1000 bt246.2.1 bt246.2.2 4).bind fun bt260 => (if bt260.1 = true then ((spec_l4Reverse.f bt228.1 x6 bt234.1 bt240.1 bt246.1).bind fun bt263 => (if x3.length < 3518437208883 then (spec_l1Cur_cave.l0 k (x3 ++ [(⟨bt263.1, bt263.2.1, bt263.2.2.1, bt263.2.2.2.1, bt263.2.2.2.2⟩ : S32)]) x4 y257 (wrap64 (x6 + 1)) x1000 bt260.2.1 bt260.2.2) else (none))) else (if x3.length < 3518437208883 then (spec_l1Cur_cave.l0 k (x3 ++ [(⟨bt228.1, x6, bt234.1, bt240.1, bt246.1⟩ : S32)]) x4 y257 (wrap64 (x6 + 1)) x1000 bt260.2.1 bt260.2.2) else (none))))) else (none)))) else (none)) else (none)))))) else ((spec_l1Cur_pick.f x1000 x1001 x1002 4).bind fun bt274 => (spec_l1Cur_cave.l1 k x3 x4 x5 bt274.1 x1000 bt274.2.1 bt274.2.2))
def spec_l1Cur_cave.l1 : Nat → List (S32) → Int → List (S92) → Int → List Int → Int → Int → Option ((List (S32)) × Int × Int)
 | 0, _, _, _, _, _, _, _ => none
 | k + 1, x3, x4, x5, x8, x1000, x1001, x1002 => if x8 > 0 then ((spec_l1Cur_pick.f x1000 x1001 x1002 x4).bind fun bt277 => ((spec_l1Cur_pick.f x1000 bt277.2.1 bt277.2.2 x4).bind fun bt280 => (if 0 ≤ bt280.1 then (if bt280.1 < (x5.length : Int) then (if 0 ≤ bt277.1 then (if bt277.1 < (x5.length : Int) then ((spec_l4Plus.f ((rd_T92 x5 bt280.1).f0) ((rd_T92 x5 bt280.1).f1) ((rd_T92 x5 bt280.1).f2) ((rd_T92 x5 bt277.1).f0) ((rd_T92 x5 bt277.1).f1) ((rd_T92 x5 bt277.1).f2) (-1)).bind fun bt285 => ((spec_LengthOf.f k bt285.1 bt285.2.1 0).bind fun bt289 => ((spec_LengthOf.f k bt285.1 bt285.2.1 bt285.2.2).bind fun bt291 => (if bt277.1 = bt280.1 then (spec_l1Cur_cave.j2 k x3 x4 x5 x8 bt277.1 bt280.1 bt289.1 bt291.1 true x1000 bt280.2.1 bt280.2.2 bt285.1 bt285.2.1 bt285.2.2) else ((spec_l1In.f (wrap64 (bt291.1 + 3)) 4 500).bind fun t293 => (spec_l1Cur_cave.j2 k x3 x4 x5 x8 bt277.1 bt280.1 bt289.1 bt291.1 (!t293) x1000 bt280.2.1 bt280.2.2 bt285.1 bt285.2.1 bt285.2.2)))))) else (none)) else (none)) else (none)) else (none)))) else ((spec_l1Cur_pick.f x1000 x1001 x1002 24).bind fun bt307 => (if bt307.1 = 0 then ((spec_l1Cur_leg.f k x1000 bt307.2.1 bt307.2.2).bind fun bt310 => (if 0 < (x3.length : Int) then (some ((x3.set (0 : Int).toNat (⟨bt310.1, bt310.2.1, bt310.2.2.1, bt310.2.2.2.1, bt310.2.2.2.2.1⟩ : S32)), bt310.2.2.2.2.2.1, bt310.2.2.2.2.2.2)) else (none))) else (if bt307.1 = 1 then ((spec_l1Cur_leg.f k x1000 bt307.2.1 bt307.2.2).bind fun bt318 => (if x3.length < 3518437208883 then (some ((x3 ++ [(⟨bt318.1, bt318.2.1, bt318.2.2.1, bt318.2.2.2.1, bt318.2.2.2.2.1⟩ : S32)]), bt318.2.2.2.2.2.1, bt318.2.2.2.2.2.2)) else (none))) else (if bt307.1 = 2 then ((some (([] : List (S32)) : List (S32))).bind fun y328 => (if 1 ≤ (x3.length : Int) then ((some (x3.drop 1 : List (S32))).bind fun y331 => (if y328.length + y331.length < 3518437208883 then (some ((y328 ++ y331), bt307.2.1, bt307.2.2)) else (none))) else (none))) else (some (x3, bt307.2.1, bt307.2.2))))))
def spec_l1Cur_cave.j2 : Nat → List (S32) → Int → List (S92) → Int → Int → Int → Int → Int → Bool → List Int → Int → Int → Int → Int → Int → Option ((List (S32)) × Int × Int)
 | 0, _, _, _, _, _, _, _, _, _, _, _, _, _, _, _ => none
 | k + 1, x3, x4, x5, x8, x9, x10, x12, x14, x111, x1000, x1001, x1002, x289000, x289001, x289002 => if x111 = true then (spec_l1Cur_cave.l1 k x3 x4 x5 (wrap64 (x8 - 1)) x1000 x1001 x1002) else ((spec_BearingTo.f k x289000 x289001).bind fun bt294 => ((spec_SlopeTo.f k x12 x289002).bind fun bt296 => ((spec_l1Cur_pick.f x1000 x1001 x1002 4).bind fun bt298 => ((spec_l1Cur_pick.f x1000 bt298.2.1 bt298.2.2 3).bind fun bt301 => (if x3.length < 3518437208883 then (spec_l1Cur_cave.l1 k (x3 ++ [(⟨x9, x10, wrap64 (x14 + bt298.1), Int.tmod (wrap64 (bt294.1 + bt301.1)) 360, bt296.1⟩ : S32)]) x4 x5 (wrap64 (x8 - 1)) x1000 bt301.2.1 bt301.2.2) else (none))))))
end
def spec_l1Cur_cave.f (k : Nat) (s0_0 : List Int) (s0_1 s0_2 : Int) : Option ((List (S32)) × Int × Int) := (spec_l1Cur_pick.f s0_0 s0_1 s0_2 5).bind fun bt222 => (spec_l1Cur_cave.l0 k (([] : List (S32))) (wrap64 (2 + bt222.1)) (([(⟨0, 0, 0⟩ : S92)] : List (S92))) 1 s0_0 bt222.2.1 bt222.2.2)
theorem spec_l1Cur_cave.mono_l : ∀ k, (∀ y0 y1 y2 y3 y4 y5 y6, LeO (spec_l1Cur_cave.l0 k y0 y1 y2 y3 y4 y5 y6) (spec_l1Cur_cave.l0 (k + 1) y0 y1 y2 y3 y4 y5 y6)) ∧ (∀ y0 y1 y2 y3 y4 y5 y6, LeO (spec_l1Cur_cave.l1 k y0 y1 y2 y3 y4 y5 y6) (spec_l1Cur_cave.l1 (k + 1) y0 y1 y2 y3 y4 y5 y6)) ∧ (∀ y0 y1 y2 y3 y4 y5 y6 y7 y8 y9 y10 y11 y12 y13 y14, LeO (spec_l1Cur_cave.j2 k y0 y1 y2 y3 y4 y5 y6 y7 y8 y9 y10 y11 y12 y13 y14) (spec_l1Cur_cave.j2 (k + 1) y0 y1 y2 y3 y4 y5 y6 y7 y8 y9 y10 y11 y12 y13 y14))
 | 0 => ⟨fun _ _ _ _ _ _ _ r h => by simp [spec_l1Cur_cave.l0] at h, fun _ _ _ _ _ _ _ r h => by simp [spec_l1Cur_cave.l1] at h, fun _ _ _ _ _ _ _ _ _ _ _ _ _ _ _ r h => by simp [spec_l1Cur_cave.j2] at h⟩
 | k + 1 => by
  obtain ⟨ih0, ih1, ih2⟩ := spec_l1Cur_cave.mono_l k
  refine ⟨?_, ?_, ?_⟩
  ·intro y0 y1 y2 y3 y4 y5 y6
   unfold spec_l1Cur_cave.l0
   repeat' with_reducible first | apply ih0 | apply ih1 | apply ih2 | apply spec_BearingTo.mono | apply spec_LengthOf.mono | apply spec_SlopeTo.mono | apply spec_l1Cur_leg.mono | exact LeO.refl _ | exact LeO.none _ | refine LeO.ite ?_ ?_ | refine LeO.bind ?_ (fun _ => ?_)
  ·intro y0 y1 y2 y3 y4 y5 y6
   unfold spec_l1Cur_cave.l1
   repeat' with_reducible first | apply ih0 | apply ih1 | apply ih2 | apply spec_BearingTo.mono | apply spec_LengthOf.mono | apply spec_SlopeTo.mono | apply spec_l1Cur_leg.mono | exact LeO.refl _ | exact LeO.none _ | refine LeO.ite ?_ ?_ | refine LeO.bind ?_ (fun _ => ?_)
  ·intro y0 y1 y2 y3 y4 y5 y6 y7 y8 y9 y10 y11 y12 y13 y14
   unfold spec_l1Cur_cave.j2
   repeat' with_reducible first | apply ih0 | apply ih1 | apply ih2 | apply spec_BearingTo.mono | apply spec_LengthOf.mono | apply spec_SlopeTo.mono | apply spec_l1Cur_leg.mono | exact LeO.refl _ | exact LeO.none _ | refine LeO.ite ?_ ?_ | refine LeO.bind ?_ (fun _ => ?_)
theorem spec_l1Cur_cave.mono : ∀ a0 a1 a2 k, LeO (spec_l1Cur_cave.f k a0 a1 a2) (spec_l1Cur_cave.f (k + 1) a0 a1 a2) := by
 intro a0 a1 a2 k
 obtain ⟨ih0, ih1, ih2⟩ := spec_l1Cur_cave.mono_l k
 unfold spec_l1Cur_cave.f
 repeat' with_reducible first | apply ih0 | apply ih1 | apply ih2 | apply spec_BearingTo.mono | apply spec_LengthOf.mono | apply spec_SlopeTo.mono | apply spec_l1Cur_leg.mono | exact LeO.refl _ | exact LeO.none _ | refine LeO.ite ?_ ?_ | refine LeO.bind ?_ (fun _ => ?_)
def spec_l1Cur_cave.T8 : Bool × List (List Nat × List Nat) := (true, [([], []), ([], []), ([], []), ([2], [2]), ([1, 3], [1, 3]), ([4], [4]), ([], []), ([6], [6]), ([5, 7, 7], [5, 7]), ([8], [8]), ([0, 9, 8], [0, 9]), ([10, 10, 0, 1, 2, 3, 4, 5, 6, 7, 8, 9, 10], [0, 1, 10])])
def spec_l1Cur_cave.B8 : List Nat := [0, 0, 0, 4, 14, 30, 0, 64, 254, 510, 1023, 2047]
theorem spec_l1Cur_cave.tab8 : rtab .any (opsOf Tryz.f58 8) = spec_l1Cur_cave.T8 := by kernel_rfl
theorem spec_l1Cur_cave.bits8 : waitsOk spec_l1Cur_cave.T8.2 spec_l1Cur_cave.B8 = true := by kernel_rfl
def spec_l1Cur_cave.T16 : Bool × List (List Nat × List Nat) := (true, [([], []), ([], []), ([0, 1], [0, 1]), ([2], [2]), ([], []), ([], []), ([4, 5], [4, 5]), ([6], [6]), ([3, 7], [3, 7]), ([], []), ([9, 8, 8, 0, 1, 2, 3, 4, 5, 6, 7, 8, 9], [8, 9])])
def spec_l1Cur_cave.B16 : List Nat := [0, 0, 3, 7, 0, 0, 48, 112, 255, 0, 1023]
theorem spec_l1Cur_cave.tab16 : rtab .any (opsOf Tryz.f58 16) = spec_l1Cur_cave.T16 := by kernel_rfl
theorem spec_l1Cur_cave.bits16 : waitsOk spec_l1Cur_cave.T16.2 spec_l1Cur_cave.B16 = true := by kernel_rfl
set_option maxHeartbeats 8000000 in
set_option maxRecDepth 100000 in
theorem spec_l1Cur_cave.calls (k g : Nat) (s0_0 : List Int) (s0_1 s0_2 : Int) (r1 : List (S32)) (r2 r3 : Int) (w0 w : World) (hI : IsS54 w0 w g s0_0 s0_1 s0_2) (hB : Below w0.heap.size w0 w) (h : spec_l1Cur_cave.f k s0_0 s0_1 s0_2 = some (r1, r2, r3)) :
 Calls Tryz.prog 58 #[.pointer (some ⟨g, 0, none⟩)] w fun e w' => ∃ v0_ : Value, e = .returned (v0_) ∧ Kd.R k32 32 w' w.heap.size (fun _ => True) v0_ r1 ∧ IsS54 w0 w' g s0_0 r2 r3 ∧ Below w0.heap.size w0 w' ∧ KeepBut w w' g none := by
 have hu92 := Tryz.underlying92
 have hu32 := Tryz.underlying32
 have HI0 := Aside0.mk hI
 have HK := Aside0.mk (KeepBut.refl w g none)
 have HL := Aside0.mk hB.size
 clear hI
 have HW0 := Aside0.mk hB.size
 have HB := Aside0.mk hB
 clear hB
 have H := h
 clear h
 unfold spec_l1Cur_cave.f at H
 obtain ⟨y219, hy219⟩ : ∃ y_ : List (S32), y_ = (([] : List (S32))) := ⟨_, rfl⟩
 rw [← hy219] at H
 have Ny219 := Aside0.mk hy219
 clear hy219
 replace H := Option.bind_eq_some_iff.mp H
 obtain ⟨⟨t222, t223, t224⟩, A20, H⟩ := H
 (try dsimp only at H)
 have A2 := Aside0.mk A20
 clear A20
 obtain ⟨y225, hy225⟩ : ∃ y_ : List (S92), y_ = (([(⟨0, 0, 0⟩ : S92)] : List (S92))) := ⟨_, rfl⟩
 rw [← hy225] at H
 have Ny225 := Aside0.mk hy225
 clear hy225
 have H' := Aside0.mk H
 clear H
 go_enter Tryz.func58, Tryz.ntmps58
 go_wp2_with (first | ((with_reducible refine gate_dst (N := 20) rfl ?_); refine Kd.R_lit k32 _ 32 ?hg (N := 20) ?hd (xs := ([] : List (S32))) (inner := []) (ok := fun _ => True) (okp := fun _ => True) ?hr ?hp (fun _ hk => hk) trivial (Below.refl _ _) (Nat.le_refl _) (by simp) ?_; (case hd => rfl); (case hg => rfl); (case hr => first | (go_simp; done) | (go_simp; rfl)); (case hp => exact (Reps.none _ _)); intro v220 w3 ho4 hb hg_ hnew_; clear hg_ hnew_; (first | rw [← Ny219.out] at ho4 | (simp only [Int.reduceToNat] at ho4; rw [← Ny219.out] at ho4)); have HO221 := Aside0.mk (Kd.R_lower ho4 (keep_size (w := w) (g := g) (row := none) (zK HK))); replace HK := zKK HK (KeepBut.of_below hb g none); replace HB := Aside0.mk (below_step (zB HB HI0) hb); replace HI0 := Aside0.mk (IsS54.below (keepF_ HI0 <| zI HI0) hb); clear hb ho4) | ((with_reducible refine gC 60 ?_); refine zG (some 22) Tryz.func60 (spec_l1Cur_pick.calls g s0_0 s0_1 s0_2 5 t222 t223 t224 w0 _ (zI HI0) (zB HB HI0) A2.out) ?_; rintro e w5 ⟨rfl, hi, hb, hk⟩; refine ⟨_, rfl, ?_⟩; replace HO221 := zO s0_1 s0_2 HI0 HO221 hk; replace HK := zKK HK hk; replace HB := Aside0.mk (hb); replace HI0 := Aside0.mk (hi); (try clear hb); (try clear hk); (try clear hi)) | ((with_reducible refine gate_dst (N := 25) rfl ?_); refine Kd.R_lit k92 _ 92 ?hg (N := 25) ?hd (xs := ([(⟨0, 0, 0⟩ : S92)] : List (S92))) (inner := [.int .i64 0, .int .i64 0, .int .i64 0]) (ok := fun _ => True) (okp := fun _ => True) ?hr ?hp (fun _ hk => hk) trivial (Below.refl _ _) (Nat.le_refl _) (by simp) ?_; (case hd => rfl); (case hg => rfl); (case hr => first | (go_simp; done) | (go_simp; rfl)); (case hp => exact (Reps.c3 (show Kd.M k92 _ _ _ (⟨0, 0, 0⟩ : S92) [.int .i64 0, .int .i64 0, .int .i64 0] from (k92_mkM _ _ _ (⟨0, 0, 0⟩ : S92) )) (Reps.none _ _))); intro v226 w6 ho7 hb hg_ hnew_; clear hg_ hnew_; (first | rw [← Ny225.out] at ho7 | (simp only [Int.reduceToNat] at ho7; rw [← Ny225.out] at ho7)); have HO227 := Aside0.mk (Kd.R_lower ho7 (keep_size (w := w) (g := g) (row := none) (zK HK))); replace HO221 := uR HO221 hb; replace HK := zKK HK (KeepBut.of_below hb g none); replace HB := Aside0.mk (below_step (zB HB HI0) hb); replace HI0 := Aside0.mk (IsS54.below (keepF_ HI0 <| zI HI0) hb); clear hb ho7))
 (try simp only [Act.put, List.setIfInBounds_toArray, List.set_cons_zero, List.set_cons_succ])
 go_loopg [3, 5, 6] k (fun kq v3 v5 v6 w' => ∃ (x3_1 : List (S32)) (x5_1 : List (S92)) (x6_1 x1001_1 x1002_1 : Int), v6 = .int .i64 x6_1 ∧ Aside0 (spec_l1Cur_cave.l0 kq x3_1 (wrap64 (2 + t222)) x5_1 x6_1 s0_0 x1001_1 x1002_1 = some (r1, r2, r3)) ∧ Aside0 (kq ≤ k) ∧ Aside0 (Kd.R k32 32 w' w.heap.size (fun _ => True) v3 x3_1) ∧ Aside0 (Kd.R k92 92 w' w.heap.size (fun _ => True) v5 x5_1) ∧ Aside0 (IsS54 w0 w' g s0_0 x1001_1 x1002_1) ∧ Aside0 (KeepBut w w' g none) ∧ Aside0 (Below w0.heap.size w0 w'))
 case atStart => exact ⟨(y219), (y225), (1), (t223), (t224), rB, H', ⟨Nat.le_refl _⟩, ⟨upR HO221.out⟩, ⟨upR HO227.out⟩, ⟨zI HI0⟩, ⟨zK HK⟩, ⟨zB HB HI0⟩⟩
 case round =>
  clear H'
  obtain ⟨x3_1, x5_1, x6_1, x1001_1, x1002_1, rfl, HA, HK1, HO_3, HO_5, HI0, HK, HB⟩ := hrel
  cases gk with
  | zero => exact absurd HA.out (by simp [spec_l1Cur_cave.l0])
  | succ k1 =>
   have H := HA.out
   clear HA
   simp only [spec_l1Cur_cave.l0] at H
   replace H := ifD H
   rcases H with ⟨H, -, c8b0⟩ | ⟨H, -, c8b0⟩
   ·replace H := Option.bind_eq_some_iff.mp H
    obtain ⟨⟨t228, t229, t230⟩, A90, H⟩ := H
    (try dsimp only at H)
    have A9 := Aside0.mk A90
    clear A90
    obtain ⟨y231, hy231⟩ : ∃ y_ : List Int, y_ = (([10, 50, 100, 120, 250] : List Int)) := ⟨_, rfl⟩
    rw [← hy231] at H
    have Ny231 := Aside0.mk hy231
    clear hy231
    replace H := Option.bind_eq_some_iff.mp H
    obtain ⟨⟨t234, t235, t236⟩, A100, H⟩ := H
    (try dsimp only at H)
    have A10 := Aside0.mk A100
    clear A100
    obtain ⟨y237, hy237⟩ : ∃ y_ : List Int, y_ = (([0, 45, 90, 135, 180, 270, 300] : List Int)) := ⟨_, rfl⟩
    rw [← hy237] at H
    have Ny237 := Aside0.mk hy237
    clear hy237
    replace H := Option.bind_eq_some_iff.mp H
    obtain ⟨⟨t240, t241, t242⟩, A110, H⟩ := H
    (try dsimp only at H)
    have A11 := Aside0.mk A110
    clear A110
    obtain ⟨y243, hy243⟩ : ∃ y_ : List Int, y_ = (([0, 0, (-10), (-30), 20, (-90)] : List Int)) := ⟨_, rfl⟩
    rw [← hy243] at H
    have Ny243 := Aside0.mk hy243
    clear hy243
    replace H := Option.bind_eq_some_iff.mp H
    obtain ⟨⟨t246, t247, t248⟩, A120, H⟩ := H
    (try dsimp only at H)
    have A12 := Aside0.mk A120
    clear A120
    replace H := zN H
    obtain ⟨c13b0, H⟩ := H
    replace H := zN H
    obtain ⟨c14b0, H⟩ := H
    replace H := Option.bind_eq_some_iff.mp H
    obtain ⟨⟨t251, t252, t253⟩, A150, H⟩ := H
    (try dsimp only at H)
    have A15 := Aside0.mk A150
    clear A150
    replace H := Option.bind_eq_some_iff.mp H
    obtain ⟨⟨t254, t255, t256⟩, A160, H⟩ := H
    (try dsimp only at H)
    have A16 := Aside0.mk A160
    clear A160
    replace H := zM H
    obtain ⟨c17, H⟩ := H
    have LMc17 := Aside0.mk c17
    clear c17
    replace H := zS H
    obtain ⟨y257, Ny257, H⟩ := H
    replace H := Option.bind_eq_some_iff.mp H
    obtain ⟨⟨t260, t261, t262⟩, A180, H⟩ := H
    (try dsimp only at H)
    have A18 := Aside0.mk A180
    clear A180
    rcases Bool.eq_false_or_eq_true t260 with rfl | rfl
    ·replace H := iT rfl H
     replace H := Option.bind_eq_some_iff.mp H
     obtain ⟨⟨t263, t264, t265, t266, t267⟩, A200, H⟩ := H
     (try dsimp only at H)
     have A20 := Aside0.mk A200
     clear A200
     replace H := zM H
     obtain ⟨c21, H⟩ := H
     have LMc21 := Aside0.mk c21
     clear c21
     obtain ⟨y268, hy268⟩ : ∃ y_ : List (S32), y_ = (x3_1 ++ [(⟨t263, t264, t265, t266, t267⟩ : S32)]) := ⟨_, rfl⟩
     rw [← hy268] at H
     have Ny268 := Aside0.mk hy268
     clear hy268
     have H' := Aside0.mk H
     clear H
     try go_wp2_with (first | ((with_reducible refine gC 60 ?_); refine zG (some 33) Tryz.func60 (spec_l1Cur_pick.calls g s0_0 x1001_1 x1002_1 x6_1 t228 t229 t230 w0 _ (zI HI0) (zB HB HI0) A9.out) ?_; rintro e w22 ⟨rfl, hi, hb, hk⟩; refine ⟨_, rfl, ?_⟩; replace HO_3 := zO x1001_1 x1002_1 HI0 HO_3 hk; replace HO_5 := zO x1001_1 x1002_1 HI0 HO_5 hk; replace HK := zKK HK hk; replace HB := Aside0.mk (hb); replace HI0 := Aside0.mk (hi); (try clear hb); (try clear hk); (try clear hi)) | ((with_reducible refine gate_dst (N := 36) rfl ?_); refine Kd.R_lit (Kd.int .i64) _ 3 ?hg (N := 36) ?hd (xs := ([10, 50, 100, 120, 250] : List Int)) (inner := [.int .i64 10, .int .i64 50, .int .i64 100, .int .i64 120, .int .i64 250]) (ok := fun _ => True) (okp := fun _ => True) ?hr ?hp (fun _ hk => hk) trivial (Below.refl _ _) (Nat.le_refl _) (by simp) ?_; (case hd => rfl); (case hg => rfl); (case hr => first | (go_simp; done) | (go_simp; rfl)); (case hp => exact zInts _); intro v232 w23 ho24 hb hg_ hnew_; clear hg_ hnew_; (first | rw [← Ny231.out] at ho24 | (simp only [Int.reduceToNat] at ho24; rw [← Ny231.out] at ho24)); have HO233 := Aside0.mk (Kd.R_lower ho24 (keep_size (w := w) (g := g) (row := none) (zK HK))); replace HO_3 := uR HO_3 hb; replace HO_5 := uR HO_5 hb; replace HK := zKK HK (KeepBut.of_below hb g none); replace HB := Aside0.mk (below_step (zB HB HI0) hb); replace HI0 := Aside0.mk (IsS54.below (keepF_ HI0 <| zI HI0) hb); clear hb ho24; obtain ⟨Ao25, co25, eo25⟩ := Kd.R_slice HO233.out; subst eo25) | ((with_reducible refine gC 61 ?_); refine zG (some 37) Tryz.func61 (spec_l1Cur_among.calls g s0_0 t229 t230 _ _ y231 t234 t235 t236 w0 _ (zI HI0) (zB HB HI0) (zCR HO233) ((Kd.R_reads' HO233.out).2.1) (far_slice (IsS54.own_ne HI0.out HO233.out (by decide))) A10.out) ?_; rintro e w26 ⟨rfl, hi, hb, hk⟩; refine ⟨_, rfl, ?_⟩; replace HO_3 := zO t229 t230 HI0 HO_3 hk; replace HO_5 := zO t229 t230 HI0 HO_5 hk; replace HO233 := zO t229 t230 HI0 HO233 hk; replace HK := zKK HK hk; replace HB := Aside0.mk (hb); replace HI0 := Aside0.mk (hi); (try clear hb); (try clear hk); (try clear hi)) | ((with_reducible refine gate_dst (N := 39) rfl ?_); refine Kd.R_lit (Kd.int .i64) _ 3 ?hg (N := 39) ?hd (xs := ([0, 45, 90, 135, 180, 270, 300] : List Int)) (inner := [.int .i64 0, .int .i64 45, .int .i64 90, .int .i64 135, .int .i64 180, .int .i64 270, .int .i64 300]) (ok := fun _ => True) (okp := fun _ => True) ?hr ?hp (fun _ hk => hk) trivial (Below.refl _ _) (Nat.le_refl _) (by simp) ?_; (case hd => rfl); (case hg => rfl); (case hr => first | (go_simp; done) | (go_simp; rfl)); (case hp => exact zInts _); intro v238 w27 ho28 hb hg_ hnew_; clear hg_ hnew_; (first | rw [← Ny237.out] at ho28 | (simp only [Int.reduceToNat] at ho28; rw [← Ny237.out] at ho28)); have HO239 := Aside0.mk (Kd.R_lower (Kd.R_new' ho28 (Kd.R_lt (upR HO233.out))) (keep_size (w := w) (g := g) (row := none) (zK HK))); replace HO_3 := uR HO_3 hb; replace HO_5 := uR HO_5 hb; replace HO233 := Aside0.mk (Kd.R_elder' (upR HO233.out) (Kd.R_base ho28) hb); replace HK := zKK HK (KeepBut.of_below hb g none); replace HB := Aside0.mk (below_step (zB HB HI0) hb); replace HI0 := Aside0.mk (IsS54.below (keepF_ HI0 <| zI HI0) hb); clear hb ho28; obtain ⟨Ao29, co29, eo29⟩ := Kd.R_slice HO239.out; subst eo29) | ((with_reducible refine gC 61 ?_); refine zG (some 40) Tryz.func61 (spec_l1Cur_among.calls g s0_0 t235 t236 _ _ y237 t240 t241 t242 w0 _ (zI HI0) (zB HB HI0) (zCR HO239) ((Kd.R_reads' HO239.out).2.1) (far_slice (IsS54.own_ne HI0.out HO239.out (by decide))) A11.out) ?_; rintro e w30 ⟨rfl, hi, hb, hk⟩; refine ⟨_, rfl, ?_⟩; replace HO_3 := zO t235 t236 HI0 HO_3 hk; replace HO_5 := zO t235 t236 HI0 HO_5 hk; replace HO233 := zO t235 t236 HI0 HO233 hk; replace HO239 := zO t235 t236 HI0 HO239 hk; replace HK := zKK HK hk; replace HB := Aside0.mk (hb); replace HI0 := Aside0.mk (hi); (try clear hb); (try clear hk); (try clear hi)) | ((with_reducible refine gate_dst (N := 42) rfl ?_); refine Kd.R_lit (Kd.int .i64) _ 3 ?hg (N := 42) ?hd (xs := ([0, 0, (-10), (-30), 20, (-90)] : List Int)) (inner := [.int .i64 0, .int .i64 0, .int .i64 (-10), .int .i64 (-30), .int .i64 20, .int .i64 (-90)]) (ok := fun _ => True) (okp := fun _ => True) ?hr ?hp (fun _ hk => hk) trivial (Below.refl _ _) (Nat.le_refl _) (by simp) ?_; (case hd => rfl); (case hg => rfl); (case hr => first | (go_simp; done) | (go_simp; rfl)); (case hp => exact zInts _); intro v244 w31 ho32 hb hg_ hnew_; clear hg_ hnew_; (first | rw [← Ny243.out] at ho32 | (simp only [Int.reduceToNat] at ho32; rw [← Ny243.out] at ho32)); have HO245 := Aside0.mk (Kd.R_lower (Kd.R_new' (Kd.R_new' ho32 (Kd.R_lt (upR HO233.out))) (Kd.R_lt (upR HO239.out))) (keep_size (w := w) (g := g) (row := none) (zK HK))); replace HO_3 := uR HO_3 hb; replace HO_5 := uR HO_5 hb; replace HO233 := Aside0.mk (Kd.R_elder' (upR HO233.out) (Kd.R_base ho32) hb); replace HO239 := Aside0.mk (Kd.R_elder' (upR HO239.out) (Kd.R_base ho32) hb); replace HK := zKK HK (KeepBut.of_below hb g none); replace HB := Aside0.mk (below_step (zB HB HI0) hb); replace HI0 := Aside0.mk (IsS54.below (keepF_ HI0 <| zI HI0) hb); clear hb ho32; obtain ⟨Ao33, co33, eo33⟩ := Kd.R_slice HO245.out; subst eo33) | ((with_reducible refine gC 61 ?_); refine zG (some 43) Tryz.func61 (spec_l1Cur_among.calls g s0_0 t241 t242 _ _ y243 t246 t247 t248 w0 _ (zI HI0) (zB HB HI0) (zCR HO245) ((Kd.R_reads' HO245.out).2.1) (far_slice (IsS54.own_ne HI0.out HO245.out (by decide))) A12.out) ?_; rintro e w34 ⟨rfl, hi, hb, hk⟩; refine ⟨_, rfl, ?_⟩; replace HO_3 := zO t241 t242 HI0 HO_3 hk; replace HO_5 := zO t241 t242 HI0 HO_5 hk; replace HO233 := zO t241 t242 HI0 HO233 hk; replace HO239 := zO t241 t242 HI0 HO239 hk; replace HO245 := zO t241 t242 HI0 HO245 hk; replace HK := zKK HK hk; replace HB := Aside0.mk (hb); replace HI0 := Aside0.mk (hi); (try clear hb); (try clear hk); (try clear hi)) | ((with_reducible refine gD 7 ?_); refine bxE 7 32 #[.int .i64 0, .int .i64 0, .int .i64 0, .int .i64 0, .int .i64 0] fun gb249 w35 hg hbox hb => ?_; have BK249 := Aside0.mk hbox; have GW249 := Aside0.mk ((by rw [hg]; exact (keep_size (w := w) (g := g) (row := none) (zK HK)) : w.heap.size ≤ gb249)); have GE249 := Aside0.mk ((Nat.le_trans HW0.out (by rw [hg]; exact (keep_size (w := w) (g := g) (row := none) (zK HK)) : w.heap.size ≤ gb249) : w0.heap.size ≤ gb249)); have NB0_249 := Aside0.mk ((by rw [hg]; exact Nat.ne_of_lt (IsS54.lt (show IsS54 w0 _ g s0_0 t247 t248 from zI HI0)) : g ≠ gb249)); have NB249_0 := Aside0.mk ((by rw [hg]; exact Nat.ne_of_gt (IsS54.lt (show IsS54 w0 _ g s0_0 t247 t248 from zI HI0)) : gb249 ≠ g)); replace HO_3 := Aside0.mk (Kd.R_below (Kd.R_elderB (upR HO_3.out) gb249 (Nat.le_of_eq hg.symm)) hb); replace HO_5 := uR HO_5 hb; replace HO233 := uR HO233 hb; replace HO239 := uR HO239 hb; replace HO245 := uR HO245 hb; replace HK := zKK HK (KeepBut.of_below hb g none); replace HB := Aside0.mk (below_step (zB HB HI0) hb); replace HI0 := Aside0.mk (IsS54.below (keepF_ HI0 <| zI HI0) hb); clear hb hbox hg; have hnb36 := NB249_0.out; have hnc36 := NB0_249.out; have ⟨hcz37_0, hcz37_1, hcz37_2, hcz37_3, hcz37_4, hfz37_0⟩ := cz5 BK249))
     have n0_ : Aside0 (Kd.R k32 32 (((((w35.setCell ⟨gb249, 0, none⟩ (.int .i64 t228)).setCell ⟨gb249, 1, none⟩ (.int .i64 x6_1)).setCell ⟨gb249, 2, none⟩ (.int .i64 t234)).setCell ⟨gb249, 3, none⟩ (.int .i64 t240)).setCell ⟨gb249, 4, none⟩ (.int .i64 t246)) w.heap.size (fun k_ => k_ ≠ gb249) u3 x3_1) := ⟨Kd.R_mono (zF (Kd.R_mono HO_3.out (fun k_ hk => (⟨hk, hk.2⟩ : _ ∧ k_ ≠ gb249)))) (fun _ hk => hk.1.2)⟩
     have n1_ : Aside0 (Kd.R k92 92 (((((w35.setCell ⟨gb249, 0, none⟩ (.int .i64 t228)).setCell ⟨gb249, 1, none⟩ (.int .i64 x6_1)).setCell ⟨gb249, 2, none⟩ (.int .i64 t234)).setCell ⟨gb249, 3, none⟩ (.int .i64 t240)).setCell ⟨gb249, 4, none⟩ (.int .i64 t246)) w.heap.size (fun _ => True) u5 x5_1) := ⟨Kd.R_mono (zF (Kd.R_types HO_5.out BK249.out (by decide))) (fun _ hk => trivial)⟩
     have n2_ : Aside0 (Kd.R (Kd.int .i64) 3 (((((w35.setCell ⟨gb249, 0, none⟩ (.int .i64 t228)).setCell ⟨gb249, 1, none⟩ (.int .i64 x6_1)).setCell ⟨gb249, 2, none⟩ (.int .i64 t234)).setCell ⟨gb249, 3, none⟩ (.int .i64 t240)).setCell ⟨gb249, 4, none⟩ (.int .i64 t246)) w.heap.size (fun k_ => some k_ ≠ (.slice Ao29 y237.length co29 : Value).ownBlock ∧ some k_ ≠ (.slice Ao33 y243.length co33 : Value).ownBlock) (.slice Ao25 y231.length co25) y231) := ⟨Kd.R_mono (zF (Kd.R_types HO233.out BK249.out (by decide))) (fun _ hk => ⟨hk.1.1.2, hk.1.2⟩)⟩
     have n3_ : Aside0 (Kd.R (Kd.int .i64) 3 (((((w35.setCell ⟨gb249, 0, none⟩ (.int .i64 t228)).setCell ⟨gb249, 1, none⟩ (.int .i64 x6_1)).setCell ⟨gb249, 2, none⟩ (.int .i64 t234)).setCell ⟨gb249, 3, none⟩ (.int .i64 t240)).setCell ⟨gb249, 4, none⟩ (.int .i64 t246)) w.heap.size (fun k_ => some k_ ≠ (.slice Ao25 y231.length co25 : Value).ownBlock ∧ some k_ ≠ (.slice Ao33 y243.length co33 : Value).ownBlock) (.slice Ao29 y237.length co29) y237) := ⟨Kd.R_mono (zF (Kd.R_types HO239.out BK249.out (by decide))) (fun _ hk => ⟨hk.1.1.2, hk.1.2⟩)⟩
     have n4_ : Aside0 (Kd.R (Kd.int .i64) 3 (((((w35.setCell ⟨gb249, 0, none⟩ (.int .i64 t228)).setCell ⟨gb249, 1, none⟩ (.int .i64 x6_1)).setCell ⟨gb249, 2, none⟩ (.int .i64 t234)).setCell ⟨gb249, 3, none⟩ (.int .i64 t240)).setCell ⟨gb249, 4, none⟩ (.int .i64 t246)) w.heap.size (fun k_ => some k_ ≠ (.slice Ao25 y231.length co25 : Value).ownBlock ∧ some k_ ≠ (.slice Ao29 y237.length co29 : Value).ownBlock) (.slice Ao33 y243.length co33) y243) := ⟨Kd.R_mono (zF (Kd.R_types HO245.out BK249.out (by decide))) (fun _ hk => ⟨hk.1.1.2, hk.1.2⟩)⟩
     have n5_ : Aside0 ((((((w35.setCell ⟨gb249, 0, none⟩ (.int .i64 t228)).setCell ⟨gb249, 1, none⟩ (.int .i64 x6_1)).setCell ⟨gb249, 2, none⟩ (.int .i64 t234)).setCell ⟨gb249, 3, none⟩ (.int .i64 t240)).setCell ⟨gb249, 4, none⟩ (.int .i64 t246)).heap[gb249]? = some (.cells #[.int .i64 t228, .int .i64 x6_1, .int .i64 t234, .int .i64 t240, .int .i64 t246] 32 (0, 0))) := ⟨by exact pW BK249⟩
     have n6_ : Aside0 (IsS54 w0 (((((w35.setCell ⟨gb249, 0, none⟩ (.int .i64 t228)).setCell ⟨gb249, 1, none⟩ (.int .i64 x6_1)).setCell ⟨gb249, 2, none⟩ (.int .i64 t234)).setCell ⟨gb249, 3, none⟩ (.int .i64 t240)).setCell ⟨gb249, 4, none⟩ (.int .i64 t246)) g s0_0 t247 t248) := ⟨zI HI0⟩
     have n7_ : Aside0 (KeepBut w (((((w35.setCell ⟨gb249, 0, none⟩ (.int .i64 t228)).setCell ⟨gb249, 1, none⟩ (.int .i64 x6_1)).setCell ⟨gb249, 2, none⟩ (.int .i64 t234)).setCell ⟨gb249, 3, none⟩ (.int .i64 t240)).setCell ⟨gb249, 4, none⟩ (.int .i64 t246)) g none) := ⟨zK HK⟩
     have n8_ : Aside0 (Below w0.heap.size w0 (((((w35.setCell ⟨gb249, 0, none⟩ (.int .i64 t228)).setCell ⟨gb249, 1, none⟩ (.int .i64 x6_1)).setCell ⟨gb249, 2, none⟩ (.int .i64 t234)).setCell ⟨gb249, 3, none⟩ (.int .i64 t240)).setCell ⟨gb249, 4, none⟩ (.int .i64 t246))) := ⟨zB HB HI0⟩
     (try clear HO_3)
     (try clear HO_5)
     (try clear HO233)
     (try clear HO239)
     (try clear HO245)
     (try clear BK249)
     (try clear HI0)
     (try clear HK)
     (try clear HB)
     generalize (((((w35.setCell ⟨gb249, 0, none⟩ (.int .i64 t228)).setCell ⟨gb249, 1, none⟩ (.int .i64 x6_1)).setCell ⟨gb249, 2, none⟩ (.int .i64 t234)).setCell ⟨gb249, 3, none⟩ (.int .i64 t240)).setCell ⟨gb249, 4, none⟩ (.int .i64 t246)) = w38 at n0_ n1_ n2_ n3_ n4_ n5_ n6_ n7_ n8_ ⊢
     have HO_3 := n0_
     have HO_5 := n1_
     have HO233 := n2_
     have HO239 := n3_
     have HO245 := n4_
     have BK249 := n5_
     have HI0 := n6_
     have HK := n7_
     have HB := n8_
     clear n0_ n1_ n2_ n3_ n4_ n5_ n6_ n7_ n8_
     replace HO_3 := Aside0.mk (Kd.R_drew HO_3.out)
     replace HO_5 := Aside0.mk (Kd.R_drew HO_5.out)
     replace BK249 := dK BK249
     replace HI0 := Aside0.mk (IsS54.drew HI0.out)
     replace HK := Aside0.mk (keep_drew HK.out)
     replace HB := Aside0.mk (below_drew1 HB.out)
     obtain ⟨Ao40, co40, eo40⟩ := Kd.R_slice HO_5.out
     (first | subst eo40 | (injection eo40 with f1_ f2_ f3_; have f4_ := f1_.symm; have f5_ := f3_.symm; clear f1_ f2_ f3_; subst f4_; subst f5_))
     have p250 : 0 ≤ (t228 : Int) := of_decide_eq_true asmB
     have q250 : t228 < (x5_1.length : Int) := of_decide_eq_true asmB
     obtain ⟨ad250, e250, hx250_0, hx250_1, hx250_2⟩ := at_T92 (Kd.R_reads' HO_5.out).2.2 t228 p250 q250
     cases e250
     replace p250 := eq_true p250
     replace q250 := eq_true q250
     refine sA (n := 12) (S := fun w' => w'.cell? ⟨gb249, 0, none⟩ = some (.int .i64 t228) ∧ w'.cell? ⟨gb249, 1, none⟩ = some (.int .i64 x6_1) ∧ w'.cell? ⟨gb249, 2, none⟩ = some (.int .i64 t234) ∧ w'.cell? ⟨gb249, 3, none⟩ = some (.int .i64 t240) ∧ w'.cell? ⟨gb249, 4, none⟩ = some (.int .i64 t246) ∧ w'.cell? (ad250.add ((t228).toNat * 3)) = some (.int .i64 ((rd_T92 x5_1 t228).f0)) ∧ w'.cell? ⟨(ad250.add ((t228).toNat * 3)).block, (ad250.add ((t228).toNat * 3)).off + 1, none⟩ = some (.int .i64 ((rd_T92 x5_1 t228).f1)) ∧ w'.cell? ⟨(ad250.add ((t228).toNat * 3)).block, (ad250.add ((t228).toNat * 3)).off + 2, none⟩ = some (.int .i64 ((rd_T92 x5_1 t228).f2))) (ds := [9, 10]) spec_l1Cur_cave.tab8 spec_l1Cur_cave.bits8 #[false, false, false, false, false, false, false, false, false, false, false, false] ⟨cb BK249 0, cb BK249 1, cb BK249 2, cb BK249 3, cb BK249 4, hx250_0, hx250_1, hx250_2⟩ fun hHeld HT_ HW_ => ?_
     generalize w38.drew = w39 at HO_3 HO_5 HO233 HO239 HO245 BK249 HI0 HK HB hx250_0 hx250_1 hx250_2 hHeld ⊢
     refine pA 0 45 HT_ ?_
     refine pA 1 46 HT_ ?_
     refine pA 2 47 HT_ ?_
     refine tA 3 48 HT_ HW_ hHeld ?_
     refine pA 4 49 HT_ ?_
     refine tA 5 50 HT_ HW_ hHeld ?_
     refine tA 6 51 HT_ HW_ hHeld ?_
     refine oA 7 (some 52) HT_ fun K hK => ?_
     refine goes_ Tryz.func84 (by kernel_rfl) rfl #[.agg #[.int .i64 t228, .int .i64 x6_1, .int .i64 t234, .int .i64 t240, .int .i64 t246]] (by rfl) rfl rfl argsB ?_
     with_reducible refine (spec_l4Shift.calls t228 x6_1 t234 t240 t246 t251 t252 t253 _ A15.out).mono ?_
     rintro e w41 ⟨rfl, hb⟩
     have HS5_ := (hb.cell (World.block_lt_of_cell? _ _ (hHeld.2.2.2.2.2.1))).trans (hHeld.2.2.2.2.2.1)
     have HS6_ := (hb.cell (World.block_lt_of_cell? _ _ (hHeld.2.2.2.2.2.2.1))).trans (hHeld.2.2.2.2.2.2.1)
     have HS7_ := (hb.cell (World.block_lt_of_cell? _ _ (hHeld.2.2.2.2.2.2.2))).trans (hHeld.2.2.2.2.2.2.2)
     refine ⟨_, rfl, ?_⟩
     replace HO_3 := uR HO_3 hb
     replace HO_5 := uR HO_5 hb
     replace BK249 := uK BK249 hb
     replace HK := zKK HK (KeepBut.of_below hb g none)
     replace HB := Aside0.mk (below_step (zB HB HI0) hb)
     replace HI0 := Aside0.mk (IsS54.below (keepF_ HI0 <| zI HI0) hb)
     (try clear hb)
     (try clear hk)
     (try clear hi)
     refine hK.out _ _ ⟨cb BK249 0, cb BK249 1, cb BK249 2, cb BK249 3, cb BK249 4, HS5_, HS6_, HS7_⟩ (fun hHeld => ?_)
     clear hK K
     refine nA ?_ (some 52)
     refine oA 8 (some 53) HT_ fun K hK => ?_
     refine goes_ Tryz.func83 (by kernel_rfl) rfl #[.agg #[.int .i64 ((rd_T92 x5_1 t228).f0), .int .i64 ((rd_T92 x5_1 t228).f1), .int .i64 ((rd_T92 x5_1 t228).f2)], .agg #[.int .i64 t251, .int .i64 t252, .int .i64 t253], .int .i64 1] (by rfl) rfl rfl argsB ?_
     with_reducible refine (spec_l4Plus.calls ((rd_T92 x5_1 t228).f0) ((rd_T92 x5_1 t228).f1) ((rd_T92 x5_1 t228).f2) t251 t252 t253 1 t254 t255 t256 _ A16.out).mono ?_
     rintro e w42 ⟨rfl, hb⟩
     have HS5_ := (hb.cell (World.block_lt_of_cell? _ _ (hHeld.2.2.2.2.2.1))).trans (hHeld.2.2.2.2.2.1)
     have HS6_ := (hb.cell (World.block_lt_of_cell? _ _ (hHeld.2.2.2.2.2.2.1))).trans (hHeld.2.2.2.2.2.2.1)
     have HS7_ := (hb.cell (World.block_lt_of_cell? _ _ (hHeld.2.2.2.2.2.2.2))).trans (hHeld.2.2.2.2.2.2.2)
     refine ⟨_, rfl, ?_⟩
     replace HO_3 := uR HO_3 hb
     replace HO_5 := uR HO_5 hb
     replace BK249 := uK BK249 hb
     replace HK := zKK HK (KeepBut.of_below hb g none)
     replace HB := Aside0.mk (below_step (zB HB HI0) hb)
     replace HI0 := Aside0.mk (IsS54.below (keepF_ HI0 <| zI HI0) hb)
     (try clear hb)
     (try clear hk)
     (try clear hi)
     refine hK.out _ _ ⟨cb BK249 0, cb BK249 1, cb BK249 2, cb BK249 3, cb BK249 4, HS5_, HS6_, HS7_⟩ (fun hHeld => ?_)
     clear hK K
     refine nA ?_ (some 53)
     refine last_ (i := 9) (N := some 54) #[true, true, true, true, true, true, true, true, true, true, false, false] rfl rfl (one_of HT_.out (by kernel_rfl)) (by decide) (fun K hK => ?_)
     refine value_ (w1 := ?_) (v := ?_) (by rfl) rfl ?_ ?_
     rotate_left 2
     ·go_simp
      constructor
      ·rfl
      ·rfl
     refine hK.out _ _ ?_
     clear hK K
     refine nA ?_ (some 54)
     refine last_ (i := 10) (N := some 55) #[true, true, true, true, true, true, true, true, true, true, true, false] rfl rfl (one_of HT_.out (by kernel_rfl)) (by decide) (fun K hK => ?_)
     refine Kd.R_append_step k92 w.heap.size (by rfl) (.tmp 45) (.tmp 54) 93 92 (.agg #[(.int .i64 0), (.int .i64 0), (.int .i64 0)]) 24 rfl Tryz.underlying93 info92 rfl (by decide) (by omega) (.slice (some ad250) x5_1.length co40) x5_1 (⟨t254, t255, t256⟩ : S92) [.int .i64 t254, .int .i64 t255, .int .i64 t256] (fun _ => True) (fun _ => False) rfl rfl ?aP (fun _ hk => hk.elim) ?aF ?aO (Below.refl _ _) ?aS ?aL ?_
     (case aP => exact k92_mkM _ _ _ (⟨t254, t255, t256⟩ : S92))
     (case aF => exact (fun _ _ => trivial))
     (case aO => exact (upR HO_5.out))
     (case aS => exact (keep_size (w := w) (g := g) (row := none) (zK HK)))
     (case aL => have := LMc17.out; omega)
     intro v258 w43 ho hb hg hat
     rw [← Ny257.out] at ho
     have HO259 := Aside0.mk (ho)
     replace HO_3 := Aside0.mk (Kd.R_over' (upR HO_3.out) (Kd.R_typed (upR HO_5.out)) (by decide) hg)
     replace BK249 := Aside0.mk (blk_grown (g := gb249) (o := .cells #[.int .i64 t228, .int .i64 x6_1, .int .i64 t234, .int .i64 t240, .int .i64 t246] 32 (0, 0)) (upK BK249.out) hg (Kd.R_ne HO_5.out BK249.out (by decide)))
     replace HB := Aside0.mk (below_weaken (zB HB HI0) HL.out hb)
     replace HI0 := Aside0.mk (IsS54.grown (keepF_ HI0 <| zI HI0) hg (IsS54.own_ne HI0.out HO_5.out (by decide)))
     replace HK := Aside0.mk (KeepBut.trans (zK HK) (KeepBut.of_grown hg g) (Kd.R_base2 HO_5.out))
     clear HO_5
     clear ho hb hg hat
     refine hK.out _ _ ?_
     clear hK K
     refine nA ?_ (some 55)
     refine pA 11 5 HT_ ?_
     refine done_ (done_of HT_.out (by kernel_rfl)) ?_
     try go_wp2_with (first | ((with_reducible refine gC 59 ?_); refine zG (some 57) Tryz.func59 (spec_l1Cur_one.calls g s0_0 t247 t248 4 true t261 t262 w0 _ (zI HI0) (zB HB HI0) A18.out) ?_; rintro e w44 ⟨rfl, hi, hb, hk⟩; refine ⟨_, rfl, ?_⟩; replace HO_3 := zO t247 t248 HI0 HO_3 hk; replace BK249 := Aside0.mk (KeepBut.blk hk (g' := gb249) (o := .cells #[.int .i64 t228, .int .i64 x6_1, .int .i64 t234, .int .i64 t240, .int .i64 t246] 32 (0, 0)) (upK BK249.out) NB249_0.out (by simp)); replace HO259 := zO t247 t248 HI0 HO259 hk; replace HK := zKK HK hk; replace HB := Aside0.mk (hb); replace HI0 := Aside0.mk (hi); (try clear hb); (try clear hk); (try clear hi); have ⟨hcz45_0, hcz45_1, hcz45_2, hcz45_3, hcz45_4, hfz45_0⟩ := cz5 BK249) | ((with_reducible refine gC 85 ?_); refine lA (some 59) Tryz.func85 (spec_l4Reverse.calls t228 x6_1 t234 t240 t246 t263 t264 t265 t266 t267 _ A20.out) ?_; intro w46 hb; replace HO_3 := uR HO_3 hb; replace HO259 := uR HO259 hb; replace BK249 := uK BK249 hb; replace HK := zKK HK (KeepBut.of_below hb g none); replace HB := Aside0.mk (below_step (zB HB HI0) hb); replace HI0 := Aside0.mk (IsS54.below (keepF_ HI0 <| zI HI0) hb); (try clear hb); (try clear hk); (try clear hi); have ⟨hcz47_0, hcz47_1, hcz47_2, hcz47_3, hcz47_4, hfz47_0⟩ := cz5 BK249) | ((with_reducible refine gate_builtin (b := .append) (xs := #[.tmp 60, .tmp 62]) rfl ?_); at_builtin; refine Kd.R_append k32 w.heap.size rfl (.tmp 60) (.tmp 62) 24 32 (.agg #[(.int .i64 0), (.int .i64 0), (.int .i64 0), (.int .i64 0), (.int .i64 0)]) 40 rfl Tryz.underlying24 info32 rfl (by decide) (by omega) u3 x3_1 (⟨t263, t264, t265, t266, t267⟩ : S32) [.int .i64 t263, .int .i64 t264, .int .i64 t265, .int .i64 t266, .int .i64 t267] (fun k_ => k_ ≠ gb249) (fun _ => False) rfl (by first | (go_simp; done) | (go_simp; rfl)) ?aP (fun _ hk => hk.elim) ?aF ?aO (Below.refl _ _) ?aS ?aL ?_; (case aP => exact k32_mkM _ _ _ (⟨t263, t264, t265, t266, t267⟩ : S32)); (case aF => exact (fun k_ hk => Kd.freshB (g := gb249) (o := .cells #[.int .i64 t263, .int .i64 t264, .int .i64 t265, .int .i64 t266, .int .i64 t267] 32 (0, 0)) (by exact pW BK249) k_ hk)); (case aO => exact (Kd.R_mono (zF (Kd.R_mono HO_3.out (fun k_ hk => (⟨hk, hk⟩ : _ ∧ k_ ≠ gb249)))) (fun _ hk => hk.1))); (case aS => exact (keep_size (w := w) (g := g) (row := none) (zK HK))); (case aL => have := LMc21.out; omega); intro v269 w48 ho hb hg hat; rw [← Ny268.out] at ho; have HO270 := Aside0.mk (ho); replace HO259 := Aside0.mk (Kd.R_over' (by (with_reducible repeat (first | apply Kd.R_alloc | apply Kd.R_drewN | apply Kd.R_drew)); exact (Kd.R_mono (zF (Kd.R_types HO259.out BK249.out (by decide))) (fun _ h_ => h_.1))) (Kd.R_typed (by (with_reducible repeat (first | apply Kd.R_alloc | apply Kd.R_drewN | apply Kd.R_drew)); exact (Kd.R_mono (zF (Kd.R_mono HO_3.out (fun k_ hk => (⟨hk, hk⟩ : _ ∧ k_ ≠ gb249)))) (fun _ h_ => h_.1)))) (by decide) hg); replace BK249 := Aside0.mk (blk_grown (g := gb249) (o := .cells #[.int .i64 t263, .int .i64 t264, .int .i64 t265, .int .i64 t266, .int .i64 t267] 32 (0, 0)) (by exact pW BK249) hg (Kd.R_away HO_3.out (fun _ hk => hk))); replace HB := Aside0.mk (below_weaken (zB HB HI0) HL.out hb); replace HI0 := Aside0.mk (IsS54.grown (keepF_ HI0 <| zI HI0) hg (IsS54.own_ne HI0.out HO_3.out (by decide))); replace HK := Aside0.mk (KeepBut.trans (zK HK) (KeepBut.of_grown hg g) (Kd.R_base2 HO_3.out)); clear HO_3; clear ho hb hg hat))
     go_roundg k1
     case measure => have := HK1.out; omega
     case rel => exact ⟨(y268), (y257), (wrap64 (x6_1 + 1)), (t261), (t262), rB, H', ⟨by have := HK1.out; omega⟩, ⟨Kd.R_mono (upR HO270.out) (fun _ hk => trivial)⟩, ⟨upR HO259.out⟩, ⟨zI HI0⟩, ⟨zK HK⟩, ⟨zB HB HI0⟩⟩
    ·replace H := iF (by decide) H
     replace H := zM H
     obtain ⟨c49, H⟩ := H
     have LMc49 := Aside0.mk c49
     clear c49
     obtain ⟨y271, hy271⟩ : ∃ y_ : List (S32), y_ = (x3_1 ++ [(⟨t228, x6_1, t234, t240, t246⟩ : S32)]) := ⟨_, rfl⟩
     rw [← hy271] at H
     have Ny271 := Aside0.mk hy271
     clear hy271
     have H' := Aside0.mk H
     clear H
     try go_wp2_with (first | ((with_reducible refine gC 60 ?_); refine zG (some 33) Tryz.func60 (spec_l1Cur_pick.calls g s0_0 x1001_1 x1002_1 x6_1 t228 t229 t230 w0 _ (zI HI0) (zB HB HI0) A9.out) ?_; rintro e w50 ⟨rfl, hi, hb, hk⟩; refine ⟨_, rfl, ?_⟩; replace HO_3 := zO x1001_1 x1002_1 HI0 HO_3 hk; replace HO_5 := zO x1001_1 x1002_1 HI0 HO_5 hk; replace HK := zKK HK hk; replace HB := Aside0.mk (hb); replace HI0 := Aside0.mk (hi); (try clear hb); (try clear hk); (try clear hi)) | ((with_reducible refine gate_dst (N := 36) rfl ?_); refine Kd.R_lit (Kd.int .i64) _ 3 ?hg (N := 36) ?hd (xs := ([10, 50, 100, 120, 250] : List Int)) (inner := [.int .i64 10, .int .i64 50, .int .i64 100, .int .i64 120, .int .i64 250]) (ok := fun _ => True) (okp := fun _ => True) ?hr ?hp (fun _ hk => hk) trivial (Below.refl _ _) (Nat.le_refl _) (by simp) ?_; (case hd => rfl); (case hg => rfl); (case hr => first | (go_simp; done) | (go_simp; rfl)); (case hp => exact zInts _); intro v232 w51 ho52 hb hg_ hnew_; clear hg_ hnew_; (first | rw [← Ny231.out] at ho52 | (simp only [Int.reduceToNat] at ho52; rw [← Ny231.out] at ho52)); have HO233 := Aside0.mk (Kd.R_lower ho52 (keep_size (w := w) (g := g) (row := none) (zK HK))); replace HO_3 := uR HO_3 hb; replace HO_5 := uR HO_5 hb; replace HK := zKK HK (KeepBut.of_below hb g none); replace HB := Aside0.mk (below_step (zB HB HI0) hb); replace HI0 := Aside0.mk (IsS54.below (keepF_ HI0 <| zI HI0) hb); clear hb ho52; obtain ⟨Ao53, co53, eo53⟩ := Kd.R_slice HO233.out; subst eo53) | ((with_reducible refine gC 61 ?_); refine zG (some 37) Tryz.func61 (spec_l1Cur_among.calls g s0_0 t229 t230 _ _ y231 t234 t235 t236 w0 _ (zI HI0) (zB HB HI0) (zCR HO233) ((Kd.R_reads' HO233.out).2.1) (far_slice (IsS54.own_ne HI0.out HO233.out (by decide))) A10.out) ?_; rintro e w54 ⟨rfl, hi, hb, hk⟩; refine ⟨_, rfl, ?_⟩; replace HO_3 := zO t229 t230 HI0 HO_3 hk; replace HO_5 := zO t229 t230 HI0 HO_5 hk; replace HO233 := zO t229 t230 HI0 HO233 hk; replace HK := zKK HK hk; replace HB := Aside0.mk (hb); replace HI0 := Aside0.mk (hi); (try clear hb); (try clear hk); (try clear hi)) | ((with_reducible refine gate_dst (N := 39) rfl ?_); refine Kd.R_lit (Kd.int .i64) _ 3 ?hg (N := 39) ?hd (xs := ([0, 45, 90, 135, 180, 270, 300] : List Int)) (inner := [.int .i64 0, .int .i64 45, .int .i64 90, .int .i64 135, .int .i64 180, .int .i64 270, .int .i64 300]) (ok := fun _ => True) (okp := fun _ => True) ?hr ?hp (fun _ hk => hk) trivial (Below.refl _ _) (Nat.le_refl _) (by simp) ?_; (case hd => rfl); (case hg => rfl); (case hr => first | (go_simp; done) | (go_simp; rfl)); (case hp => exact zInts _); intro v238 w55 ho56 hb hg_ hnew_; clear hg_ hnew_; (first | rw [← Ny237.out] at ho56 | (simp only [Int.reduceToNat] at ho56; rw [← Ny237.out] at ho56)); have HO239 := Aside0.mk (Kd.R_lower (Kd.R_new' ho56 (Kd.R_lt (upR HO233.out))) (keep_size (w := w) (g := g) (row := none) (zK HK))); replace HO_3 := uR HO_3 hb; replace HO_5 := uR HO_5 hb; replace HO233 := Aside0.mk (Kd.R_elder' (upR HO233.out) (Kd.R_base ho56) hb); replace HK := zKK HK (KeepBut.of_below hb g none); replace HB := Aside0.mk (below_step (zB HB HI0) hb); replace HI0 := Aside0.mk (IsS54.below (keepF_ HI0 <| zI HI0) hb); clear hb ho56; obtain ⟨Ao57, co57, eo57⟩ := Kd.R_slice HO239.out; subst eo57) | ((with_reducible refine gC 61 ?_); refine zG (some 40) Tryz.func61 (spec_l1Cur_among.calls g s0_0 t235 t236 _ _ y237 t240 t241 t242 w0 _ (zI HI0) (zB HB HI0) (zCR HO239) ((Kd.R_reads' HO239.out).2.1) (far_slice (IsS54.own_ne HI0.out HO239.out (by decide))) A11.out) ?_; rintro e w58 ⟨rfl, hi, hb, hk⟩; refine ⟨_, rfl, ?_⟩; replace HO_3 := zO t235 t236 HI0 HO_3 hk; replace HO_5 := zO t235 t236 HI0 HO_5 hk; replace HO233 := zO t235 t236 HI0 HO233 hk; replace HO239 := zO t235 t236 HI0 HO239 hk; replace HK := zKK HK hk; replace HB := Aside0.mk (hb); replace HI0 := Aside0.mk (hi); (try clear hb); (try clear hk); (try clear hi)) | ((with_reducible refine gate_dst (N := 42) rfl ?_); refine Kd.R_lit (Kd.int .i64) _ 3 ?hg (N := 42) ?hd (xs := ([0, 0, (-10), (-30), 20, (-90)] : List Int)) (inner := [.int .i64 0, .int .i64 0, .int .i64 (-10), .int .i64 (-30), .int .i64 20, .int .i64 (-90)]) (ok := fun _ => True) (okp := fun _ => True) ?hr ?hp (fun _ hk => hk) trivial (Below.refl _ _) (Nat.le_refl _) (by simp) ?_; (case hd => rfl); (case hg => rfl); (case hr => first | (go_simp; done) | (go_simp; rfl)); (case hp => exact zInts _); intro v244 w59 ho60 hb hg_ hnew_; clear hg_ hnew_; (first | rw [← Ny243.out] at ho60 | (simp only [Int.reduceToNat] at ho60; rw [← Ny243.out] at ho60)); have HO245 := Aside0.mk (Kd.R_lower (Kd.R_new' (Kd.R_new' ho60 (Kd.R_lt (upR HO233.out))) (Kd.R_lt (upR HO239.out))) (keep_size (w := w) (g := g) (row := none) (zK HK))); replace HO_3 := uR HO_3 hb; replace HO_5 := uR HO_5 hb; replace HO233 := Aside0.mk (Kd.R_elder' (upR HO233.out) (Kd.R_base ho60) hb); replace HO239 := Aside0.mk (Kd.R_elder' (upR HO239.out) (Kd.R_base ho60) hb); replace HK := zKK HK (KeepBut.of_below hb g none); replace HB := Aside0.mk (below_step (zB HB HI0) hb); replace HI0 := Aside0.mk (IsS54.below (keepF_ HI0 <| zI HI0) hb); clear hb ho60; obtain ⟨Ao61, co61, eo61⟩ := Kd.R_slice HO245.out; subst eo61) | ((with_reducible refine gC 61 ?_); refine zG (some 43) Tryz.func61 (spec_l1Cur_among.calls g s0_0 t241 t242 _ _ y243 t246 t247 t248 w0 _ (zI HI0) (zB HB HI0) (zCR HO245) ((Kd.R_reads' HO245.out).2.1) (far_slice (IsS54.own_ne HI0.out HO245.out (by decide))) A12.out) ?_; rintro e w62 ⟨rfl, hi, hb, hk⟩; refine ⟨_, rfl, ?_⟩; replace HO_3 := zO t241 t242 HI0 HO_3 hk; replace HO_5 := zO t241 t242 HI0 HO_5 hk; replace HO233 := zO t241 t242 HI0 HO233 hk; replace HO239 := zO t241 t242 HI0 HO239 hk; replace HO245 := zO t241 t242 HI0 HO245 hk; replace HK := zKK HK hk; replace HB := Aside0.mk (hb); replace HI0 := Aside0.mk (hi); (try clear hb); (try clear hk); (try clear hi)) | ((with_reducible refine gD 7 ?_); refine bxE 7 32 #[.int .i64 0, .int .i64 0, .int .i64 0, .int .i64 0, .int .i64 0] fun gb249 w63 hg hbox hb => ?_; have BK249 := Aside0.mk hbox; have GW249 := Aside0.mk ((by rw [hg]; exact (keep_size (w := w) (g := g) (row := none) (zK HK)) : w.heap.size ≤ gb249)); have GE249 := Aside0.mk ((Nat.le_trans HW0.out (by rw [hg]; exact (keep_size (w := w) (g := g) (row := none) (zK HK)) : w.heap.size ≤ gb249) : w0.heap.size ≤ gb249)); have NB0_249 := Aside0.mk ((by rw [hg]; exact Nat.ne_of_lt (IsS54.lt (show IsS54 w0 _ g s0_0 t247 t248 from zI HI0)) : g ≠ gb249)); have NB249_0 := Aside0.mk ((by rw [hg]; exact Nat.ne_of_gt (IsS54.lt (show IsS54 w0 _ g s0_0 t247 t248 from zI HI0)) : gb249 ≠ g)); replace HO_3 := Aside0.mk (Kd.R_below (Kd.R_elderB (upR HO_3.out) gb249 (Nat.le_of_eq hg.symm)) hb); replace HO_5 := uR HO_5 hb; replace HO233 := uR HO233 hb; replace HO239 := uR HO239 hb; replace HO245 := uR HO245 hb; replace HK := zKK HK (KeepBut.of_below hb g none); replace HB := Aside0.mk (below_step (zB HB HI0) hb); replace HI0 := Aside0.mk (IsS54.below (keepF_ HI0 <| zI HI0) hb); clear hb hbox hg; have hnb64 := NB249_0.out; have hnc64 := NB0_249.out; have ⟨hcz65_0, hcz65_1, hcz65_2, hcz65_3, hcz65_4, hfz65_0⟩ := cz5 BK249))
     have n0_ : Aside0 (Kd.R k32 32 (((((w63.setCell ⟨gb249, 0, none⟩ (.int .i64 t228)).setCell ⟨gb249, 1, none⟩ (.int .i64 x6_1)).setCell ⟨gb249, 2, none⟩ (.int .i64 t234)).setCell ⟨gb249, 3, none⟩ (.int .i64 t240)).setCell ⟨gb249, 4, none⟩ (.int .i64 t246)) w.heap.size (fun k_ => k_ ≠ gb249) u3 x3_1) := ⟨Kd.R_mono (zF (Kd.R_mono HO_3.out (fun k_ hk => (⟨hk, hk.2⟩ : _ ∧ k_ ≠ gb249)))) (fun _ hk => hk.1.2)⟩
     have n1_ : Aside0 (Kd.R k92 92 (((((w63.setCell ⟨gb249, 0, none⟩ (.int .i64 t228)).setCell ⟨gb249, 1, none⟩ (.int .i64 x6_1)).setCell ⟨gb249, 2, none⟩ (.int .i64 t234)).setCell ⟨gb249, 3, none⟩ (.int .i64 t240)).setCell ⟨gb249, 4, none⟩ (.int .i64 t246)) w.heap.size (fun _ => True) u5 x5_1) := ⟨Kd.R_mono (zF (Kd.R_types HO_5.out BK249.out (by decide))) (fun _ hk => trivial)⟩
     have n2_ : Aside0 (Kd.R (Kd.int .i64) 3 (((((w63.setCell ⟨gb249, 0, none⟩ (.int .i64 t228)).setCell ⟨gb249, 1, none⟩ (.int .i64 x6_1)).setCell ⟨gb249, 2, none⟩ (.int .i64 t234)).setCell ⟨gb249, 3, none⟩ (.int .i64 t240)).setCell ⟨gb249, 4, none⟩ (.int .i64 t246)) w.heap.size (fun k_ => some k_ ≠ (.slice Ao57 y237.length co57 : Value).ownBlock ∧ some k_ ≠ (.slice Ao61 y243.length co61 : Value).ownBlock) (.slice Ao53 y231.length co53) y231) := ⟨Kd.R_mono (zF (Kd.R_types HO233.out BK249.out (by decide))) (fun _ hk => ⟨hk.1.1.2, hk.1.2⟩)⟩
     have n3_ : Aside0 (Kd.R (Kd.int .i64) 3 (((((w63.setCell ⟨gb249, 0, none⟩ (.int .i64 t228)).setCell ⟨gb249, 1, none⟩ (.int .i64 x6_1)).setCell ⟨gb249, 2, none⟩ (.int .i64 t234)).setCell ⟨gb249, 3, none⟩ (.int .i64 t240)).setCell ⟨gb249, 4, none⟩ (.int .i64 t246)) w.heap.size (fun k_ => some k_ ≠ (.slice Ao53 y231.length co53 : Value).ownBlock ∧ some k_ ≠ (.slice Ao61 y243.length co61 : Value).ownBlock) (.slice Ao57 y237.length co57) y237) := ⟨Kd.R_mono (zF (Kd.R_types HO239.out BK249.out (by decide))) (fun _ hk => ⟨hk.1.1.2, hk.1.2⟩)⟩
     have n4_ : Aside0 (Kd.R (Kd.int .i64) 3 (((((w63.setCell ⟨gb249, 0, none⟩ (.int .i64 t228)).setCell ⟨gb249, 1, none⟩ (.int .i64 x6_1)).setCell ⟨gb249, 2, none⟩ (.int .i64 t234)).setCell ⟨gb249, 3, none⟩ (.int .i64 t240)).setCell ⟨gb249, 4, none⟩ (.int .i64 t246)) w.heap.size (fun k_ => some k_ ≠ (.slice Ao53 y231.length co53 : Value).ownBlock ∧ some k_ ≠ (.slice Ao57 y237.length co57 : Value).ownBlock) (.slice Ao61 y243.length co61) y243) := ⟨Kd.R_mono (zF (Kd.R_types HO245.out BK249.out (by decide))) (fun _ hk => ⟨hk.1.1.2, hk.1.2⟩)⟩
     have n5_ : Aside0 ((((((w63.setCell ⟨gb249, 0, none⟩ (.int .i64 t228)).setCell ⟨gb249, 1, none⟩ (.int .i64 x6_1)).setCell ⟨gb249, 2, none⟩ (.int .i64 t234)).setCell ⟨gb249, 3, none⟩ (.int .i64 t240)).setCell ⟨gb249, 4, none⟩ (.int .i64 t246)).heap[gb249]? = some (.cells #[.int .i64 t228, .int .i64 x6_1, .int .i64 t234, .int .i64 t240, .int .i64 t246] 32 (0, 0))) := ⟨by exact pW BK249⟩
     have n6_ : Aside0 (IsS54 w0 (((((w63.setCell ⟨gb249, 0, none⟩ (.int .i64 t228)).setCell ⟨gb249, 1, none⟩ (.int .i64 x6_1)).setCell ⟨gb249, 2, none⟩ (.int .i64 t234)).setCell ⟨gb249, 3, none⟩ (.int .i64 t240)).setCell ⟨gb249, 4, none⟩ (.int .i64 t246)) g s0_0 t247 t248) := ⟨zI HI0⟩
     have n7_ : Aside0 (KeepBut w (((((w63.setCell ⟨gb249, 0, none⟩ (.int .i64 t228)).setCell ⟨gb249, 1, none⟩ (.int .i64 x6_1)).setCell ⟨gb249, 2, none⟩ (.int .i64 t234)).setCell ⟨gb249, 3, none⟩ (.int .i64 t240)).setCell ⟨gb249, 4, none⟩ (.int .i64 t246)) g none) := ⟨zK HK⟩
     have n8_ : Aside0 (Below w0.heap.size w0 (((((w63.setCell ⟨gb249, 0, none⟩ (.int .i64 t228)).setCell ⟨gb249, 1, none⟩ (.int .i64 x6_1)).setCell ⟨gb249, 2, none⟩ (.int .i64 t234)).setCell ⟨gb249, 3, none⟩ (.int .i64 t240)).setCell ⟨gb249, 4, none⟩ (.int .i64 t246))) := ⟨zB HB HI0⟩
     (try clear HO_3)
     (try clear HO_5)
     (try clear HO233)
     (try clear HO239)
     (try clear HO245)
     (try clear BK249)
     (try clear HI0)
     (try clear HK)
     (try clear HB)
     generalize (((((w63.setCell ⟨gb249, 0, none⟩ (.int .i64 t228)).setCell ⟨gb249, 1, none⟩ (.int .i64 x6_1)).setCell ⟨gb249, 2, none⟩ (.int .i64 t234)).setCell ⟨gb249, 3, none⟩ (.int .i64 t240)).setCell ⟨gb249, 4, none⟩ (.int .i64 t246)) = w66 at n0_ n1_ n2_ n3_ n4_ n5_ n6_ n7_ n8_ ⊢
     have HO_3 := n0_
     have HO_5 := n1_
     have HO233 := n2_
     have HO239 := n3_
     have HO245 := n4_
     have BK249 := n5_
     have HI0 := n6_
     have HK := n7_
     have HB := n8_
     clear n0_ n1_ n2_ n3_ n4_ n5_ n6_ n7_ n8_
     replace HO_3 := Aside0.mk (Kd.R_drew HO_3.out)
     replace HO_5 := Aside0.mk (Kd.R_drew HO_5.out)
     replace BK249 := dK BK249
     replace HI0 := Aside0.mk (IsS54.drew HI0.out)
     replace HK := Aside0.mk (keep_drew HK.out)
     replace HB := Aside0.mk (below_drew1 HB.out)
     obtain ⟨Ao68, co68, eo68⟩ := Kd.R_slice HO_5.out
     (first | subst eo68 | (injection eo68 with f1_ f2_ f3_; have f4_ := f1_.symm; have f5_ := f3_.symm; clear f1_ f2_ f3_; subst f4_; subst f5_))
     have p250 : 0 ≤ (t228 : Int) := of_decide_eq_true asmB
     have q250 : t228 < (x5_1.length : Int) := of_decide_eq_true asmB
     obtain ⟨ad250, e250, hx250_0, hx250_1, hx250_2⟩ := at_T92 (Kd.R_reads' HO_5.out).2.2 t228 p250 q250
     cases e250
     replace p250 := eq_true p250
     replace q250 := eq_true q250
     refine sA (n := 12) (S := fun w' => w'.cell? ⟨gb249, 0, none⟩ = some (.int .i64 t228) ∧ w'.cell? ⟨gb249, 1, none⟩ = some (.int .i64 x6_1) ∧ w'.cell? ⟨gb249, 2, none⟩ = some (.int .i64 t234) ∧ w'.cell? ⟨gb249, 3, none⟩ = some (.int .i64 t240) ∧ w'.cell? ⟨gb249, 4, none⟩ = some (.int .i64 t246) ∧ w'.cell? (ad250.add ((t228).toNat * 3)) = some (.int .i64 ((rd_T92 x5_1 t228).f0)) ∧ w'.cell? ⟨(ad250.add ((t228).toNat * 3)).block, (ad250.add ((t228).toNat * 3)).off + 1, none⟩ = some (.int .i64 ((rd_T92 x5_1 t228).f1)) ∧ w'.cell? ⟨(ad250.add ((t228).toNat * 3)).block, (ad250.add ((t228).toNat * 3)).off + 2, none⟩ = some (.int .i64 ((rd_T92 x5_1 t228).f2))) (ds := [9, 10]) spec_l1Cur_cave.tab8 spec_l1Cur_cave.bits8 #[false, false, false, false, false, false, false, false, false, false, false, false] ⟨cb BK249 0, cb BK249 1, cb BK249 2, cb BK249 3, cb BK249 4, hx250_0, hx250_1, hx250_2⟩ fun hHeld HT_ HW_ => ?_
     generalize w66.drew = w67 at HO_3 HO_5 HO233 HO239 HO245 BK249 HI0 HK HB hx250_0 hx250_1 hx250_2 hHeld ⊢
     refine pA 0 45 HT_ ?_
     refine pA 1 46 HT_ ?_
     refine pA 2 47 HT_ ?_
     refine tA 3 48 HT_ HW_ hHeld ?_
     refine pA 4 49 HT_ ?_
     refine tA 5 50 HT_ HW_ hHeld ?_
     refine tA 6 51 HT_ HW_ hHeld ?_
     refine oA 7 (some 52) HT_ fun K hK => ?_
     refine goes_ Tryz.func84 (by kernel_rfl) rfl #[.agg #[.int .i64 t228, .int .i64 x6_1, .int .i64 t234, .int .i64 t240, .int .i64 t246]] (by rfl) rfl rfl argsB ?_
     with_reducible refine (spec_l4Shift.calls t228 x6_1 t234 t240 t246 t251 t252 t253 _ A15.out).mono ?_
     rintro e w69 ⟨rfl, hb⟩
     have HS5_ := (hb.cell (World.block_lt_of_cell? _ _ (hHeld.2.2.2.2.2.1))).trans (hHeld.2.2.2.2.2.1)
     have HS6_ := (hb.cell (World.block_lt_of_cell? _ _ (hHeld.2.2.2.2.2.2.1))).trans (hHeld.2.2.2.2.2.2.1)
     have HS7_ := (hb.cell (World.block_lt_of_cell? _ _ (hHeld.2.2.2.2.2.2.2))).trans (hHeld.2.2.2.2.2.2.2)
     refine ⟨_, rfl, ?_⟩
     replace HO_3 := uR HO_3 hb
     replace HO_5 := uR HO_5 hb
     replace BK249 := uK BK249 hb
     replace HK := zKK HK (KeepBut.of_below hb g none)
     replace HB := Aside0.mk (below_step (zB HB HI0) hb)
     replace HI0 := Aside0.mk (IsS54.below (keepF_ HI0 <| zI HI0) hb)
     (try clear hb)
     (try clear hk)
     (try clear hi)
     refine hK.out _ _ ⟨cb BK249 0, cb BK249 1, cb BK249 2, cb BK249 3, cb BK249 4, HS5_, HS6_, HS7_⟩ (fun hHeld => ?_)
     clear hK K
     refine nA ?_ (some 52)
     refine oA 8 (some 53) HT_ fun K hK => ?_
     refine goes_ Tryz.func83 (by kernel_rfl) rfl #[.agg #[.int .i64 ((rd_T92 x5_1 t228).f0), .int .i64 ((rd_T92 x5_1 t228).f1), .int .i64 ((rd_T92 x5_1 t228).f2)], .agg #[.int .i64 t251, .int .i64 t252, .int .i64 t253], .int .i64 1] (by rfl) rfl rfl argsB ?_
     with_reducible refine (spec_l4Plus.calls ((rd_T92 x5_1 t228).f0) ((rd_T92 x5_1 t228).f1) ((rd_T92 x5_1 t228).f2) t251 t252 t253 1 t254 t255 t256 _ A16.out).mono ?_
     rintro e w70 ⟨rfl, hb⟩
     have HS5_ := (hb.cell (World.block_lt_of_cell? _ _ (hHeld.2.2.2.2.2.1))).trans (hHeld.2.2.2.2.2.1)
     have HS6_ := (hb.cell (World.block_lt_of_cell? _ _ (hHeld.2.2.2.2.2.2.1))).trans (hHeld.2.2.2.2.2.2.1)
     have HS7_ := (hb.cell (World.block_lt_of_cell? _ _ (hHeld.2.2.2.2.2.2.2))).trans (hHeld.2.2.2.2.2.2.2)
     refine ⟨_, rfl, ?_⟩
     replace HO_3 := uR HO_3 hb
     replace HO_5 := uR HO_5 hb
     replace BK249 := uK BK249 hb
     replace HK := zKK HK (KeepBut.of_below hb g none)
     replace HB := Aside0.mk (below_step (zB HB HI0) hb)
     replace HI0 := Aside0.mk (IsS54.below (keepF_ HI0 <| zI HI0) hb)
     (try clear hb)
     (try clear hk)
     (try clear hi)
     refine hK.out _ _ ⟨cb BK249 0, cb BK249 1, cb BK249 2, cb BK249 3, cb BK249 4, HS5_, HS6_, HS7_⟩ (fun hHeld => ?_)
     clear hK K
     refine nA ?_ (some 53)
     refine last_ (i := 9) (N := some 54) #[true, true, true, true, true, true, true, true, true, true, false, false] rfl rfl (one_of HT_.out (by kernel_rfl)) (by decide) (fun K hK => ?_)
     refine value_ (w1 := ?_) (v := ?_) (by rfl) rfl ?_ ?_
     rotate_left 2
     ·go_simp
      constructor
      ·rfl
      ·rfl
     refine hK.out _ _ ?_
     clear hK K
     refine nA ?_ (some 54)
     refine last_ (i := 10) (N := some 55) #[true, true, true, true, true, true, true, true, true, true, true, false] rfl rfl (one_of HT_.out (by kernel_rfl)) (by decide) (fun K hK => ?_)
     refine Kd.R_append_step k92 w.heap.size (by rfl) (.tmp 45) (.tmp 54) 93 92 (.agg #[(.int .i64 0), (.int .i64 0), (.int .i64 0)]) 24 rfl Tryz.underlying93 info92 rfl (by decide) (by omega) (.slice (some ad250) x5_1.length co68) x5_1 (⟨t254, t255, t256⟩ : S92) [.int .i64 t254, .int .i64 t255, .int .i64 t256] (fun _ => True) (fun _ => False) rfl rfl ?aP (fun _ hk => hk.elim) ?aF ?aO (Below.refl _ _) ?aS ?aL ?_
     (case aP => exact k92_mkM _ _ _ (⟨t254, t255, t256⟩ : S92))
     (case aF => exact (fun _ _ => trivial))
     (case aO => exact (upR HO_5.out))
     (case aS => exact (keep_size (w := w) (g := g) (row := none) (zK HK)))
     (case aL => have := LMc17.out; omega)
     intro v258 w71 ho hb hg hat
     rw [← Ny257.out] at ho
     have HO259 := Aside0.mk (ho)
     replace HO_3 := Aside0.mk (Kd.R_over' (upR HO_3.out) (Kd.R_typed (upR HO_5.out)) (by decide) hg)
     replace BK249 := Aside0.mk (blk_grown (g := gb249) (o := .cells #[.int .i64 t228, .int .i64 x6_1, .int .i64 t234, .int .i64 t240, .int .i64 t246] 32 (0, 0)) (upK BK249.out) hg (Kd.R_ne HO_5.out BK249.out (by decide)))
     replace HB := Aside0.mk (below_weaken (zB HB HI0) HL.out hb)
     replace HI0 := Aside0.mk (IsS54.grown (keepF_ HI0 <| zI HI0) hg (IsS54.own_ne HI0.out HO_5.out (by decide)))
     replace HK := Aside0.mk (KeepBut.trans (zK HK) (KeepBut.of_grown hg g) (Kd.R_base2 HO_5.out))
     clear HO_5
     clear ho hb hg hat
     refine hK.out _ _ ?_
     clear hK K
     refine nA ?_ (some 55)
     refine pA 11 5 HT_ ?_
     refine done_ (done_of HT_.out (by kernel_rfl)) ?_
     try go_wp2_with (first | ((with_reducible refine gC 59 ?_); refine zG (some 57) Tryz.func59 (spec_l1Cur_one.calls g s0_0 t247 t248 4 false t261 t262 w0 _ (zI HI0) (zB HB HI0) A18.out) ?_; rintro e w72 ⟨rfl, hi, hb, hk⟩; refine ⟨_, rfl, ?_⟩; replace HO_3 := zO t247 t248 HI0 HO_3 hk; replace BK249 := Aside0.mk (KeepBut.blk hk (g' := gb249) (o := .cells #[.int .i64 t228, .int .i64 x6_1, .int .i64 t234, .int .i64 t240, .int .i64 t246] 32 (0, 0)) (upK BK249.out) NB249_0.out (by simp)); replace HO259 := zO t247 t248 HI0 HO259 hk; replace HK := zKK HK hk; replace HB := Aside0.mk (hb); replace HI0 := Aside0.mk (hi); (try clear hb); (try clear hk); (try clear hi); have ⟨hcz73_0, hcz73_1, hcz73_2, hcz73_3, hcz73_4, hfz73_0⟩ := cz5 BK249) | ((with_reducible refine gate_builtin (b := .append) (xs := #[.tmp 60, .tmp 62]) rfl ?_); at_builtin; refine Kd.R_append k32 w.heap.size rfl (.tmp 60) (.tmp 62) 24 32 (.agg #[(.int .i64 0), (.int .i64 0), (.int .i64 0), (.int .i64 0), (.int .i64 0)]) 40 rfl Tryz.underlying24 info32 rfl (by decide) (by omega) u3 x3_1 (⟨t228, x6_1, t234, t240, t246⟩ : S32) [.int .i64 t228, .int .i64 x6_1, .int .i64 t234, .int .i64 t240, .int .i64 t246] (fun k_ => k_ ≠ gb249) (fun _ => False) rfl rfl ?aP (fun _ hk => hk.elim) ?aF ?aO (Below.refl _ _) ?aS ?aL ?_; (case aP => exact k32_mkM _ _ _ (⟨t228, x6_1, t234, t240, t246⟩ : S32)); (case aF => exact (fun k_ hk => Kd.freshB (g := gb249) (o := .cells #[.int .i64 t228, .int .i64 x6_1, .int .i64 t234, .int .i64 t240, .int .i64 t246] 32 (0, 0)) (upK BK249.out) k_ hk)); (case aO => exact (upR HO_3.out)); (case aS => exact (keep_size (w := w) (g := g) (row := none) (zK HK))); (case aL => have := LMc49.out; omega); intro v272 w74 ho hb hg hat; rw [← Ny271.out] at ho; have HO273 := Aside0.mk (ho); replace BK249 := Aside0.mk (blk_grown (g := gb249) (o := .cells #[.int .i64 t228, .int .i64 x6_1, .int .i64 t234, .int .i64 t240, .int .i64 t246] 32 (0, 0)) (upK BK249.out) hg (Kd.R_away HO_3.out (fun _ hk => hk))); replace HO259 := Aside0.mk (Kd.R_over' (upR HO259.out) (Kd.R_typed (upR HO_3.out)) (by decide) hg); replace HB := Aside0.mk (below_weaken (zB HB HI0) HL.out hb); replace HI0 := Aside0.mk (IsS54.grown (keepF_ HI0 <| zI HI0) hg (IsS54.own_ne HI0.out HO_3.out (by decide))); replace HK := Aside0.mk (KeepBut.trans (zK HK) (KeepBut.of_grown hg g) (Kd.R_base2 HO_3.out)); clear HO_3; clear ho hb hg hat))
     go_roundg k1
     case measure => have := HK1.out; omega
     case rel => exact ⟨(y271), (y257), (wrap64 (x6_1 + 1)), (t261), (t262), rB, H', ⟨by have := HK1.out; omega⟩, ⟨Kd.R_mono (upR HO273.out) (fun _ hk => trivial)⟩, ⟨upR HO259.out⟩, ⟨zI HI0⟩, ⟨zK HK⟩, ⟨zB HB HI0⟩⟩
   ·replace H := Option.bind_eq_some_iff.mp H
    obtain ⟨⟨t274, t275, t276⟩, A750, H⟩ := H
    (try dsimp only at H)
    have A75 := Aside0.mk A750
    clear A750
    have H' := Aside0.mk H
    clear H
    go_wp2_with (first | ((with_reducible refine gC 60 ?_); refine zG (some 65) Tryz.func60 (spec_l1Cur_pick.calls g s0_0 x1001_1 x1002_1 4 t274 t275 t276 w0 _ (zI HI0) (zB HB HI0) A75.out) ?_; rintro e w76 ⟨rfl, hi, hb, hk⟩; refine ⟨_, rfl, ?_⟩; replace HO_3 := zO x1001_1 x1002_1 HI0 HO_3 hk; replace HO_5 := zO x1001_1 x1002_1 HI0 HO_5 hk; replace HK := zKK HK hk; replace HB := Aside0.mk (hb); replace HI0 := Aside0.mk (hi); (try clear hb); (try clear hk); (try clear hi)))
    (try simp only [Act.put, List.setIfInBounds_toArray, List.set_cons_zero, List.set_cons_succ])
    go_loopg [3, 8] k1 (fun kq v3 v8 w' => ∃ (x3_2 : List (S32)) (x8_2 x1001_2 x1002_2 : Int), v8 = .int .i64 x8_2 ∧ Aside0 (spec_l1Cur_cave.l1 kq x3_2 (wrap64 (2 + t222)) x5_1 x8_2 s0_0 x1001_2 x1002_2 = some (r1, r2, r3)) ∧ Aside0 (kq ≤ k1) ∧ Aside0 (Kd.R k32 32 w' w.heap.size (fun _ => True) v3 x3_2) ∧ Aside0 (Kd.R k92 92 w' w.heap.size (fun _ => True) u5 x5_1) ∧ Aside0 (IsS54 w0 w' g s0_0 x1001_2 x1002_2) ∧ Aside0 (KeepBut w w' g none) ∧ Aside0 (Below w0.heap.size w0 w'))
    case atStart => exact ⟨(x3_1), (t274), (t275), (t276), rB, H', ⟨Nat.le_refl _⟩, ⟨upR HO_3.out⟩, ⟨upR HO_5.out⟩, ⟨zI HI0⟩, ⟨zK HK⟩, ⟨zB HB HI0⟩⟩
    case round =>
     clear H'
     try clear c8b0
     obtain ⟨x3_2, x8_2, x1001_2, x1002_2, rfl, HA, HK2, HO_3, HO_5, HI0, HK, HB⟩ := hrel
     cases gk with
     | zero => exact absurd HA.out (by simp [spec_l1Cur_cave.l1])
     | succ k2 =>
      have H := HA.out
      clear HA
      simp only [spec_l1Cur_cave.l1] at H
      replace H := ifD H
      rcases H with ⟨H, -, c77b0⟩ | ⟨H, -, c77b0⟩
      ·replace H := Option.bind_eq_some_iff.mp H
       obtain ⟨⟨t277, t278, t279⟩, A780, H⟩ := H
       (try dsimp only at H)
       have A78 := Aside0.mk A780
       clear A780
       replace H := Option.bind_eq_some_iff.mp H
       obtain ⟨⟨t280, t281, t282⟩, A790, H⟩ := H
       (try dsimp only at H)
       have A79 := Aside0.mk A790
       clear A790
       replace H := zN H
       obtain ⟨c80b0, H⟩ := H
       replace H := zN H
       obtain ⟨c81b0, H⟩ := H
       replace H := zN H
       obtain ⟨c82b0, H⟩ := H
       replace H := zN H
       obtain ⟨c83b0, H⟩ := H
       replace H := Option.bind_eq_some_iff.mp H
       obtain ⟨⟨t285, t286, t287⟩, A840, H⟩ := H
       (try dsimp only at H)
       have A84 := Aside0.mk A840
       clear A840
       replace H := Option.bind_eq_some_iff.mp H
       obtain ⟨⟨t289, t290⟩, A850, H⟩ := H
       (try dsimp only at H)
       have A85 := Aside0.mk A850
       clear A850
       replace H := Option.bind_eq_some_iff.mp H
       obtain ⟨⟨t291, t292⟩, A860, H⟩ := H
       (try dsimp only at H)
       have A86 := Aside0.mk A860
       clear A860
       have HC87 := Aside0.mk H
       clear H
       try go_wp2_with (first | ((with_reducible refine gC 60 ?_); refine zG (some 72) Tryz.func60 (spec_l1Cur_pick.calls g s0_0 x1001_2 x1002_2 (wrap64 (2 + t222)) t277 t278 t279 w0 _ (zI HI0) (zB HB HI0) A78.out) ?_; rintro e w88 ⟨rfl, hi, hb, hk⟩; refine ⟨_, rfl, ?_⟩; replace HO_3 := zO x1001_2 x1002_2 HI0 HO_3 hk; replace HO_5 := zO x1001_2 x1002_2 HI0 HO_5 hk; replace HK := zKK HK hk; replace HB := Aside0.mk (hb); replace HI0 := Aside0.mk (hi); (try clear hb); (try clear hk); (try clear hi)) | ((with_reducible refine gC 60 ?_); refine zG (some 75) Tryz.func60 (spec_l1Cur_pick.calls g s0_0 t278 t279 (wrap64 (2 + t222)) t280 t281 t282 w0 _ (zI HI0) (zB HB HI0) A79.out) ?_; rintro e w89 ⟨rfl, hi, hb, hk⟩; refine ⟨_, rfl, ?_⟩; replace HO_3 := zO t278 t279 HI0 HO_3 hk; replace HO_5 := zO t278 t279 HI0 HO_5 hk; replace HK := zKK HK hk; replace HB := Aside0.mk (hb); replace HI0 := Aside0.mk (hi); (try clear hb); (try clear hk); (try clear hi)))
       replace HO_3 := Aside0.mk (Kd.R_drew HO_3.out)
       replace HO_5 := Aside0.mk (Kd.R_drew HO_5.out)
       replace HI0 := Aside0.mk (IsS54.drew HI0.out)
       replace HK := Aside0.mk (keep_drew HK.out)
       replace HB := Aside0.mk (below_drew1 HB.out)
       obtain ⟨Ao91, co91, eo91⟩ := Kd.R_slice HO_5.out
       (first | subst eo91 | (injection eo91 with f1_ f2_ f3_; have f4_ := f1_.symm; have f5_ := f3_.symm; clear f1_ f2_ f3_; subst f4_; subst f5_))
       have p283 : 0 ≤ (t280 : Int) := of_decide_eq_true asmB
       have q283 : t280 < (x5_1.length : Int) := of_decide_eq_true asmB
       obtain ⟨ad283, e283, hx283_0, hx283_1, hx283_2⟩ := at_T92 (Kd.R_reads' HO_5.out).2.2 t280 p283 q283
       cases e283
       replace p283 := eq_true p283
       replace q283 := eq_true q283
       have p284 : 0 ≤ (t277 : Int) := of_decide_eq_true asmB
       have q284 : t277 < (x5_1.length : Int) := of_decide_eq_true asmB
       obtain ⟨ad284, e284, hx284_0, hx284_1, hx284_2⟩ := at_T92 (Kd.R_reads' HO_5.out).2.2 t277 p284 q284
       obtain rfl : ad283 = ad284 := (by injection e284)
       replace p284 := eq_true p284
       replace q284 := eq_true q284
       refine sA (n := 11) (S := fun w' => w'.cell? (ad283.add ((t280).toNat * 3)) = some (.int .i64 ((rd_T92 x5_1 t280).f0)) ∧ w'.cell? ⟨(ad283.add ((t280).toNat * 3)).block, (ad283.add ((t280).toNat * 3)).off + 1, none⟩ = some (.int .i64 ((rd_T92 x5_1 t280).f1)) ∧ w'.cell? ⟨(ad283.add ((t280).toNat * 3)).block, (ad283.add ((t280).toNat * 3)).off + 2, none⟩ = some (.int .i64 ((rd_T92 x5_1 t280).f2)) ∧ w'.cell? (ad283.add ((t277).toNat * 3)) = some (.int .i64 ((rd_T92 x5_1 t277).f0)) ∧ w'.cell? ⟨(ad283.add ((t277).toNat * 3)).block, (ad283.add ((t277).toNat * 3)).off + 1, none⟩ = some (.int .i64 ((rd_T92 x5_1 t277).f1)) ∧ w'.cell? ⟨(ad283.add ((t277).toNat * 3)).block, (ad283.add ((t277).toNat * 3)).off + 2, none⟩ = some (.int .i64 ((rd_T92 x5_1 t277).f2))) (ds := []) spec_l1Cur_cave.tab16 spec_l1Cur_cave.bits16 #[false, false, false, false, false, false, false, false, false, false, false] ⟨hx283_0, hx283_1, hx283_2, hx284_0, hx284_1, hx284_2⟩ fun hHeld HT_ HW_ => ?_
       generalize w89.drew = w90 at HO_3 HO_5 HI0 HK HB hx283_0 hx283_1 hx283_2 hx284_0 hx284_1 hx284_2 hHeld ⊢
       refine pA 0 76 HT_ ?_
       refine pA 1 77 HT_ ?_
       refine pA 2 78 HT_ ?_
       refine pA 4 80 HT_ ?_
       refine pA 5 81 HT_ ?_
       refine pA 6 82 HT_ ?_
       refine tA 3 79 HT_ HW_ hHeld ?_
       refine tA 7 83 HT_ HW_ hHeld ?_
       refine join_ (σ := Nat) 1 #[true, true, true, true, true, true, true, true, true, true, false] (fun s_ => [(84, .agg #[.int .i64 t285, .int .i64 t286, .int .i64 t287]), (11, .pointer (some ⟨s_, 0, none⟩))]) (fun s_ w' => (w'.cell? (ad283.add ((t280).toNat * 3)) = some (.int .i64 ((rd_T92 x5_1 t280).f0)) ∧ w'.cell? ⟨(ad283.add ((t280).toNat * 3)).block, (ad283.add ((t280).toNat * 3)).off + 1, none⟩ = some (.int .i64 ((rd_T92 x5_1 t280).f1)) ∧ w'.cell? ⟨(ad283.add ((t280).toNat * 3)).block, (ad283.add ((t280).toNat * 3)).off + 2, none⟩ = some (.int .i64 ((rd_T92 x5_1 t280).f2)) ∧ w'.cell? (ad283.add ((t277).toNat * 3)) = some (.int .i64 ((rd_T92 x5_1 t277).f0)) ∧ w'.cell? ⟨(ad283.add ((t277).toNat * 3)).block, (ad283.add ((t277).toNat * 3)).off + 1, none⟩ = some (.int .i64 ((rd_T92 x5_1 t277).f1)) ∧ w'.cell? ⟨(ad283.add ((t277).toNat * 3)).block, (ad283.add ((t277).toNat * 3)).off + 2, none⟩ = some (.int .i64 ((rd_T92 x5_1 t277).f2))) ∧ (Kd.R k32 32 w' w.heap.size (fun _ => True) u3 x3_2) ∧ (Kd.R k92 92 w' w.heap.size (fun k_ => k_ ≠ s_) (.slice (some ad283) x5_1.length co91) x5_1) ∧ (w'.heap[s_]? = some (.cells #[.int .i64 0, .int .i64 0, .int .i64 0] 92 (0, 0))) ∧ (w.heap.size ≤ s_) ∧ (w0.heap.size ≤ s_) ∧ (g ≠ s_) ∧ (s_ ≠ g) ∧ (IsS54 w0 w' g s0_0 t281 t282) ∧ (KeepBut w w' g none) ∧ (Below w0.heap.size w0 w')) ?_ ?_
       rotate_left
       ·intro hCont
        refine two_ (i := 8) (j := 9) (Ni := some 84) (Nj := some 11) #[true, true, true, true, true, true, true, true, true, false, false] #[true, true, true, true, true, true, true, true, false, true, false] rfl rfl rfl rfl (two_of HT_.out (by kernel_rfl)) (by decide) (by decide) (fun K hK => ?_) (fun K hK => ?_)
        ·skip
         refine goes_ Tryz.func83 (by kernel_rfl) rfl #[.agg #[.int .i64 ((rd_T92 x5_1 t280).f0), .int .i64 ((rd_T92 x5_1 t280).f1), .int .i64 ((rd_T92 x5_1 t280).f2)], .agg #[.int .i64 ((rd_T92 x5_1 t277).f0), .int .i64 ((rd_T92 x5_1 t277).f1), .int .i64 ((rd_T92 x5_1 t277).f2)], .int .i64 (-1)] (by rfl) rfl rfl argsB ?_
         with_reducible refine (spec_l4Plus.calls ((rd_T92 x5_1 t280).f0) ((rd_T92 x5_1 t280).f1) ((rd_T92 x5_1 t280).f2) ((rd_T92 x5_1 t277).f0) ((rd_T92 x5_1 t277).f1) ((rd_T92 x5_1 t277).f2) (-1) t285 t286 t287 _ A84.out).mono ?_
         rintro e w92 ⟨rfl, hb⟩
         have HS0_ := (hb.cell (World.block_lt_of_cell? _ _ (hHeld.1))).trans (hHeld.1)
         have HS1_ := (hb.cell (World.block_lt_of_cell? _ _ (hHeld.2.1))).trans (hHeld.2.1)
         have HS2_ := (hb.cell (World.block_lt_of_cell? _ _ (hHeld.2.2.1))).trans (hHeld.2.2.1)
         have HS3_ := (hb.cell (World.block_lt_of_cell? _ _ (hHeld.2.2.2.1))).trans (hHeld.2.2.2.1)
         have HS4_ := (hb.cell (World.block_lt_of_cell? _ _ (hHeld.2.2.2.2.1))).trans (hHeld.2.2.2.2.1)
         have HS5_ := (hb.cell (World.block_lt_of_cell? _ _ (hHeld.2.2.2.2.2))).trans (hHeld.2.2.2.2.2)
         refine ⟨_, rfl, ?_⟩
         replace HO_3 := uR HO_3 hb
         replace HO_5 := uR HO_5 hb
         replace HK := zKK HK (KeepBut.of_below hb g none)
         replace HB := Aside0.mk (below_step (zB HB HI0) hb)
         replace HI0 := Aside0.mk (IsS54.below (keepF_ HI0 <| zI HI0) hb)
         (try clear hb)
         (try clear hk)
         (try clear hi)
         refine hK.out _ _ ⟨HS0_, HS1_, HS2_, HS3_, HS4_, HS5_⟩ (fun hHeld => ?_)
         clear hK K
         refine nA ?_ (some 84)
         refine oA 9 (some 11) HT_ fun K hK => ?_
         refine box_step ?hg (N := 11) ?hd (cs := #[.int .i64 0, .int .i64 0, .int .i64 0]) (t := 92) ?hr ?_; (case hd => rfl); (case hg => rfl); (case hr => first | (go_simp; done) | (go_simp; rfl))
         intro gb288 hg w93 hbox hb
         have HS0_ := (hb.cell (World.block_lt_of_cell? _ _ (hHeld.1))).trans (hHeld.1)
         have HS1_ := (hb.cell (World.block_lt_of_cell? _ _ (hHeld.2.1))).trans (hHeld.2.1)
         have HS2_ := (hb.cell (World.block_lt_of_cell? _ _ (hHeld.2.2.1))).trans (hHeld.2.2.1)
         have HS3_ := (hb.cell (World.block_lt_of_cell? _ _ (hHeld.2.2.2.1))).trans (hHeld.2.2.2.1)
         have HS4_ := (hb.cell (World.block_lt_of_cell? _ _ (hHeld.2.2.2.2.1))).trans (hHeld.2.2.2.2.1)
         have HS5_ := (hb.cell (World.block_lt_of_cell? _ _ (hHeld.2.2.2.2.2))).trans (hHeld.2.2.2.2.2)
         have BK288 := Aside0.mk hbox
         have GW288 := Aside0.mk ((by rw [hg]; exact (keep_size (w := w) (g := g) (row := none) (zK HK)) : w.heap.size ≤ gb288))
         have GE288 := Aside0.mk ((Nat.le_trans HW0.out (by rw [hg]; exact (keep_size (w := w) (g := g) (row := none) (zK HK)) : w.heap.size ≤ gb288) : w0.heap.size ≤ gb288))
         have NB0_288 := Aside0.mk ((by rw [hg]; exact Nat.ne_of_lt (IsS54.lt (show IsS54 w0 _ g s0_0 t281 t282 from zI HI0)) : g ≠ gb288))
         have NB288_0 := Aside0.mk ((by rw [hg]; exact Nat.ne_of_gt (IsS54.lt (show IsS54 w0 _ g s0_0 t281 t282 from zI HI0)) : gb288 ≠ g))
         replace HO_3 := uR HO_3 hb
         replace HO_5 := Aside0.mk (Kd.R_below (Kd.R_elderB (upR HO_5.out) gb288 (Nat.le_of_eq hg.symm)) hb)
         replace HK := zKK HK (KeepBut.of_below hb g none)
         replace HB := Aside0.mk (below_step (zB HB HI0) hb)
         replace HI0 := Aside0.mk (IsS54.below (keepF_ HI0 <| zI HI0) hb)
         clear hb hbox hg
         refine hK.out _ _ ⟨HS0_, HS1_, HS2_, HS3_, HS4_, HS5_⟩ (fun hHeld => ?_)
         clear hK K
         refine nA ?_ (some 11)
         exact norm_ (by simp only [putAll, Act.put, List.setIfInBounds_toArray, List.set_cons_zero, List.set_cons_succ]) (hCont (gb288) _ ⟨hHeld, (upR HO_3.out), (Kd.R_mono (upR HO_5.out) (fun _ hk => hk.2)), (upK BK288.out), GW288.out, GE288.out, NB0_288.out, NB288_0.out, (zI HI0), (zK HK), (zB HB HI0)⟩)
        ·skip
         refine box_step ?hg (N := 11) ?hd (cs := #[.int .i64 0, .int .i64 0, .int .i64 0]) (t := 92) ?hr ?_; (case hd => rfl); (case hg => rfl); (case hr => first | (go_simp; done) | (go_simp; rfl))
         intro gb288 hg w92 hbox hb
         have HS0_ := (hb.cell (World.block_lt_of_cell? _ _ (hHeld.1))).trans (hHeld.1)
         have HS1_ := (hb.cell (World.block_lt_of_cell? _ _ (hHeld.2.1))).trans (hHeld.2.1)
         have HS2_ := (hb.cell (World.block_lt_of_cell? _ _ (hHeld.2.2.1))).trans (hHeld.2.2.1)
         have HS3_ := (hb.cell (World.block_lt_of_cell? _ _ (hHeld.2.2.2.1))).trans (hHeld.2.2.2.1)
         have HS4_ := (hb.cell (World.block_lt_of_cell? _ _ (hHeld.2.2.2.2.1))).trans (hHeld.2.2.2.2.1)
         have HS5_ := (hb.cell (World.block_lt_of_cell? _ _ (hHeld.2.2.2.2.2))).trans (hHeld.2.2.2.2.2)
         have BK288 := Aside0.mk hbox
         have GW288 := Aside0.mk ((by rw [hg]; exact (keep_size (w := w) (g := g) (row := none) (zK HK)) : w.heap.size ≤ gb288))
         have GE288 := Aside0.mk ((Nat.le_trans HW0.out (by rw [hg]; exact (keep_size (w := w) (g := g) (row := none) (zK HK)) : w.heap.size ≤ gb288) : w0.heap.size ≤ gb288))
         have NB0_288 := Aside0.mk ((by rw [hg]; exact Nat.ne_of_lt (IsS54.lt (show IsS54 w0 _ g s0_0 t281 t282 from zI HI0)) : g ≠ gb288))
         have NB288_0 := Aside0.mk ((by rw [hg]; exact Nat.ne_of_gt (IsS54.lt (show IsS54 w0 _ g s0_0 t281 t282 from zI HI0)) : gb288 ≠ g))
         replace HO_3 := uR HO_3 hb
         replace HO_5 := Aside0.mk (Kd.R_below (Kd.R_elderB (upR HO_5.out) gb288 (Nat.le_of_eq hg.symm)) hb)
         replace HK := zKK HK (KeepBut.of_below hb g none)
         replace HB := Aside0.mk (below_step (zB HB HI0) hb)
         replace HI0 := Aside0.mk (IsS54.below (keepF_ HI0 <| zI HI0) hb)
         clear hb hbox hg
         refine hK.out _ _ ⟨HS0_, HS1_, HS2_, HS3_, HS4_, HS5_⟩ (fun hHeld => ?_)
         clear hK K
         refine nA ?_ (some 11)
         refine oA 8 (some 84) HT_ fun K hK => ?_
         refine goes_ Tryz.func83 (by kernel_rfl) rfl #[.agg #[.int .i64 ((rd_T92 x5_1 t280).f0), .int .i64 ((rd_T92 x5_1 t280).f1), .int .i64 ((rd_T92 x5_1 t280).f2)], .agg #[.int .i64 ((rd_T92 x5_1 t277).f0), .int .i64 ((rd_T92 x5_1 t277).f1), .int .i64 ((rd_T92 x5_1 t277).f2)], .int .i64 (-1)] (by rfl) rfl rfl argsB ?_
         with_reducible refine (spec_l4Plus.calls ((rd_T92 x5_1 t280).f0) ((rd_T92 x5_1 t280).f1) ((rd_T92 x5_1 t280).f2) ((rd_T92 x5_1 t277).f0) ((rd_T92 x5_1 t277).f1) ((rd_T92 x5_1 t277).f2) (-1) t285 t286 t287 _ A84.out).mono ?_
         rintro e w93 ⟨rfl, hb⟩
         have HS0_ := (hb.cell (World.block_lt_of_cell? _ _ (hHeld.1))).trans (hHeld.1)
         have HS1_ := (hb.cell (World.block_lt_of_cell? _ _ (hHeld.2.1))).trans (hHeld.2.1)
         have HS2_ := (hb.cell (World.block_lt_of_cell? _ _ (hHeld.2.2.1))).trans (hHeld.2.2.1)
         have HS3_ := (hb.cell (World.block_lt_of_cell? _ _ (hHeld.2.2.2.1))).trans (hHeld.2.2.2.1)
         have HS4_ := (hb.cell (World.block_lt_of_cell? _ _ (hHeld.2.2.2.2.1))).trans (hHeld.2.2.2.2.1)
         have HS5_ := (hb.cell (World.block_lt_of_cell? _ _ (hHeld.2.2.2.2.2))).trans (hHeld.2.2.2.2.2)
         refine ⟨_, rfl, ?_⟩
         replace HO_3 := uR HO_3 hb
         replace HO_5 := uR HO_5 hb
         replace BK288 := uK BK288 hb
         replace HK := zKK HK (KeepBut.of_below hb g none)
         replace HB := Aside0.mk (below_step (zB HB HI0) hb)
         replace HI0 := Aside0.mk (IsS54.below (keepF_ HI0 <| zI HI0) hb)
         (try clear hb)
         (try clear hk)
         (try clear hi)
         refine hK.out _ _ ⟨HS0_, HS1_, HS2_, HS3_, HS4_, HS5_⟩ (fun hHeld => ?_)
         clear hK K
         refine nA ?_ (some 84)
         exact norm_ (by simp only [putAll, Act.put, List.setIfInBounds_toArray, List.set_cons_zero, List.set_cons_succ]) (hCont (gb288) _ ⟨hHeld, (upR HO_3.out), (Kd.R_mono (upR HO_5.out) (fun _ hk => hk.2)), (upK BK288.out), GW288.out, GE288.out, NB0_288.out, NB288_0.out, (zI HI0), (zK HK), (zB HB HI0)⟩)
       rintro gb288 w94 ⟨hS_, h0_, h1_, h2_, h3_, h4_, h5_, h6_, h7_, h8_, h9_⟩
       have n0_ : Aside0 (Kd.R k32 32 w94 w.heap.size (fun _ => True) u3 x3_2) := ⟨h0_⟩
       have n1_ : Aside0 (Kd.R k92 92 w94 w.heap.size (fun k_ => k_ ≠ gb288) (.slice (some ad283) x5_1.length co91) x5_1) := ⟨h1_⟩
       have n2_ : Aside0 (w94.heap[gb288]? = some (.cells #[.int .i64 0, .int .i64 0, .int .i64 0] 92 (0, 0))) := ⟨h2_⟩
       have n3_ : Aside0 (w.heap.size ≤ gb288) := ⟨h3_⟩
       have n4_ : Aside0 (w0.heap.size ≤ gb288) := ⟨h4_⟩
       have n5_ : Aside0 (g ≠ gb288) := ⟨h5_⟩
       have n6_ : Aside0 (gb288 ≠ g) := ⟨h6_⟩
       have n7_ : Aside0 (IsS54 w0 w94 g s0_0 t281 t282) := ⟨h7_⟩
       have n8_ : Aside0 (KeepBut w w94 g none) := ⟨h8_⟩
       have n9_ : Aside0 (Below w0.heap.size w0 w94) := ⟨h9_⟩
       clear HO_3
       clear HO_5
       clear HI0
       clear HK
       clear HB
       clear h0_ h1_ h2_ h3_ h4_ h5_ h6_ h7_ h8_ h9_
       have HO_3 := n0_
       have HO_5 := n1_
       have BK288 := n2_
       have GW288 := n3_
       have GE288 := n4_
       have NB0_288 := n5_
       have NB288_0 := n6_
       have HI0 := n7_
       have HK := n8_
       have HB := n9_
       clear n0_ n1_ n2_ n3_ n4_ n5_ n6_ n7_ n8_ n9_
       have hHeld : w94.cell? (ad283.add ((t280).toNat * 3)) = some (.int .i64 ((rd_T92 x5_1 t280).f0)) ∧ w94.cell? ⟨(ad283.add ((t280).toNat * 3)).block, (ad283.add ((t280).toNat * 3)).off + 1, none⟩ = some (.int .i64 ((rd_T92 x5_1 t280).f1)) ∧ w94.cell? ⟨(ad283.add ((t280).toNat * 3)).block, (ad283.add ((t280).toNat * 3)).off + 2, none⟩ = some (.int .i64 ((rd_T92 x5_1 t280).f2)) ∧ w94.cell? (ad283.add ((t277).toNat * 3)) = some (.int .i64 ((rd_T92 x5_1 t277).f0)) ∧ w94.cell? ⟨(ad283.add ((t277).toNat * 3)).block, (ad283.add ((t277).toNat * 3)).off + 1, none⟩ = some (.int .i64 ((rd_T92 x5_1 t277).f1)) ∧ w94.cell? ⟨(ad283.add ((t277).toNat * 3)).block, (ad283.add ((t277).toNat * 3)).off + 2, none⟩ = some (.int .i64 ((rd_T92 x5_1 t277).f2)) := hS_
       refine norm_ (a' := ?_) ?_ ?_
       rotate_left
       ·simp only [putAll, Act.put, List.setIfInBounds_toArray, List.set_cons_zero, List.set_cons_succ]
        rfl
       refine oA 10 none HT_ fun K hK => ?_
       have hs95 := ci BK288.out 0 0 rfl
       have hfs95 := blk_frozen BK288.out 0
       have hs96 := ci BK288.out 1 0 rfl
       have hfs96 := blk_frozen BK288.out 1
       have hs97 := ci BK288.out 2 0 rfl
       have hfs97 := blk_frozen BK288.out 2
       refine skip_ (w1 := ?_) (by rfl) rfl ?_ ?_
       rotate_left
       ·go_simp
        rfl
       refine hK.out _ _ ⟨((cell_far (p := ⟨gb288, _, none⟩) (zA (Kd.own_blk (Kd.R_away HO_5.out (fun _ hk => hk)))) _).trans (((cell_far (p := ⟨gb288, _, none⟩) (zA (Kd.own_blk (Kd.R_away HO_5.out (fun _ hk => hk)))) _).trans (((cell_far (p := ⟨gb288, _, none⟩) (zA (Kd.own_blk (Kd.R_away HO_5.out (fun _ hk => hk)))) _).trans (hHeld.1)))))), ((cell_far (p := ⟨gb288, _, none⟩) (zA (Kd.own_blk (Kd.R_away HO_5.out (fun _ hk => hk)))) _).trans (((cell_far (p := ⟨gb288, _, none⟩) (zA (Kd.own_blk (Kd.R_away HO_5.out (fun _ hk => hk)))) _).trans (((cell_far (p := ⟨gb288, _, none⟩) (zA (Kd.own_blk (Kd.R_away HO_5.out (fun _ hk => hk)))) _).trans (hHeld.2.1)))))), ((cell_far (p := ⟨gb288, _, none⟩) (zA (Kd.own_blk (Kd.R_away HO_5.out (fun _ hk => hk)))) _).trans (((cell_far (p := ⟨gb288, _, none⟩) (zA (Kd.own_blk (Kd.R_away HO_5.out (fun _ hk => hk)))) _).trans (((cell_far (p := ⟨gb288, _, none⟩) (zA (Kd.own_blk (Kd.R_away HO_5.out (fun _ hk => hk)))) _).trans (hHeld.2.2.1)))))), ((cell_far (p := ⟨gb288, _, none⟩) (zA (Kd.own_blk (Kd.R_away HO_5.out (fun _ hk => hk)))) _).trans (((cell_far (p := ⟨gb288, _, none⟩) (zA (Kd.own_blk (Kd.R_away HO_5.out (fun _ hk => hk)))) _).trans (((cell_far (p := ⟨gb288, _, none⟩) (zA (Kd.own_blk (Kd.R_away HO_5.out (fun _ hk => hk)))) _).trans (hHeld.2.2.2.1)))))), ((cell_far (p := ⟨gb288, _, none⟩) (zA (Kd.own_blk (Kd.R_away HO_5.out (fun _ hk => hk)))) _).trans (((cell_far (p := ⟨gb288, _, none⟩) (zA (Kd.own_blk (Kd.R_away HO_5.out (fun _ hk => hk)))) _).trans (((cell_far (p := ⟨gb288, _, none⟩) (zA (Kd.own_blk (Kd.R_away HO_5.out (fun _ hk => hk)))) _).trans (hHeld.2.2.2.2.1)))))), ((cell_far (p := ⟨gb288, _, none⟩) (zA (Kd.own_blk (Kd.R_away HO_5.out (fun _ hk => hk)))) _).trans (((cell_far (p := ⟨gb288, _, none⟩) (zA (Kd.own_blk (Kd.R_away HO_5.out (fun _ hk => hk)))) _).trans (((cell_far (p := ⟨gb288, _, none⟩) (zA (Kd.own_blk (Kd.R_away HO_5.out (fun _ hk => hk)))) _).trans (hHeld.2.2.2.2.2))))))⟩ (fun hHeld => ?_)
       clear hK K
       refine done_ (done_of HT_.out (by kernel_rfl)) ?_
       have hnb98 := NB288_0.out
       have hnc98 := NB0_288.out
       have ⟨hcz99_0, hcz99_1, hcz99_2, hfz99_0⟩ := cz3 BK288
       go_upto_region 19 with (first | ((with_reducible refine gC 86 ?_); refine lA (some 90) Tryz.func86 (spec_LengthOf.calls k2 t285 t286 0 t289 t290 _ A85.out) ?_; rintro _ ⟨nd, rfl⟩) | ((with_reducible refine gC 86 ?_); refine lA (some 100) Tryz.func86 (spec_LengthOf.calls k2 t285 t286 t287 t291 t292 _ A86.out) ?_; rintro _ ⟨nd, rfl⟩))
       (try simp only [Act.put, List.setIfInBounds_toArray, List.set_cons_zero, List.set_cons_succ])
       go_cut [111] (fun v111 wc => ∃ (kq : Nat) (x111_86 : Bool), v111 = .bool x111_86 ∧ Aside0 (spec_l1Cur_cave.j2 kq x3_2 (wrap64 (2 + t222)) x5_1 x8_2 t277 t280 t289 t291 x111_86 s0_0 t281 t282 t285 t286 t287 = some (r1, r2, r3)) ∧ Aside0 (kq ≤ k2) ∧ Aside0 (Kd.R k32 32 wc w.heap.size (fun _ => True) u3 x3_2) ∧ Aside0 (Kd.R k92 92 wc w.heap.size (fun k_ => k_ ≠ gb288) (.slice (some ad283) x5_1.length co91) x5_1) ∧ Aside0 (wc.heap[gb288]? = some (.cells #[.int .i64 t285, .int .i64 t286, .int .i64 t287] 92 (0, 0))) ∧ Aside0 (IsS54 w0 wc g s0_0 t281 t282) ∧ Aside0 (KeepBut w wc g none) ∧ Aside0 (Below w0.heap.size w0 wc))
       case first =>
        have H := HC87.out
        clear HC87
        replace H := ifI H
        rcases H with ⟨H, -, c100b0, c100b1⟩ | ⟨H, c100, c100b0, c100b1⟩
        ·(first | rw [c100b0] | (simp only [i64_w, i32_w]; rw [c100b0]) | skip)
         have H' := Aside0.mk H
         clear H
         go_wp2
         go_meet
         case rel => exact ⟨_, (true), rB, H', ⟨by have := HK1.out; have := HK2.out; first | omega | exact Nat.le_refl _⟩, ⟨Kd.R_mono (zF (Kd.R_types HO_3.out BK288.out (by decide))) (fun _ hk => trivial)⟩, ⟨Kd.R_mono (zF (Kd.R_mono HO_5.out (fun k_ hk => (⟨hk, hk⟩ : _ ∧ k_ ≠ gb288)))) (fun _ hk => hk.1)⟩, ⟨by exact pW BK288⟩, ⟨zI HI0⟩, ⟨zK HK⟩, ⟨zB HB HI0⟩⟩
        ·(first | rw [c100b0] | (simp only [i64_w, i32_w]; rw [c100b0]) | skip)
         replace H := bA H
         obtain ⟨t293, A101, H⟩ := H
         have H' := Aside0.mk H
         clear H
         go_wp2_with (first | (go_at_call 64; (with_reducible refine (spec_l1In.calls (wrap64 (t291 + 3)) 4 500 t293 _ A101.out).mono ?_); rintro e w' ⟨rfl, ⟨nd, rfl⟩⟩))
         go_meet
         case rel => exact ⟨_, (!t293), rB, H', ⟨by have := HK1.out; have := HK2.out; first | omega | exact Nat.le_refl _⟩, ⟨Kd.R_mono (zF (Kd.R_types HO_3.out BK288.out (by decide))) (fun _ hk => trivial)⟩, ⟨Kd.R_mono (zF (Kd.R_mono HO_5.out (fun k_ hk => (⟨hk, hk⟩ : _ ∧ k_ ≠ gb288)))) (fun _ hk => hk.1)⟩, ⟨by exact pW BK288⟩, ⟨zI HI0⟩, ⟨zK HK⟩, ⟨zB HB HI0⟩⟩
       case rest =>
        clear HC87
        try clear c8b0
        try clear c77b0
        try clear c80
        try clear c80b0
        try clear c81
        try clear c81b0
        try clear c82
        try clear c82b0
        try clear c83
        try clear c83b0
        try clear hcz99_0
        try clear hcz99_1
        try clear hcz99_2
        try clear hfz99_0
        try clear hx283_0
        try clear hx283_1
        try clear hx283_2
        try clear hx284_0
        try clear hx284_1
        try clear hx284_2
        try clear p283
        try clear p284
        try clear q283
        try clear q284
        obtain ⟨kq, x111_86, rfl, HA, HJ86, HO_3, HO_5, BK288, HI0, HK, HB⟩ := hcut
        cases kq with
        | zero => exact absurd HA.out (by simp [spec_l1Cur_cave.j2])
        | succ kj86 =>
         have H := HA.out
         clear HA
         simp only [spec_l1Cur_cave.j2] at H
         rcases Bool.eq_false_or_eq_true x111_86 with rfl | rfl
         ·replace H := iT rfl H
          have H' := Aside0.mk H
          clear H
          go_wp2
          go_roundg kj86
          case measure => have := HK1.out; have := HK2.out; have := HJ86.out; omega
          case rel => exact ⟨(x3_2), (wrap64 (x8_2 - 1)), (t281), (t282), rB, H', ⟨by have := HK1.out; have := HK2.out; have := HJ86.out; omega⟩, ⟨upR HO_3.out⟩, ⟨Kd.R_mono (upR HO_5.out) (fun _ hk => trivial)⟩, ⟨zI HI0⟩, ⟨zK HK⟩, ⟨zB HB HI0⟩⟩
         ·replace H := iF (by decide) H
          replace H := Option.bind_eq_some_iff.mp H
          obtain ⟨⟨t294, t295⟩, A1030, H⟩ := H
          (try dsimp only at H)
          have A103 := Aside0.mk A1030
          clear A1030
          replace H := Option.bind_eq_some_iff.mp H
          obtain ⟨⟨t296, t297⟩, A1040, H⟩ := H
          (try dsimp only at H)
          have A104 := Aside0.mk A1040
          clear A1040
          replace H := Option.bind_eq_some_iff.mp H
          obtain ⟨⟨t298, t299, t300⟩, A1050, H⟩ := H
          (try dsimp only at H)
          have A105 := Aside0.mk A1050
          clear A1050
          replace H := Option.bind_eq_some_iff.mp H
          obtain ⟨⟨t301, t302, t303⟩, A1060, H⟩ := H
          (try dsimp only at H)
          have A106 := Aside0.mk A1060
          clear A1060
          replace H := zM H
          obtain ⟨c107, H⟩ := H
          have LMc107 := Aside0.mk c107
          clear c107
          obtain ⟨y304, hy304⟩ : ∃ y_ : List (S32), y_ = (x3_2 ++ [(⟨t277, t280, wrap64 (t291 + t298), Int.tmod (wrap64 (t294 + t301)) 360, t296⟩ : S32)]) := ⟨_, rfl⟩
          rw [← hy304] at H
          have Ny304 := Aside0.mk hy304
          clear hy304
          have H' := Aside0.mk H
          clear H
          have ⟨hcz109_0, hcz109_1, hcz109_2, hfz109_0⟩ := cz3 BK288
          go_wp2_with (first | ((with_reducible refine gC 87 ?_); refine lA (some 117) Tryz.func87 (spec_BearingTo.calls kj86 t285 t286 t294 t295 _ A103.out) ?_; intro w110 hb; replace HO_3 := uR HO_3 hb; replace HO_5 := uR HO_5 hb; replace BK288 := uK BK288 hb; replace HK := zKK HK (KeepBut.of_below hb g none); replace HB := Aside0.mk (below_step (zB HB HI0) hb); replace HI0 := Aside0.mk (IsS54.below (keepF_ HI0 <| zI HI0) hb); (try clear hb); (try clear hk); (try clear hi); have ⟨hcz111_0, hcz111_1, hcz111_2, hfz111_0⟩ := cz3 BK288) | ((with_reducible refine gC 88 ?_); refine lA (some 124) Tryz.func88 (spec_SlopeTo.calls kj86 t289 t287 t296 t297 _ A104.out) ?_; intro w112 hb; replace HO_3 := uR HO_3 hb; replace HO_5 := uR HO_5 hb; replace BK288 := uK BK288 hb; replace HK := zKK HK (KeepBut.of_below hb g none); replace HB := Aside0.mk (below_step (zB HB HI0) hb); replace HI0 := Aside0.mk (IsS54.below (keepF_ HI0 <| zI HI0) hb); (try clear hb); (try clear hk); (try clear hi)) | ((with_reducible refine gC 60 ?_); refine zG (some 132) Tryz.func60 (spec_l1Cur_pick.calls g s0_0 t281 t282 4 t298 t299 t300 w0 _ (zI HI0) (zB HB HI0) A105.out) ?_; rintro e w113 ⟨rfl, hi, hb, hk⟩; refine ⟨_, rfl, ?_⟩; replace HO_3 := zO t281 t282 HI0 HO_3 hk; replace HO_5 := zO t281 t282 HI0 HO_5 hk; replace BK288 := Aside0.mk (KeepBut.blk hk (g' := gb288) (o := .cells #[.int .i64 t285, .int .i64 t286, .int .i64 t287] 92 (0, 0)) (upK BK288.out) NB288_0.out (by simp)); replace HK := zKK HK hk; replace HB := Aside0.mk (hb); replace HI0 := Aside0.mk (hi); (try clear hb); (try clear hk); (try clear hi)) | ((with_reducible refine gC 60 ?_); refine zG (some 136) Tryz.func60 (spec_l1Cur_pick.calls g s0_0 t299 t300 3 t301 t302 t303 w0 _ (zI HI0) (zB HB HI0) A106.out) ?_; rintro e w114 ⟨rfl, hi, hb, hk⟩; refine ⟨_, rfl, ?_⟩; replace HO_3 := zO t299 t300 HI0 HO_3 hk; replace HO_5 := zO t299 t300 HI0 HO_5 hk; replace BK288 := Aside0.mk (KeepBut.blk hk (g' := gb288) (o := .cells #[.int .i64 t285, .int .i64 t286, .int .i64 t287] 92 (0, 0)) (upK BK288.out) NB288_0.out (by simp)); replace HK := zKK HK hk; replace HB := Aside0.mk (hb); replace HI0 := Aside0.mk (hi); (try clear hb); (try clear hk); (try clear hi)) | ((with_reducible refine gate_builtin (b := .append) (xs := #[.tmp 127, .tmp 141]) rfl ?_); at_builtin; refine Kd.R_append k32 w.heap.size rfl (.tmp 127) (.tmp 141) 24 32 (.agg #[(.int .i64 0), (.int .i64 0), (.int .i64 0), (.int .i64 0), (.int .i64 0)]) 40 rfl Tryz.underlying24 info32 rfl (by decide) (by omega) u3 x3_2 (⟨t277, t280, wrap64 (t291 + t298), Int.tmod (wrap64 (t294 + t301)) 360, t296⟩ : S32) [.int .i64 t277, .int .i64 t280, .int .i64 (wrap64 (t291 + t298)), .int .i64 (Int.tmod (wrap64 (t294 + t301)) 360), .int .i64 t296] (fun _ => True) (fun _ => False) rfl rfl ?aP (fun _ hk => hk.elim) ?aF ?aO (Below.refl _ _) ?aS ?aL ?_; (case aP => exact k32_mkM _ _ _ (⟨t277, t280, wrap64 (t291 + t298), Int.tmod (wrap64 (t294 + t301)) 360, t296⟩ : S32)); (case aF => exact (fun _ _ => trivial)); (case aO => exact (upR HO_3.out)); (case aS => exact (keep_size (w := w) (g := g) (row := none) (zK HK))); (case aL => have := LMc107.out; omega); intro v305 w115 ho hb hg hat; rw [← Ny304.out] at ho; have HO306 := Aside0.mk (ho); replace HO_5 := Aside0.mk (Kd.R_over' (upR HO_5.out) (Kd.R_typed (upR HO_3.out)) (by decide) hg); replace BK288 := Aside0.mk (blk_grown (g := gb288) (o := .cells #[.int .i64 t285, .int .i64 t286, .int .i64 t287] 92 (0, 0)) (upK BK288.out) hg (Kd.R_ne HO_3.out BK288.out (by decide))); replace HB := Aside0.mk (below_weaken (zB HB HI0) HL.out hb); replace HI0 := Aside0.mk (IsS54.grown (keepF_ HI0 <| zI HI0) hg (IsS54.own_ne HI0.out HO_3.out (by decide))); replace HK := Aside0.mk (KeepBut.trans (zK HK) (KeepBut.of_grown hg g) (Kd.R_base2 HO_3.out)); clear HO_3; clear ho hb hg hat))
          go_roundg kj86
          case measure => have := HK1.out; have := HK2.out; have := HJ86.out; omega
          case rel => exact ⟨(y304), (wrap64 (x8_2 - 1)), (t302), (t303), rB, H', ⟨by have := HK1.out; have := HK2.out; have := HJ86.out; omega⟩, ⟨upR HO306.out⟩, ⟨Kd.R_mono (upR HO_5.out) (fun _ hk => trivial)⟩, ⟨zI HI0⟩, ⟨zK HK⟩, ⟨zB HB HI0⟩⟩
      ·replace H := Option.bind_eq_some_iff.mp H
       obtain ⟨⟨t307, t308, t309⟩, A1160, H⟩ := H
       (try dsimp only at H)
       have A116 := Aside0.mk A1160
       clear A1160
       replace H := ifI H
       rcases H with ⟨H, -, c117b0, c117b1⟩ | ⟨H, c117, c117b0, c117b1⟩
       ·replace H := Option.bind_eq_some_iff.mp H
        obtain ⟨⟨t310, t311, t312, t313, t314, t315, t316⟩, A1180, H⟩ := H
        (try dsimp only at H)
        have A118 := Aside0.mk A1180
        clear A1180
        replace H := zM H
        obtain ⟨c119, H⟩ := H
        have c119b0 : decide (0 < (x3_2.length : Int)) = true := decide_eq_true c119
        have c119b1 : decide (0 < x3_2.length) = true := decide_eq_true (by omega)
        clear c119
        obtain ⟨y317, hy317⟩ : ∃ y_ : List (S32), y_ = (x3_2.set (0 : Int).toNat (⟨t310, t311, t312, t313, t314⟩ : S32)) := ⟨_, rfl⟩
        rw [← hy317] at H
        have Ny317 := Aside0.mk hy317
        clear hy317
        simp only [Option.some.injEq, Prod.mk.injEq] at H
        obtain ⟨rfl, rfl, rfl⟩ := H
        go_wp2_with (first | ((with_reducible refine gC 60 ?_); refine zG (some 144) Tryz.func60 (spec_l1Cur_pick.calls g s0_0 x1001_2 x1002_2 24 t307 t308 t309 w0 _ (zI HI0) (zB HB HI0) A116.out) ?_; rintro e w121 ⟨rfl, hi, hb, hk⟩; refine ⟨_, rfl, ?_⟩; replace HO_3 := zO x1001_2 x1002_2 HI0 HO_3 hk; replace HO_5 := zO x1001_2 x1002_2 HI0 HO_5 hk; replace HK := zKK HK hk; replace HB := Aside0.mk (hb); replace HI0 := Aside0.mk (hi); (try clear hb); (try clear hk); (try clear hi)) | ((with_reducible refine gC 89 ?_); refine zG (some 149) Tryz.func89 (spec_l1Cur_leg.calls k2 g s0_0 t308 t309 t310 t311 t312 t313 t314 t315 t316 w0 _ (zI HI0) (zB HB HI0) A118.out) ?_; rintro e w122 ⟨rfl, hi, hb, hk⟩; refine ⟨_, rfl, ?_⟩; replace HO_3 := zO t308 t309 HI0 HO_3 hk; replace HO_5 := zO t308 t309 HI0 HO_5 hk; replace HK := zKK HK hk; replace HB := Aside0.mk (hb); replace HI0 := Aside0.mk (hi); (try clear hb); (try clear hk); (try clear hi); have p120 : 0 ≤ (0 : Int) := (by omega); have q120 : (0 : Int) < ((x3_2.length : Int) : Int) := of_decide_eq_true asmB; have qi120 : (0 < x3_2.length) = True := eq_true (by omega); obtain ⟨go120, co120, eo120, gb120, gl120, cl120, HG120⟩ := Kd.R_form HO_3.out (by omega); (first | cases eo120 | (injection eo120 with ea_ en_ ec_; (first | subst ea_ | (injection ea_ with ea_; subst ea_)); subst ec_; clear en_)); have GB120 := Aside0.mk gb120; have GG120 := Aside0.mk HG120; clear gb120 gl120 HG120; obtain ⟨ce120, hcl120, hM120, hcc120, hfr120⟩ := Kd.R_elem HO_3.out z32 (0 : Int) p120 q120; obtain rfl := k32_openM hM120; have hx120_0 : w122.cell? ⟨go120, (0 : Int).toNat * 5, none⟩ = some (.int .i64 ((rd_T32 x3_2 0).f0)) := hcc120 0 _ rfl; have hx120_1 : w122.cell? ⟨go120, (0 : Int).toNat * 5 + 1, none⟩ = some (.int .i64 ((rd_T32 x3_2 0).f1)) := hcc120 1 _ rfl; have hx120_2 : w122.cell? ⟨go120, (0 : Int).toNat * 5 + 2, none⟩ = some (.int .i64 ((rd_T32 x3_2 0).f2)) := hcc120 2 _ rfl; have hx120_3 : w122.cell? ⟨go120, (0 : Int).toNat * 5 + 3, none⟩ = some (.int .i64 ((rd_T32 x3_2 0).f3)) := hcc120 3 _ rfl; have hx120_4 : w122.cell? ⟨go120, (0 : Int).toNat * 5 + 4, none⟩ = some (.int .i64 ((rd_T32 x3_2 0).f4)) := hcc120 4 _ rfl; have hf120_0 : w122.frozen? ⟨go120, (0 : Int).toNat * 5, none⟩ = false := hfr120 0; have hf120_1 : w122.frozen? ⟨go120, (0 : Int).toNat * 5 + 1, none⟩ = false := hfr120 1; have hf120_2 : w122.frozen? ⟨go120, (0 : Int).toNat * 5 + 2, none⟩ = false := hfr120 2; have hf120_3 : w122.frozen? ⟨go120, (0 : Int).toNat * 5 + 3, none⟩ = false := hfr120 3; have hf120_4 : w122.frozen? ⟨go120, (0 : Int).toNat * 5 + 4, none⟩ = false := hfr120 4; clear hcl120 hcc120 hfr120 hM120; (try rw [show ((0 : Int)).toNat = 0 from rfl] at hx120_0); (try simp only [Nat.reduceMul, Nat.zero_mul, Nat.zero_add, Nat.reduceAdd] at hx120_0); (try rw [show ((0 : Int)).toNat = 0 from rfl] at hf120_0); (try simp only [Nat.reduceMul, Nat.zero_mul, Nat.zero_add, Nat.reduceAdd] at hf120_0); (try rw [show ((0 : Int)).toNat = 0 from rfl] at hx120_1); (try simp only [Nat.reduceMul, Nat.zero_mul, Nat.zero_add, Nat.reduceAdd] at hx120_1); (try rw [show ((0 : Int)).toNat = 0 from rfl] at hf120_1); (try simp only [Nat.reduceMul, Nat.zero_mul, Nat.zero_add, Nat.reduceAdd] at hf120_1); (try rw [show ((0 : Int)).toNat = 0 from rfl] at hx120_2); (try simp only [Nat.reduceMul, Nat.zero_mul, Nat.zero_add, Nat.reduceAdd] at hx120_2); (try rw [show ((0 : Int)).toNat = 0 from rfl] at hf120_2); (try simp only [Nat.reduceMul, Nat.zero_mul, Nat.zero_add, Nat.reduceAdd] at hf120_2); (try rw [show ((0 : Int)).toNat = 0 from rfl] at hx120_3); (try simp only [Nat.reduceMul, Nat.zero_mul, Nat.zero_add, Nat.reduceAdd] at hx120_3); (try rw [show ((0 : Int)).toNat = 0 from rfl] at hf120_3); (try simp only [Nat.reduceMul, Nat.zero_mul, Nat.zero_add, Nat.reduceAdd] at hf120_3); (try rw [show ((0 : Int)).toNat = 0 from rfl] at hx120_4); (try simp only [Nat.reduceMul, Nat.zero_mul, Nat.zero_add, Nat.reduceAdd] at hx120_4); (try rw [show ((0 : Int)).toNat = 0 from rfl] at hf120_4); (try simp only [Nat.reduceMul, Nat.zero_mul, Nat.zero_add, Nat.reduceAdd] at hf120_4); replace p120 := eq_true p120; replace q120 := eq_true q120; have HX123 := Aside0.mk (show Kd.R k32 32 w122 w.heap.size (fun _ => True) (.slice (some ⟨go120, 0, none⟩) x3_2.length co120) x3_2 from (upR HO_3.out)); obtain ⟨ce123, hcl123, hM123, hcc123, hfr123⟩ := Kd.R_elem HX123.out z32 (0 : Int) (by omega) (by have h_ : (0 : Int) < ((x3_2.length : Int) : Int) := of_decide_eq_true asmB; first | exact h_ | (have e_ := (Kd.R_reads' HO_3.out).1; omega) | simpa using h_); obtain rfl := k32_openM hM123; have HP123 := Kd.R_seg HX123.out (0 : Int) (by omega) (by have h_ : (0 : Int) < ((x3_2.length : Int) : Int) := of_decide_eq_true asmB; first | exact h_ | (have e_ := (Kd.R_reads' HO_3.out).1; omega) | simpa using h_) (seg := [.int .i64 t310, .int .i64 t311, .int .i64 t312, .int .i64 t313, .int .i64 t314]) (j := 0) hcl123 hcc123 (show 5 ≤ 5 from by decide) (x' := (⟨t310, t311, t312, t313, t314⟩ : S32)) (k32_mkM _ _ _ (⟨t310, t311, t312, t313, t314⟩ : S32) ) (fun _ hk => hk); have hx123_0 := hcc123 0 _ rfl; (try simp only [show (k32).sz = 5 from rfl, Nat.mul_one, Nat.add_zero] at hx123_0); (try rw [show ((0 : Int)).toNat = 0 from rfl] at hx123_0); (try simp only [Nat.reduceMul, Nat.zero_mul, Nat.zero_add, Nat.reduceAdd] at hx123_0); have hf123_0 := hfr123 0; (try simp only [show (k32).sz = 5 from rfl, Nat.mul_one, Nat.add_zero] at hf123_0); (try rw [show ((0 : Int)).toNat = 0 from rfl] at hf123_0); (try simp only [Nat.reduceMul, Nat.zero_mul, Nat.zero_add, Nat.reduceAdd] at hf123_0); have hx123_1 := hcc123 1 _ rfl; (try simp only [show (k32).sz = 5 from rfl, Nat.mul_one, Nat.add_zero] at hx123_1); (try rw [show ((0 : Int)).toNat = 0 from rfl] at hx123_1); (try simp only [Nat.reduceMul, Nat.zero_mul, Nat.zero_add, Nat.reduceAdd] at hx123_1); have hf123_1 := hfr123 1; (try simp only [show (k32).sz = 5 from rfl, Nat.mul_one, Nat.add_zero] at hf123_1); (try rw [show ((0 : Int)).toNat = 0 from rfl] at hf123_1); (try simp only [Nat.reduceMul, Nat.zero_mul, Nat.zero_add, Nat.reduceAdd] at hf123_1); have hx123_2 := hcc123 2 _ rfl; (try simp only [show (k32).sz = 5 from rfl, Nat.mul_one, Nat.add_zero] at hx123_2); (try rw [show ((0 : Int)).toNat = 0 from rfl] at hx123_2); (try simp only [Nat.reduceMul, Nat.zero_mul, Nat.zero_add, Nat.reduceAdd] at hx123_2); have hf123_2 := hfr123 2; (try simp only [show (k32).sz = 5 from rfl, Nat.mul_one, Nat.add_zero] at hf123_2); (try rw [show ((0 : Int)).toNat = 0 from rfl] at hf123_2); (try simp only [Nat.reduceMul, Nat.zero_mul, Nat.zero_add, Nat.reduceAdd] at hf123_2); have hx123_3 := hcc123 3 _ rfl; (try simp only [show (k32).sz = 5 from rfl, Nat.mul_one, Nat.add_zero] at hx123_3); (try rw [show ((0 : Int)).toNat = 0 from rfl] at hx123_3); (try simp only [Nat.reduceMul, Nat.zero_mul, Nat.zero_add, Nat.reduceAdd] at hx123_3); have hf123_3 := hfr123 3; (try simp only [show (k32).sz = 5 from rfl, Nat.mul_one, Nat.add_zero] at hf123_3); (try rw [show ((0 : Int)).toNat = 0 from rfl] at hf123_3); (try simp only [Nat.reduceMul, Nat.zero_mul, Nat.zero_add, Nat.reduceAdd] at hf123_3); have hx123_4 := hcc123 4 _ rfl; (try simp only [show (k32).sz = 5 from rfl, Nat.mul_one, Nat.add_zero] at hx123_4); (try rw [show ((0 : Int)).toNat = 0 from rfl] at hx123_4); (try simp only [Nat.reduceMul, Nat.zero_mul, Nat.zero_add, Nat.reduceAdd] at hx123_4); have hf123_4 := hfr123 4; (try simp only [show (k32).sz = 5 from rfl, Nat.mul_one, Nat.add_zero] at hf123_4); (try rw [show ((0 : Int)).toNat = 0 from rfl] at hf123_4); (try simp only [Nat.reduceMul, Nat.zero_mul, Nat.zero_add, Nat.reduceAdd] at hf123_4); clear hcl123 hcc123 hfr123 hM123) | ((with_reducible refine gate_store (t := 32) (p := 150) rfl ?_); refine store_event (t := 32) (p := 150) (v := ?vo_w124) (w1 := (((((w122.setCell ⟨go120, 0, none⟩ (.int .i64 t310)).setCell ⟨go120, 1, none⟩ (.int .i64 t311)).setCell ⟨go120, 2, none⟩ (.int .i64 t312)).setCell ⟨go120, 3, none⟩ (.int .i64 t313)).setCell ⟨go120, 4, none⟩ (.int .i64 t314))) ?hg ?ho ?hn ?hr ?_; (case ho => rfl); (case hg => rfl); (case hn => rfl); (case hr => first | (go_simp; done) | (go_simp; rfl)); intro w124 hw; have hg : w122.grownBy w124 (some go120) := (by rw [hw]; exact HP123.2); have hp_ : Kd.R k32 32 w124 w.heap.size (fun _ => True) (.slice (some ⟨go120, 0, none⟩) x3_2.length co120) y317 := (by rw [hw, Ny317.out]; exact HP123.1); clear HP123; replace HO_5 := Aside0.mk (Kd.R_over' (v := (.slice (some ⟨go120, 0, none⟩) x3_2.length co120)) (upR HO_5.out) (Kd.R_typed HO_3.out) (by decide) hg); replace HI0 := Aside0.mk (IsS54.grown (keepF_ HI0 <| zI HI0) hg (IsS54.own_ne HI0.out HO_3.out (by decide))); replace HB := Aside0.mk ((by rw [hw]; exact below_set (below_set (below_set (below_set (below_set (HB.out) (Nat.le_trans HL.out GB120.out)) (Nat.le_trans HL.out GB120.out)) (Nat.le_trans HL.out GB120.out)) (Nat.le_trans HL.out GB120.out)) (Nat.le_trans HL.out GB120.out) : Below w0.heap.size w0 w124)); replace HK := Aside0.mk (KeepBut.trans (zK HK) (KeepBut.of_grown hg g) (Kd.R_base2 HO_3.out)); replace HO_3 := Aside0.mk (hp_); clear hg hw hp_))
        go_ret
        exact ⟨_, eB, upR HO_3.out, zI HI0, zB HB HI0, zK HK⟩
       ·replace H := ifI H
        rcases H with ⟨H, -, c125b0, c125b1⟩ | ⟨H, c125, c125b0, c125b1⟩
        ·replace H := Option.bind_eq_some_iff.mp H
         obtain ⟨⟨t318, t319, t320, t321, t322, t323, t324⟩, A1260, H⟩ := H
         (try dsimp only at H)
         have A126 := Aside0.mk A1260
         clear A1260
         replace H := zM H
         obtain ⟨c127, H⟩ := H
         have LMc127 := Aside0.mk c127
         clear c127
         obtain ⟨y325, hy325⟩ : ∃ y_ : List (S32), y_ = (x3_2 ++ [(⟨t318, t319, t320, t321, t322⟩ : S32)]) := ⟨_, rfl⟩
         rw [← hy325] at H
         have Ny325 := Aside0.mk hy325
         clear hy325
         simp only [Option.some.injEq, Prod.mk.injEq] at H
         obtain ⟨rfl, rfl, rfl⟩ := H
         go_wp2_with (first | ((with_reducible refine gC 60 ?_); refine zG (some 144) Tryz.func60 (spec_l1Cur_pick.calls g s0_0 x1001_2 x1002_2 24 t307 t308 t309 w0 _ (zI HI0) (zB HB HI0) A116.out) ?_; rintro e w128 ⟨rfl, hi, hb, hk⟩; refine ⟨_, rfl, ?_⟩; replace HO_3 := zO x1001_2 x1002_2 HI0 HO_3 hk; replace HO_5 := zO x1001_2 x1002_2 HI0 HO_5 hk; replace HK := zKK HK hk; replace HB := Aside0.mk (hb); replace HI0 := Aside0.mk (hi); (try clear hb); (try clear hk); (try clear hi)) | ((with_reducible refine gC 89 ?_); refine zG (some 155) Tryz.func89 (spec_l1Cur_leg.calls k2 g s0_0 t308 t309 t318 t319 t320 t321 t322 t323 t324 w0 _ (zI HI0) (zB HB HI0) A126.out) ?_; rintro e w129 ⟨rfl, hi, hb, hk⟩; refine ⟨_, rfl, ?_⟩; replace HO_3 := zO t308 t309 HI0 HO_3 hk; replace HO_5 := zO t308 t309 HI0 HO_5 hk; replace HK := zKK HK hk; replace HB := Aside0.mk (hb); replace HI0 := Aside0.mk (hi); (try clear hb); (try clear hk); (try clear hi)) | ((with_reducible refine gate_builtin (b := .append) (xs := #[.tmp 153, .tmp 156]) rfl ?_); at_builtin; refine Kd.R_append k32 w.heap.size rfl (.tmp 153) (.tmp 156) 24 32 (.agg #[(.int .i64 0), (.int .i64 0), (.int .i64 0), (.int .i64 0), (.int .i64 0)]) 40 rfl Tryz.underlying24 info32 rfl (by decide) (by omega) u3 x3_2 (⟨t318, t319, t320, t321, t322⟩ : S32) [.int .i64 t318, .int .i64 t319, .int .i64 t320, .int .i64 t321, .int .i64 t322] (fun _ => True) (fun _ => False) rfl rfl ?aP (fun _ hk => hk.elim) ?aF ?aO (Below.refl _ _) ?aS ?aL ?_; (case aP => exact k32_mkM _ _ _ (⟨t318, t319, t320, t321, t322⟩ : S32)); (case aF => exact (fun _ _ => trivial)); (case aO => exact (upR HO_3.out)); (case aS => exact (keep_size (w := w) (g := g) (row := none) (zK HK))); (case aL => have := LMc127.out; omega); intro v326 w130 ho hb hg hat; rw [← Ny325.out] at ho; have HO327 := Aside0.mk (ho); replace HO_5 := Aside0.mk (Kd.R_over' (upR HO_5.out) (Kd.R_typed (upR HO_3.out)) (by decide) hg); replace HB := Aside0.mk (below_weaken (zB HB HI0) HL.out hb); replace HI0 := Aside0.mk (IsS54.grown (keepF_ HI0 <| zI HI0) hg (IsS54.own_ne HI0.out HO_3.out (by decide))); replace HK := Aside0.mk (KeepBut.trans (zK HK) (KeepBut.of_grown hg g) (Kd.R_base2 HO_3.out)); clear HO_3; clear ho hb hg hat))
         go_ret
         exact ⟨_, eB, upR HO327.out, zI HI0, zB HB HI0, zK HK⟩
        ·replace H := ifI H
         rcases H with ⟨H, -, c131b0, c131b1⟩ | ⟨H, c131, c131b0, c131b1⟩
         ·replace H := zS H
          obtain ⟨y328, Ny328, H⟩ := H
          replace H := zM H
          obtain ⟨c132, H⟩ := H
          have c132b0 := eq_true c132
          have c132b1 : decide (1 ≤ (x3_2.length : Int)) = true := decide_eq_true c132
          clear c132
          replace H := zS H
          obtain ⟨y331, Ny331, H⟩ := H
          replace H := zM H
          obtain ⟨c133, H⟩ := H
          have LMc133 := Aside0.mk c133
          clear c133
          obtain ⟨y335, hy335⟩ : ∃ y_ : List (S32), y_ = (y328 ++ y331) := ⟨_, rfl⟩
          rw [← hy335] at H
          have Ny335 := Aside0.mk hy335
          clear hy335
          simp only [Option.some.injEq, Prod.mk.injEq] at H
          obtain ⟨rfl, rfl, rfl⟩ := H
          go_wp2_with (first | ((with_reducible refine gC 60 ?_); refine zG (some 144) Tryz.func60 (spec_l1Cur_pick.calls g s0_0 x1001_2 x1002_2 24 t307 t308 t309 w0 _ (zI HI0) (zB HB HI0) A116.out) ?_; rintro e w134 ⟨rfl, hi, hb, hk⟩; refine ⟨_, rfl, ?_⟩; replace HO_3 := zO x1001_2 x1002_2 HI0 HO_3 hk; replace HO_5 := zO x1001_2 x1002_2 HI0 HO_5 hk; replace HK := zKK HK hk; replace HB := Aside0.mk (hb); replace HI0 := Aside0.mk (hi); (try clear hb); (try clear hk); (try clear hi)) | ((with_reducible refine gate_dst (N := 160) rfl ?_); refine Kd.R_lit k32 _ 32 ?hg (N := 160) ?hd (xs := ([] : List (S32))) (inner := []) (ok := fun _ => True) (okp := fun _ => True) ?hr ?hp (fun _ hk => hk) trivial (Below.refl _ _) (Nat.le_refl _) (by simp) ?_; (case hd => rfl); (case hg => rfl); (case hr => first | (go_simp; done) | (go_simp; rfl)); (case hp => exact (Reps.none _ _)); intro v329 w135 ho136 hb hg_ hnew_; clear hg_ hnew_; (first | rw [← Ny328.out] at ho136 | (simp only [Int.reduceToNat] at ho136; rw [← Ny328.out] at ho136)); have HO330 := Aside0.mk (Kd.R_lower (Kd.R_new' ho136 (Kd.R_lt (upR HO_3.out))) (keep_size (w := w) (g := g) (row := none) (zK HK))); replace HO_3 := Aside0.mk (Kd.R_elder' (upR HO_3.out) (Kd.R_base ho136) hb); replace HO_5 := uR HO_5 hb; replace HK := zKK HK (KeepBut.of_below hb g none); replace HB := Aside0.mk (below_step (zB HB HI0) hb); replace HI0 := Aside0.mk (IsS54.below (keepF_ HI0 <| zI HI0) hb); clear hb ho136; obtain ⟨Ao138, co138, eo138⟩ := Kd.R_slice HO_3.out; subst eo138; have q137 : (1 : Int) ≤ ((x3_2.length : Int) : Int) := of_decide_eq_true asmB; obtain ⟨i0137, hi0137, _, hsz137, _⟩ := info_parts info32; have hroom137 : x3_2.length ≤ co138 := (Kd.R_reads' HO_3.out).2.1; have hC137 : Kd.C k32 _ Ao138 x3_2.length x3_2 := (Kd.R_reads' HO_3.out).2.2; have hcut137 := cut_from (P := Tryz.prog) 24 32 .i64 Tryz.underlying24 hi0137 5 hsz137 Ao138 x3_2.length co138 1 (by omega) q137; have hr137 := Kd.C_drop (m := (1 : Int).toNat) (c := co138) hC137 (by omega) hroom137; obtain ⟨A137, hA137⟩ : ∃ Az_, Az_ = (if co138 = (1 : Int).toNat then Ao138 else (Ao138 : Option Addr).map (·.add ((1 : Int).toNat * 5))) := ⟨_, rfl⟩; obtain ⟨c137, hc137⟩ : ∃ c1, c1 = co138 - (1 : Int).toNat := ⟨_, rfl⟩; have hy137 : y331.length = x3_2.length - (1 : Int).toNat := (by rw [Ny331.out, List.length_drop] <;> omega); rw [show (x3_2).drop (1 : Int).toNat = y331 from Ny331.out.symm] at hr137; replace hr137 : Kd.C k32 _ A137 y331.length y331 := (by rw [hA137]; exact hr137); rw [← hy137, ← hA137, ← hc137] at hcut137; have HR334 := Aside0.mk hr137; have HC334 := Aside0.mk (show y331.length ≤ c137 from by rw [hy137, hc137]; exact Nat.sub_le_sub_right hroom137 _); clear hr137 hC137 hroom137 hi0137 hsz137 hc137; have KY137 := Aside0.mk hy137; have KA137 := Aside0.mk hA137; clear hy137 hA137; have KL137 := Aside0.mk (show 1 ≤ x3_2.length from by omega); replace q137 := eq_true q137) | ((with_reducible refine gate_builtin (b := .append) (xs := #[.tmp 160, .tmp 162]) rfl ?_); at_builtin; refine Kd.R_append_rows k32 w.heap.size rfl (.tmp 160) (.tmp 162) 24 32 (.agg #[(.int .i64 0), (.int .i64 0), (.int .i64 0), (.int .i64 0), (.int .i64 0)]) 40 rfl Tryz.underlying24 info32 rfl (by decide) (by omega) v329 y328 y331 _ _ _ (fun k_ => some k_ ≠ (.slice Ao138 x3_2.length co138 : Value).ownBlock) (fun _ => False) rfl rfl ?aO ?aR (fun _ _ h => h) (fun _ h => h.elim) ?aF (Below.refl _ _) ?aS ?aL ?_; (case aR => repeat (first | exact (by repeat (first | (with_reducible exact HR334.out) | (with_reducible refine Kd.C_alloc ?_ _) | (with_reducible refine Kd.C_drewN ?_ _) | (with_reducible refine Kd.C_drew ?_) | exact HR334.out)) | (with_reducible refine Kd.C_alloc ?_ _) | (with_reducible refine Kd.C_drewN ?_ _) | (with_reducible refine Kd.C_drew ?_))); (case aF => exact (fun k_ hk => Kd.fresh' (Kd.R_lt (upR HO_3.out)) k_ hk)); (case aO => exact (Kd.R_mono (upR HO330.out) (fun _ hk => hk.2))); (case aS => exact (keep_size (w := w) (g := g) (row := none) (zK HK))); (case aL => have := LMc133.out; omega); intro v336 w139 ho hb hg hat; rw [← Ny335.out] at ho; have HO337 := Aside0.mk (ho); replace HO_5 := Aside0.mk (Kd.R_over' (upR HO_5.out) (Kd.R_typed (upR HO330.out)) (by decide) hg); replace HB := Aside0.mk (below_weaken (zB HB HI0) HL.out hb); replace HI0 := Aside0.mk (IsS54.grown (keepF_ HI0 <| zI HI0) hg (IsS54.own_ne HI0.out HO330.out (by decide))); replace HK := Aside0.mk (KeepBut.trans (zK HK) (KeepBut.of_grown hg g) (Kd.R_base2 HO330.out)); replace HR334 := Aside0.mk ((show Kd.C k32 w139 A137 y331.length y331 from by rw [Ny331.out, KA137.out]; exact Kd.C_drop (m := 1) (c := co138) ((Kd.R_reads' (Kd.R_after (ok := (fun _ => True)) (upR HO_3.out) hg hat)).2.2) KL137.out ((Kd.R_reads' (Kd.R_after (ok := (fun _ => True)) (upR HO_3.out) hg hat)).2.1))); replace HO_3 := Aside0.mk (Kd.R_after (ok := (fun _ => True)) (upR HO_3.out) hg hat); clear HO330; clear ho hb hg hat))
          go_ret
          exact ⟨_, eB, Kd.R_mono (upR HO337.out) (fun _ hk => trivial), zI HI0, zB HB HI0, zK HK⟩
         ·simp only [Option.some.injEq, Prod.mk.injEq] at H
          obtain ⟨rfl, rfl, rfl⟩ := H
          go_wp2_with (first | ((with_reducible refine gC 60 ?_); refine zG (some 144) Tryz.func60 (spec_l1Cur_pick.calls g s0_0 x1001_2 x1002_2 24 t307 t308 t309 w0 _ (zI HI0) (zB HB HI0) A116.out) ?_; rintro e w140 ⟨rfl, hi, hb, hk⟩; refine ⟨_, rfl, ?_⟩; replace HO_3 := zO x1001_2 x1002_2 HI0 HO_3 hk; replace HO_5 := zO x1001_2 x1002_2 HI0 HO_5 hk; replace HK := zKK HK hk; replace HB := Aside0.mk (hb); replace HI0 := Aside0.mk (hi); (try clear hb); (try clear hk); (try clear hi)))
          go_ret
          exact ⟨_, eB, upR HO_3.out, zI HI0, zB HB HI0, zK HK⟩

end Go.Proofs.YtmfidodcpbochaaGreat.QFnSteps
