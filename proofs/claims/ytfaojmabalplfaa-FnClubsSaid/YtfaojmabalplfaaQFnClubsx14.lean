/- Contracts of Go functions that FnClubs reaches: the call computes what the plain function says. No condition. -/
import Derived.Test.YtfaojmabalplfaaQFnClubsx0
import Derived.Test.YtfaojmabalplfaaQFnClubsx1
import Derived.Test.YtfaojmabalplfaaQFnClubsx6
import Derived.Test.YtfaojmabalplfaaQFnClubsx10
import Derived.Test.YtfaojmabalplfaaQFnClubsx12
import Derived.Test.YtfaojmabalplfaaQFnClubsx13
namespace Go.Proofs.Ytfaojmabalplfaa.QFnClubs
open Go.RowKit Go.Proofs.YtfaojmabalplfaaW.PrintWords Go.Proofs.YtfaojmabalplfaaW.PrintLast Go.Proofs.YtfaojmabalplfaaW.PrintMore
attribute [local go_sem] max2_int min2_int max_two min_two max_three min_three max_four min_four   -- for this text's walks alone
set_option linter.unusedVariables false
set_option linter.unusedSimpArgs false

attribute [local go_sem high] eqA64
/-! ### spec_l1Cur_twoClubs: function 84 -/
mutual
def spec_l1Cur_twoClubs.l0 : Nat → List (S70) → List (S70) → Int → List Int → Int → Int → Option ((List (S70)) × (List (S70)) × Int × Int)
 | 0, _, _, _, _, _, _ => none
 | k + 1, x4, x5, x6, x1000, x1001, x1002 => if x6 < (x4.length : Int) then ((spec_l1Cur_pick.f x1000 x1001 x1002 5).bind fun bt507 => (if bt507.1 = 0 then (spec_l1Cur_twoClubs.j1 k x4 x5 x6 bt507.1 (bt507.1 == 0) x1000 bt507.2.1 bt507.2.2) else (spec_l1Cur_twoClubs.j1 k x4 x5 x6 bt507.1 (bt507.1 == 1) x1000 bt507.2.1 bt507.2.2))) else ((spec_l1Cur_pick.f x1000 x1001 x1002 3).bind fun bt531 => (spec_l1Cur_twoClubs.l1 k x4 x5 bt531.1 x1000 bt531.2.1 bt531.2.2))
def spec_l1Cur_twoClubs.j1 : Nat → List (S70) → List (S70) → Int → Int → Bool → List Int → Int → Int → Option ((List (S70)) × (List (S70)) × Int × Int)
 | 0, _, _, _, _, _, _, _, _ => none
 | k + 1, x4, x5, x6, x19, x20, x1000, x1001, x1002 => if x20 = true then (if 0 ≤ x6 then (if x6 < (x4.length : Int) then (if x5.length < 3518437208883 then (spec_l1Cur_twoClubs.l0 k x4 (x5 ++ [(⟨(rd_T70 x4 x6).f0, (rd_T70 x4 x6).f1, (rd_T70 x4 x6).f2, (rd_T70 x4 x6).f3, (rd_T70 x4 x6).f4⟩ : S70)]) (wrap64 (x6 + 1)) x1000 x1001 x1002) else (none)) else (none)) else (none)) else (if x19 = 2 then (if 0 ≤ x6 then (if x6 < (x4.length : Int) then ((spec_l4Reverse.f ((rd_T70 x4 x6).f0) ((rd_T70 x4 x6).f1) ((rd_T70 x4 x6).f2) ((rd_T70 x4 x6).f3) ((rd_T70 x4 x6).f4)).bind fun bt515 => (if x5.length < 3518437208883 then (spec_l1Cur_twoClubs.l0 k x4 (x5 ++ [(⟨bt515.1, bt515.2.1, bt515.2.2.1, bt515.2.2.2.1, bt515.2.2.2.2⟩ : S70)]) (wrap64 (x6 + 1)) x1000 x1001 x1002) else (none))) else (none)) else (none)) else (if x19 = 3 then (if 0 ≤ x6 then (if x6 < (x4.length : Int) then ((spec_l1Cur_pick.f x1000 x1001 x1002 4).bind fun bt525 => (if x5.length < 3518437208883 then (spec_l1Cur_twoClubs.l0 k x4 (x5 ++ [(⟨(rd_T70 x4 x6).f0, (rd_T70 x4 x6).f1, wrap64 (((rd_T70 x4 x6).f2) + bt525.1), (rd_T70 x4 x6).f3, (rd_T70 x4 x6).f4⟩ : S70)]) (wrap64 (x6 + 1)) x1000 bt525.2.1 bt525.2.2) else (none))) else (none)) else (none)) else (spec_l1Cur_twoClubs.l0 k x4 x5 (wrap64 (x6 + 1)) x1000 x1001 x1002)))
def spec_l1Cur_twoClubs.l1 : Nat → List (S70) → List (S70) → Int → List Int → Int → Int → Option ((List (S70)) × (List (S70)) × Int × Int)
 | 0, _, _, _, _, _, _ => none
 | k + 1, x4, x5, x8, x1000, x1001, x1002 => if x8 > 0 then ((spec_l1Cur_leg.f k x1000 x1001 x1002).bind fun bt534 => (if x5.length < 3518437208883 then (spec_l1Cur_twoClubs.l1 k x4 (x5 ++ [(⟨bt534.1, bt534.2.1, bt534.2.2.1, bt534.2.2.2.1, bt534.2.2.2.2.1⟩ : S70)]) (wrap64 (x8 - 1)) x1000 bt534.2.2.2.2.2.1 bt534.2.2.2.2.2.2) else (none))) else (some (x4, x5, x1001, x1002))
end
def spec_l1Cur_twoClubs.f (k : Nat) (s0_0 : List Int) (s0_1 s0_2 : Int) : Option ((List (S70)) × (List (S70)) × Int × Int) := (spec_l1Cur_cave.f k s0_0 s0_1 s0_2).bind fun bt499 => (spec_l1Cur_twoClubs.l0 k bt499.1 (([] : List (S70))) 0 s0_0 bt499.2.1 bt499.2.2)
theorem spec_l1Cur_twoClubs.mono_l : ∀ k, (∀ y0 y1 y2 y3 y4 y5, LeO (spec_l1Cur_twoClubs.l0 k y0 y1 y2 y3 y4 y5) (spec_l1Cur_twoClubs.l0 (k + 1) y0 y1 y2 y3 y4 y5)) ∧ (∀ y0 y1 y2 y3 y4 y5 y6 y7, LeO (spec_l1Cur_twoClubs.j1 k y0 y1 y2 y3 y4 y5 y6 y7) (spec_l1Cur_twoClubs.j1 (k + 1) y0 y1 y2 y3 y4 y5 y6 y7)) ∧ (∀ y0 y1 y2 y3 y4 y5, LeO (spec_l1Cur_twoClubs.l1 k y0 y1 y2 y3 y4 y5) (spec_l1Cur_twoClubs.l1 (k + 1) y0 y1 y2 y3 y4 y5))
 | 0 => ⟨fun _ _ _ _ _ _ r h => by simp [spec_l1Cur_twoClubs.l0] at h, fun _ _ _ _ _ _ _ _ r h => by simp [spec_l1Cur_twoClubs.j1] at h, fun _ _ _ _ _ _ r h => by simp [spec_l1Cur_twoClubs.l1] at h⟩
 | k + 1 => by
  obtain ⟨ih0, ih1, ih2⟩ := spec_l1Cur_twoClubs.mono_l k
  refine ⟨?_, ?_, ?_⟩
  ·intro y0 y1 y2 y3 y4 y5
   unfold spec_l1Cur_twoClubs.l0
   repeat' with_reducible first | apply ih0 | apply ih1 | apply ih2 | apply spec_l1Cur_cave.mono | apply spec_l1Cur_leg.mono | exact LeO.refl _ | exact LeO.none _ | refine LeO.ite ?_ ?_ | refine LeO.bind ?_ (fun _ => ?_)
  ·intro y0 y1 y2 y3 y4 y5 y6 y7
   unfold spec_l1Cur_twoClubs.j1
   repeat' with_reducible first | apply ih0 | apply ih1 | apply ih2 | apply spec_l1Cur_cave.mono | apply spec_l1Cur_leg.mono | exact LeO.refl _ | exact LeO.none _ | refine LeO.ite ?_ ?_ | refine LeO.bind ?_ (fun _ => ?_)
  ·intro y0 y1 y2 y3 y4 y5
   unfold spec_l1Cur_twoClubs.l1
   repeat' with_reducible first | apply ih0 | apply ih1 | apply ih2 | apply spec_l1Cur_cave.mono | apply spec_l1Cur_leg.mono | exact LeO.refl _ | exact LeO.none _ | refine LeO.ite ?_ ?_ | refine LeO.bind ?_ (fun _ => ?_)
theorem spec_l1Cur_twoClubs.mono : ∀ a0 a1 a2 k, LeO (spec_l1Cur_twoClubs.f k a0 a1 a2) (spec_l1Cur_twoClubs.f (k + 1) a0 a1 a2) := by
 intro a0 a1 a2 k
 obtain ⟨ih0, ih1, ih2⟩ := spec_l1Cur_twoClubs.mono_l k
 unfold spec_l1Cur_twoClubs.f
 repeat' with_reducible first | apply ih0 | apply ih1 | apply ih2 | apply spec_l1Cur_cave.mono | apply spec_l1Cur_leg.mono | exact LeO.refl _ | exact LeO.none _ | refine LeO.ite ?_ ?_ | refine LeO.bind ?_ (fun _ => ?_)
set_option maxHeartbeats 8000000 in
set_option maxRecDepth 100000 in
theorem spec_l1Cur_twoClubs.calls (k g : Nat) (s0_0 : List Int) (s0_1 s0_2 : Int) (r1 : List (S70)) (r2 : List (S70)) (r3 r4 : Int) (w0 w : World) (hI : IsS90 w0 w g s0_0 s0_1 s0_2) (hB : Below w0.heap.size w0 w) (h : spec_l1Cur_twoClubs.f k s0_0 s0_1 s0_2 = some (r1, r2, r3, r4)) :
  Calls Try.prog 84 #[.pointer (some ⟨g, 0, none⟩)] w fun e w' => ∃ v0_ v1_ : Value, e = .returned (.tuple #[v0_, v1_]) ∧ Kd.R k70 70 w' w.heap.size (fun k_ => some k_ ≠ (v1_ : Value).ownBlock) v0_ r1 ∧ Kd.R k70 70 w' w.heap.size (fun k_ => some k_ ≠ (v0_ : Value).ownBlock) v1_ r2 ∧ IsS90 w0 w' g s0_0 r3 r4 ∧ Below w0.heap.size w0 w' ∧ KeepBut w w' g none := by
 have hu70 := Try.underlying70
 have HI0 := Aside0.mk hI
 have HK := Aside0.mk (KeepBut.refl w g none)
 have HL := Aside0.mk hB.size
 clear hI
 have HW0 := Aside0.mk hB.size
 have HB := Aside0.mk hB
 clear hB
 have H := h
 clear h
 unfold spec_l1Cur_twoClubs.f at H
 replace H := Option.bind_eq_some_iff.mp H
 obtain ⟨⟨t499, t502, t503⟩, A20, H⟩ := H
 replace H : (spec_l1Cur_twoClubs.l0 k t499 (([] : List (S70))) 0 s0_0 t502 t503) = some (r1, r2, r3, r4) := H
 have A2 := Aside0.mk A20
 clear A20
 obtain ⟨y504, hy504⟩ : ∃ y_ : List (S70), y_ = (([] : List (S70))) := ⟨_, rfl⟩
 replace H : (spec_l1Cur_twoClubs.l0 k t499 y504 0 s0_0 t502 t503) = some (r1, r2, r3, r4) := by first | (rw [hy504]; with_reducible exact H) | (have H2_ := (Option.bind_some _ _).symm.trans H; rw [hy504]; with_reducible exact H2_) | (have H2_ := (Option.bind_some _ _).symm.trans H; with_reducible exact H2_) | with_reducible exact H | (rw [hy504]; exact H) | exact H
 have Ny504 := Aside0.mk hy504
 clear hy504
 have H' := Aside0.mk H
 clear H
 go_enter Try.func84, Try.ntmps84
 go_wp2_with (first | ((with_reducible refine gate_callee (f := 80) rfl ?_); refine goesL_ (some 10) rfl rfl Try.func80 (by kernel_rfl) rfl #[.pointer (some ⟨g, 0, none⟩)] rfl argsB ?_; (with_reducible refine (spec_l1Cur_cave.calls k g s0_0 s0_1 s0_2 t499 t502 t503 w0 _ ?side1 ?side2 A2.out).mono ?_); (case side1 => repeat (first | (with_reducible first | exact HI0.out | apply IsS90.alloc | apply IsS90.drewN | apply IsS90.drew | apply IsS90.set_1 | apply IsS90.set_2) | exact HI0.out)); (case side2 => repeat (first | (with_reducible first | exact HB.out | apply below_alloc | apply pw_below_drewN | apply below_drew1 | refine below_set ?_ (IsS90.ge HI0.out)) | exact HB.out)); rintro e w3 ⟨v500, rfl, ho0, hi, hb, hk⟩; refine ⟨_, rfl, ?_⟩; have HO501 := Aside0.mk (Kd.R_lower ho0 (keep_size (w := w) (g := g) (row := none) (by repeat (first | (with_reducible first | exact HK.out | apply KeepBut.set_ | apply keep_drewN | apply keep_drew | apply keep_alloc) | exact HK.out)))); replace HK := Aside0.mk (KeepBut.trans (by repeat (first | (with_reducible first | exact HK.out | apply KeepBut.set_ | apply keep_drewN | apply keep_drew | apply keep_alloc) | exact HK.out)) hk (.inl rfl)); replace HB := Aside0.mk (hb); replace HI0 := Aside0.mk (hi); (try clear hb); (try clear hk); (try clear hi); (try clear ho0)) | ((with_reducible refine gate_dst (N := 11) rfl ?_); refine Kd.R_lit k70 _ 70 ?hg (N := 11) ?hd (xs := ([] : List (S70))) (inner := []) (ok := fun _ => True) (okp := fun _ => True) ?hr ?hp (fun _ hk => hk) trivial (Below.refl _ _) (Nat.le_refl _) (by simp) ?_; (case hd => rfl); (case hg => rfl); (case hr => first | (go_simp; done) | (go_simp; rfl)); (case hp => exact (Reps.none _ _)); intro v505 w4 ho5 hb hg_ hnew_; clear hg_ hnew_; (first | rw [← Ny504.out] at ho5 | (simp only [Int.reduceToNat] at ho5; rw [← Ny504.out] at ho5)); have HO506 := Aside0.mk (Kd.R_lower (Kd.R_new' ho5 (Kd.R_lt (upR HO501.out))) (keep_size (w := w) (g := g) (row := none) (by repeat (first | (with_reducible first | exact HK.out | apply KeepBut.set_ | apply keep_drewN | apply keep_drew | apply keep_alloc) | exact HK.out)))); replace HO501 := Aside0.mk (Kd.R_elder' (upR HO501.out) (Kd.R_base ho5) hb); replace HK := Aside0.mk (KeepBut.trans (by repeat (first | (with_reducible first | exact HK.out | apply KeepBut.set_ | apply keep_drewN | apply keep_drew | apply keep_alloc) | exact HK.out)) (KeepBut.of_below hb g none) (.inl rfl)); replace HB := Aside0.mk (below_step (by repeat (first | (with_reducible first | exact HB.out | apply below_alloc | apply pw_below_drewN | apply below_drew1 | refine below_set ?_ (IsS90.ge HI0.out)) | exact HB.out)) hb); replace HI0 := Aside0.mk (IsS90.below (keepF_ HI0 <| by repeat (first | (with_reducible first | exact HI0.out | apply IsS90.alloc | apply IsS90.drewN | apply IsS90.drew | apply IsS90.set_1 | apply IsS90.set_2) | exact HI0.out)) hb); clear hb ho5))
 (try simp only [Act.put, List.setIfInBounds_toArray, List.set_cons_zero, List.set_cons_succ])
 go_loopg [5, 6] k (fun kq v5 v6 w' => ∃ (x5_1 : List (S70)) (x6_1 x1001_1 x1002_1 : Int), v6 = .int .i64 x6_1 ∧ Aside0 (spec_l1Cur_twoClubs.l0 kq t499 x5_1 x6_1 s0_0 x1001_1 x1002_1 = some (r1, r2, r3, r4)) ∧ Aside0 (kq ≤ k) ∧ Aside0 (Kd.R k70 70 w' w.heap.size (fun k_ => some k_ ≠ (v5 : Value).ownBlock) v500 t499) ∧ Aside0 (Kd.R k70 70 w' w.heap.size (fun k_ => some k_ ≠ (v500 : Value).ownBlock) v5 x5_1) ∧ Aside0 (IsS90 w0 w' g s0_0 x1001_1 x1002_1) ∧ Aside0 (KeepBut w w' g none) ∧ Aside0 (Below w0.heap.size w0 w'))
 case atStart => exact ⟨(y504), (0), (t502), (t503), rB, H', ⟨Nat.le_refl _⟩, ⟨by (with_reducible repeat (first | apply Kd.R_alloc | apply Kd.R_drewN | apply Kd.R_drew)); exact Kd.R_mono HO501.out (fun _ hk => hk.2)⟩, ⟨by (with_reducible repeat (first | apply Kd.R_alloc | apply Kd.R_drewN | apply Kd.R_drew)); exact Kd.R_mono HO506.out (fun _ hk => hk.2)⟩, ⟨by repeat (first | (with_reducible first | exact HI0.out | apply IsS90.alloc | apply IsS90.drewN | apply IsS90.drew | apply IsS90.set_1 | apply IsS90.set_2) | exact HI0.out)⟩, ⟨by repeat (first | (with_reducible first | exact HK.out | apply KeepBut.set_ | apply keep_drewN | apply keep_drew | apply keep_alloc) | exact HK.out)⟩, ⟨by repeat (first | (with_reducible first | exact HB.out | apply below_alloc | apply pw_below_drewN | apply below_drew1 | refine below_set ?_ (IsS90.ge HI0.out)) | exact HB.out)⟩⟩
 case round =>
  clear H'
  obtain ⟨x5_1, x6_1, x1001_1, x1002_1, rfl, HA, HK1, HO_4, HO_5, HI0, HK, HB⟩ := hrel
  cases gk with
  | zero => exact absurd HA.out (by simp [spec_l1Cur_twoClubs.l0])
  | succ k1 =>
   have H := HA.out
   clear HA
   simp only [spec_l1Cur_twoClubs.l0] at H
   replace H := ifD H
   rcases H with ⟨H, -, c6b0⟩ | ⟨H, -, c6b0⟩
   ·replace H := Option.bind_eq_some_iff.mp H
    obtain ⟨⟨t507, t508, t509⟩, A70, H⟩ := H
    replace H : (if t507 = 0 then (spec_l1Cur_twoClubs.j1 k1 t499 x5_1 x6_1 t507 (t507 == 0) s0_0 t508 t509) else (spec_l1Cur_twoClubs.j1 k1 t499 x5_1 x6_1 t507 (t507 == 1) s0_0 t508 t509)) = some (r1, r2, r3, r4) := H
    have A7 := Aside0.mk A70
    clear A70
    have HC8 := Aside0.mk H
    clear H
    obtain ⟨Ao9, co9, eo9⟩ := Kd.R_slice HO_4.out
    subst eo9
    go_upto_if 20 with (first | ((with_reducible refine gate_callee (f := 83) rfl ?_); refine goesL_ (some 19) rfl rfl Try.func83 (by kernel_rfl) rfl #[.pointer (some ⟨g, 0, none⟩), .int .i64 5] rfl argsB ?_; (with_reducible refine (spec_l1Cur_pick.calls g s0_0 x1001_1 x1002_1 5 t507 t508 t509 w0 _ ?side1 ?side2 A7.out).mono ?_); (case side1 => repeat (first | (with_reducible first | exact HI0.out | apply IsS90.alloc | apply IsS90.drewN | apply IsS90.drew | apply IsS90.set_1 | apply IsS90.set_2) | exact HI0.out)); (case side2 => repeat (first | (with_reducible first | exact HB.out | apply below_alloc | apply pw_below_drewN | apply below_drew1 | refine below_set ?_ (IsS90.ge HI0.out)) | exact HB.out)); rintro e w10 ⟨rfl, hi, hb, hk⟩; refine ⟨_, rfl, ?_⟩; replace HO_4 := Aside0.mk (Kd.R_mono (Kd.R_keep (IsS90.apart (show IsS90 w0 _ g s0_0 x1001_1 x1002_1 from by repeat (first | (with_reducible first | exact HI0.out | apply IsS90.alloc | apply IsS90.drewN | apply IsS90.drew | apply IsS90.set_1 | apply IsS90.set_2) | exact HI0.out)) (upR HO_4.out) (by decide)) hk (fun _ h => h.2)) (fun _ h => h.1)); replace HO_5 := Aside0.mk (Kd.R_mono (Kd.R_keep (IsS90.apart (show IsS90 w0 _ g s0_0 x1001_1 x1002_1 from by repeat (first | (with_reducible first | exact HI0.out | apply IsS90.alloc | apply IsS90.drewN | apply IsS90.drew | apply IsS90.set_1 | apply IsS90.set_2) | exact HI0.out)) (upR HO_5.out) (by decide)) hk (fun _ h => h.2)) (fun _ h => h.1)); replace HK := Aside0.mk (KeepBut.trans (by repeat (first | (with_reducible first | exact HK.out | apply KeepBut.set_ | apply keep_drewN | apply keep_drew | apply keep_alloc) | exact HK.out)) hk (.inl rfl)); replace HB := Aside0.mk (hb); replace HI0 := Aside0.mk (hi); (try clear hb); (try clear hk); (try clear hi)))
    (try simp only [Act.put, List.setIfInBounds_toArray, List.set_cons_zero, List.set_cons_succ])
    go_cut [20] (fun v20 wc => ∃ (kq : Nat) (x20_7 : Bool), v20 = .bool x20_7 ∧ Aside0 (spec_l1Cur_twoClubs.j1 kq t499 x5_1 x6_1 t507 x20_7 s0_0 t508 t509 = some (r1, r2, r3, r4)) ∧ Aside0 (kq ≤ k1) ∧ Aside0 (Kd.R k70 70 wc w.heap.size (fun k_ => some k_ ≠ (u5 : Value).ownBlock) (.slice Ao9 t499.length co9) t499) ∧ Aside0 (Kd.R k70 70 wc w.heap.size (fun k_ => some k_ ≠ ((.slice Ao9 t499.length co9) : Value).ownBlock) u5 x5_1) ∧ Aside0 (IsS90 w0 wc g s0_0 t508 t509) ∧ Aside0 (KeepBut w wc g none) ∧ Aside0 (Below w0.heap.size w0 wc))
    case first =>
     have H := HC8.out
     clear HC8
     replace H := ifI H
     rcases H with ⟨H, -, c11b0, c11b1⟩ | ⟨H, c11, c11b0, c11b1⟩
     ·(first | rw [c11b0] | (simp only [i64_w, i32_w]; rw [c11b0]) | skip)
      have H' := Aside0.mk H
      clear H
      go_wp2
      go_meet
      case rel => exact ⟨_, ((t507 == 0)), rB, H', ⟨by have := HK1.out; first | omega | exact Nat.le_refl _⟩, ⟨upR HO_4.out⟩, ⟨upR HO_5.out⟩, ⟨by repeat (first | (with_reducible first | exact HI0.out | apply IsS90.alloc | apply IsS90.drewN | apply IsS90.drew | apply IsS90.set_1 | apply IsS90.set_2) | exact HI0.out)⟩, ⟨by repeat (first | (with_reducible first | exact HK.out | apply KeepBut.set_ | apply keep_drewN | apply keep_drew | apply keep_alloc) | exact HK.out)⟩, ⟨by repeat (first | (with_reducible first | exact HB.out | apply below_alloc | apply pw_below_drewN | apply below_drew1 | refine below_set ?_ (IsS90.ge HI0.out)) | exact HB.out)⟩⟩
     ·(first | rw [c11b0] | (simp only [i64_w, i32_w]; rw [c11b0]) | skip)
      have H' := Aside0.mk H
      clear H
      go_wp2
      go_meet
      case rel => exact ⟨_, ((t507 == 1)), rB, H', ⟨by have := HK1.out; first | omega | exact Nat.le_refl _⟩, ⟨upR HO_4.out⟩, ⟨upR HO_5.out⟩, ⟨by repeat (first | (with_reducible first | exact HI0.out | apply IsS90.alloc | apply IsS90.drewN | apply IsS90.drew | apply IsS90.set_1 | apply IsS90.set_2) | exact HI0.out)⟩, ⟨by repeat (first | (with_reducible first | exact HK.out | apply KeepBut.set_ | apply keep_drewN | apply keep_drew | apply keep_alloc) | exact HK.out)⟩, ⟨by repeat (first | (with_reducible first | exact HB.out | apply below_alloc | apply pw_below_drewN | apply below_drew1 | refine below_set ?_ (IsS90.ge HI0.out)) | exact HB.out)⟩⟩
    case rest =>
     clear HC8
     try clear c6b0
     obtain ⟨kq, x20_7, rfl, HA, HJ7, HO_4, HO_5, HI0, HK, HB⟩ := hcut
     cases kq with
     | zero => exact absurd HA.out (by simp [spec_l1Cur_twoClubs.j1])
     | succ kj7 =>
      have H := HA.out
      clear HA
      simp only [spec_l1Cur_twoClubs.j1] at H
      rcases Bool.eq_false_or_eq_true x20_7 with rfl | rfl
      ·replace H := iT rfl H
       by_cases c13 : 0 ≤ x6_1
       ·rw [if_pos c13] at H
        have c13b0 : decide (0 ≤ x6_1) = true := decide_eq_true c13
        clear c13
        by_cases c14 : x6_1 < (t499.length : Int)
        ·rw [if_pos c14] at H
         have c14b0 : decide (x6_1 < (t499.length : Int)) = true := decide_eq_true c14
         clear c14
         by_cases c15 : x5_1.length < 3518437208883
         ·rw [if_pos c15] at H
          have LMc15 := Aside0.mk c15
          clear c15
          obtain ⟨y511, hy511⟩ : ∃ y_ : List (S70), y_ = (x5_1 ++ [(⟨(rd_T70 t499 x6_1).f0, (rd_T70 t499 x6_1).f1, (rd_T70 t499 x6_1).f2, (rd_T70 t499 x6_1).f3, (rd_T70 t499 x6_1).f4⟩ : S70)]) := ⟨_, rfl⟩
          replace H : (spec_l1Cur_twoClubs.l0 kj7 t499 y511 (wrap64 (x6_1 + 1)) s0_0 t508 t509) = some (r1, r2, r3, r4) := by first | (rw [hy511]; with_reducible exact H) | (have H2_ := (Option.bind_some _ _).symm.trans H; rw [hy511]; with_reducible exact H2_) | (have H2_ := (Option.bind_some _ _).symm.trans H; with_reducible exact H2_) | with_reducible exact H | (rw [hy511]; exact H) | exact H
          have Ny511 := Aside0.mk hy511
          clear hy511
          have H' := Aside0.mk H
          clear H
          have p510 : 0 ≤ (x6_1 : Int) := of_decide_eq_true asmB
          have q510 : x6_1 < (t499.length : Int) := of_decide_eq_true asmB
          obtain ⟨ad510, e510, hx510_0, hx510_1, hx510_2, hx510_3, hx510_4⟩ := at_T70 (Kd.R_reads' HO_4.out).2.2 x6_1 p510 q510
          cases e510
          replace p510 := eq_true p510
          replace q510 := eq_true q510
          go_wp2_with (first | ((with_reducible refine gate_builtin (b := .append) (xs := #[.tmp 23, .tmp 28]) rfl ?_); at_builtin; refine Kd.R_append k70 w.heap.size rfl (.tmp 23) (.tmp 28) 35 70 (.agg #[(.int .i64 0), (.int .i64 0), (.int .i64 0), (.int .i64 0), (.int .i64 0)]) 40 rfl Try.underlying35 info70 rfl (by decide) (by omega) u5 x5_1 (⟨(rd_T70 t499 x6_1).f0, (rd_T70 t499 x6_1).f1, (rd_T70 t499 x6_1).f2, (rd_T70 t499 x6_1).f3, (rd_T70 t499 x6_1).f4⟩ : S70) [.int .i64 ((rd_T70 t499 x6_1).f0), .int .i64 ((rd_T70 t499 x6_1).f1), .int .i64 ((rd_T70 t499 x6_1).f2), .int .i64 ((rd_T70 t499 x6_1).f3), .int .i64 ((rd_T70 t499 x6_1).f4)] (fun k_ => some k_ ≠ (.slice (some ad510) t499.length co9 : Value).ownBlock) (fun _ => False) rfl rfl ?aP (fun _ hk => hk.elim) ?aF ?aO (Below.refl _ _) ?aS ?aL ?_; (case aP => exact k70_mkM _ _ _ (⟨(rd_T70 t499 x6_1).f0, (rd_T70 t499 x6_1).f1, (rd_T70 t499 x6_1).f2, (rd_T70 t499 x6_1).f3, (rd_T70 t499 x6_1).f4⟩ : S70)); (case aF => exact (fun k_ hk => Kd.fresh' (Kd.R_lt (upR HO_4.out)) k_ hk)); (case aO => exact (upR HO_5.out)); (case aS => exact (keep_size (w := w) (g := g) (row := none) (by repeat (first | (with_reducible first | exact HK.out | apply KeepBut.set_ | apply keep_drewN | apply keep_drew | apply keep_alloc) | exact HK.out)))); (case aL => have := LMc15.out; omega); intro v512 w16 ho hb hg hat; rw [← Ny511.out] at ho; have HO513 := Aside0.mk (ho); replace HO_4 := Aside0.mk (Kd.R_after (ok := (fun _ => True)) (by (with_reducible repeat (first | apply Kd.R_alloc | apply Kd.R_drewN | apply Kd.R_drew)); exact Kd.R_mono HO_4.out (fun _ hk => ⟨trivial, hk⟩)) hg hat); replace HB := Aside0.mk (below_weaken (by repeat (first | (with_reducible first | exact HB.out | apply below_alloc | apply pw_below_drewN | apply below_drew1 | refine below_set ?_ (IsS90.ge HI0.out)) | exact HB.out)) HL.out hb); replace HI0 := Aside0.mk (IsS90.grown (keepF_ HI0 <| by repeat (first | (with_reducible first | exact HI0.out | apply IsS90.alloc | apply IsS90.drewN | apply IsS90.drew | apply IsS90.set_1 | apply IsS90.set_2) | exact HI0.out)) hg (IsS90.own_ne HI0.out HO_5.out (by decide))); replace HK := Aside0.mk (KeepBut.trans (by repeat (first | (with_reducible first | exact HK.out | apply KeepBut.set_ | apply keep_drewN | apply keep_drew | apply keep_alloc) | exact HK.out)) (KeepBut.of_grown hg g) (Kd.R_base2 HO_5.out)); clear HO_5; clear ho hb hg hat))
          go_roundg kj7
          case measure => have := HK1.out; have := HJ7.out; omega
          case rel => exact ⟨(y511), (wrap64 (x6_1 + 1)), (t508), (t509), rB, H', ⟨by have := HK1.out; have := HJ7.out; omega⟩, ⟨by (with_reducible repeat (first | apply Kd.R_alloc | apply Kd.R_drewN | apply Kd.R_drew)); exact Kd.R_mono HO_4.out (fun _ hk => hk.2)⟩, ⟨upR HO513.out⟩, ⟨by repeat (first | (with_reducible first | exact HI0.out | apply IsS90.alloc | apply IsS90.drewN | apply IsS90.drew | apply IsS90.set_1 | apply IsS90.set_2) | exact HI0.out)⟩, ⟨by repeat (first | (with_reducible first | exact HK.out | apply KeepBut.set_ | apply keep_drewN | apply keep_drew | apply keep_alloc) | exact HK.out)⟩, ⟨by repeat (first | (with_reducible first | exact HB.out | apply below_alloc | apply pw_below_drewN | apply below_drew1 | refine below_set ?_ (IsS90.ge HI0.out)) | exact HB.out)⟩⟩
         ·rw [if_neg c15] at H
          exact absurd H (by simp)
        ·rw [if_neg c14] at H
         exact absurd H (by simp)
       ·rw [if_neg c13] at H
        exact absurd H (by simp)
      ·replace H := iF (by decide) H
       replace H := ifI H
       rcases H with ⟨H, -, c17b0, c17b1⟩ | ⟨H, c17, c17b0, c17b1⟩
       ·by_cases c18 : 0 ≤ x6_1
        ·rw [if_pos c18] at H
         have c18b0 : decide (0 ≤ x6_1) = true := decide_eq_true c18
         clear c18
         by_cases c19 : x6_1 < (t499.length : Int)
         ·rw [if_pos c19] at H
          have c19b0 : decide (x6_1 < (t499.length : Int)) = true := decide_eq_true c19
          clear c19
          replace H := Option.bind_eq_some_iff.mp H
          obtain ⟨⟨t515, t516, t517, t518, t519⟩, A200, H⟩ := H
          replace H : (if x5_1.length < 3518437208883 then (spec_l1Cur_twoClubs.l0 kj7 t499 (x5_1 ++ [(⟨t515, t516, t517, t518, t519⟩ : S70)]) (wrap64 (x6_1 + 1)) s0_0 t508 t509) else (none)) = some (r1, r2, r3, r4) := H
          have A20 := Aside0.mk A200
          clear A200
          by_cases c21 : x5_1.length < 3518437208883
          ·rw [if_pos c21] at H
           have LMc21 := Aside0.mk c21
           clear c21
           obtain ⟨y520, hy520⟩ : ∃ y_ : List (S70), y_ = (x5_1 ++ [(⟨t515, t516, t517, t518, t519⟩ : S70)]) := ⟨_, rfl⟩
           replace H : (spec_l1Cur_twoClubs.l0 kj7 t499 y520 (wrap64 (x6_1 + 1)) s0_0 t508 t509) = some (r1, r2, r3, r4) := by first | (rw [hy520]; with_reducible exact H) | (have H2_ := (Option.bind_some _ _).symm.trans H; rw [hy520]; with_reducible exact H2_) | (have H2_ := (Option.bind_some _ _).symm.trans H; with_reducible exact H2_) | with_reducible exact H | (rw [hy520]; exact H) | exact H
           have Ny520 := Aside0.mk hy520
           clear hy520
           have H' := Aside0.mk H
           clear H
           have p514 : 0 ≤ (x6_1 : Int) := of_decide_eq_true asmB
           have q514 : x6_1 < (t499.length : Int) := of_decide_eq_true asmB
           obtain ⟨ad514, e514, hx514_0, hx514_1, hx514_2, hx514_3, hx514_4⟩ := at_T70 (Kd.R_reads' HO_4.out).2.2 x6_1 p514 q514
           cases e514
           replace p514 := eq_true p514
           replace q514 := eq_true q514
           go_wp2_with (first | ((with_reducible refine gC 95 ?_); refine lA (some 37) Try.func95 (spec_l4Reverse.calls ((rd_T70 t499 x6_1).f0) ((rd_T70 t499 x6_1).f1) ((rd_T70 t499 x6_1).f2) ((rd_T70 t499 x6_1).f3) ((rd_T70 t499 x6_1).f4) t515 t516 t517 t518 t519 _ A20.out) ?_; intro w22 hb; replace HO_4 := uR HO_4 hb; replace HO_5 := uR HO_5 hb; replace HK := Aside0.mk (KeepBut.trans (by repeat (first | (with_reducible first | exact HK.out | apply KeepBut.set_ | apply keep_drewN | apply keep_drew | apply keep_alloc) | exact HK.out)) (KeepBut.of_below hb g none) (.inl rfl)); replace HB := Aside0.mk (below_step (by repeat (first | (with_reducible first | exact HB.out | apply below_alloc | apply pw_below_drewN | apply below_drew1 | refine below_set ?_ (IsS90.ge HI0.out)) | exact HB.out)) hb); replace HI0 := Aside0.mk (IsS90.below (keepF_ HI0 <| by repeat (first | (with_reducible first | exact HI0.out | apply IsS90.alloc | apply IsS90.drewN | apply IsS90.drew | apply IsS90.set_1 | apply IsS90.set_2) | exact HI0.out)) hb); (try clear hb); (try clear hk); (try clear hi)) | ((with_reducible refine gate_builtin (b := .append) (xs := #[.tmp 32, .tmp 38]) rfl ?_); at_builtin; refine Kd.R_append k70 w.heap.size rfl (.tmp 32) (.tmp 38) 35 70 (.agg #[(.int .i64 0), (.int .i64 0), (.int .i64 0), (.int .i64 0), (.int .i64 0)]) 40 rfl Try.underlying35 info70 rfl (by decide) (by omega) u5 x5_1 (⟨t515, t516, t517, t518, t519⟩ : S70) [.int .i64 t515, .int .i64 t516, .int .i64 t517, .int .i64 t518, .int .i64 t519] (fun k_ => some k_ ≠ (.slice (some ad514) t499.length co9 : Value).ownBlock) (fun _ => False) rfl rfl ?aP (fun _ hk => hk.elim) ?aF ?aO (Below.refl _ _) ?aS ?aL ?_; (case aP => exact k70_mkM _ _ _ (⟨t515, t516, t517, t518, t519⟩ : S70)); (case aF => exact (fun k_ hk => Kd.fresh' (Kd.R_lt (upR HO_4.out)) k_ hk)); (case aO => exact (upR HO_5.out)); (case aS => exact (keep_size (w := w) (g := g) (row := none) (by repeat (first | (with_reducible first | exact HK.out | apply KeepBut.set_ | apply keep_drewN | apply keep_drew | apply keep_alloc) | exact HK.out)))); (case aL => have := LMc21.out; omega); intro v521 w23 ho hb hg hat; rw [← Ny520.out] at ho; have HO522 := Aside0.mk (ho); replace HO_4 := Aside0.mk (Kd.R_after (ok := (fun _ => True)) (by (with_reducible repeat (first | apply Kd.R_alloc | apply Kd.R_drewN | apply Kd.R_drew)); exact Kd.R_mono HO_4.out (fun _ hk => ⟨trivial, hk⟩)) hg hat); replace HB := Aside0.mk (below_weaken (by repeat (first | (with_reducible first | exact HB.out | apply below_alloc | apply pw_below_drewN | apply below_drew1 | refine below_set ?_ (IsS90.ge HI0.out)) | exact HB.out)) HL.out hb); replace HI0 := Aside0.mk (IsS90.grown (keepF_ HI0 <| by repeat (first | (with_reducible first | exact HI0.out | apply IsS90.alloc | apply IsS90.drewN | apply IsS90.drew | apply IsS90.set_1 | apply IsS90.set_2) | exact HI0.out)) hg (IsS90.own_ne HI0.out HO_5.out (by decide))); replace HK := Aside0.mk (KeepBut.trans (by repeat (first | (with_reducible first | exact HK.out | apply KeepBut.set_ | apply keep_drewN | apply keep_drew | apply keep_alloc) | exact HK.out)) (KeepBut.of_grown hg g) (Kd.R_base2 HO_5.out)); clear HO_5; clear ho hb hg hat))
           go_roundg kj7
           case measure => have := HK1.out; have := HJ7.out; omega
           case rel => exact ⟨(y520), (wrap64 (x6_1 + 1)), (t508), (t509), rB, H', ⟨by have := HK1.out; have := HJ7.out; omega⟩, ⟨by (with_reducible repeat (first | apply Kd.R_alloc | apply Kd.R_drewN | apply Kd.R_drew)); exact Kd.R_mono HO_4.out (fun _ hk => hk.2)⟩, ⟨upR HO522.out⟩, ⟨by repeat (first | (with_reducible first | exact HI0.out | apply IsS90.alloc | apply IsS90.drewN | apply IsS90.drew | apply IsS90.set_1 | apply IsS90.set_2) | exact HI0.out)⟩, ⟨by repeat (first | (with_reducible first | exact HK.out | apply KeepBut.set_ | apply keep_drewN | apply keep_drew | apply keep_alloc) | exact HK.out)⟩, ⟨by repeat (first | (with_reducible first | exact HB.out | apply below_alloc | apply pw_below_drewN | apply below_drew1 | refine below_set ?_ (IsS90.ge HI0.out)) | exact HB.out)⟩⟩
          ·rw [if_neg c21] at H
           exact absurd H (by simp)
         ·rw [if_neg c19] at H
          exact absurd H (by simp)
        ·rw [if_neg c18] at H
         exact absurd H (by simp)
       ·replace H := ifI H
        rcases H with ⟨H, -, c24b0, c24b1⟩ | ⟨H, c24, c24b0, c24b1⟩
        ·by_cases c25 : 0 ≤ x6_1
         ·rw [if_pos c25] at H
          have c25b0 : decide (0 ≤ x6_1) = true := decide_eq_true c25
          clear c25
          by_cases c26 : x6_1 < (t499.length : Int)
          ·rw [if_pos c26] at H
           have c26b0 : decide (x6_1 < (t499.length : Int)) = true := decide_eq_true c26
           clear c26
           replace H := Option.bind_eq_some_iff.mp H
           obtain ⟨⟨t525, t526, t527⟩, A270, H⟩ := H
           replace H : (if x5_1.length < 3518437208883 then (spec_l1Cur_twoClubs.l0 kj7 t499 (x5_1 ++ [(⟨(rd_T70 t499 x6_1).f0, (rd_T70 t499 x6_1).f1, wrap64 (((rd_T70 t499 x6_1).f2) + t525), (rd_T70 t499 x6_1).f3, (rd_T70 t499 x6_1).f4⟩ : S70)]) (wrap64 (x6_1 + 1)) s0_0 t526 t527) else (none)) = some (r1, r2, r3, r4) := H
           have A27 := Aside0.mk A270
           clear A270
           by_cases c28 : x5_1.length < 3518437208883
           ·rw [if_pos c28] at H
            have LMc28 := Aside0.mk c28
            clear c28
            obtain ⟨y528, hy528⟩ : ∃ y_ : List (S70), y_ = (x5_1 ++ [(⟨(rd_T70 t499 x6_1).f0, (rd_T70 t499 x6_1).f1, wrap64 (((rd_T70 t499 x6_1).f2) + t525), (rd_T70 t499 x6_1).f3, (rd_T70 t499 x6_1).f4⟩ : S70)]) := ⟨_, rfl⟩
            replace H : (spec_l1Cur_twoClubs.l0 kj7 t499 y528 (wrap64 (x6_1 + 1)) s0_0 t526 t527) = some (r1, r2, r3, r4) := by first | (rw [hy528]; with_reducible exact H) | (have H2_ := (Option.bind_some _ _).symm.trans H; rw [hy528]; with_reducible exact H2_) | (have H2_ := (Option.bind_some _ _).symm.trans H; with_reducible exact H2_) | with_reducible exact H | (rw [hy528]; exact H) | exact H
            have Ny528 := Aside0.mk hy528
            clear hy528
            have H' := Aside0.mk H
            clear H
            have p523 : 0 ≤ (x6_1 : Int) := of_decide_eq_true asmB
            have q523 : x6_1 < (t499.length : Int) := of_decide_eq_true asmB
            obtain ⟨ad523, e523, hx523_0, hx523_1, hx523_2, hx523_3, hx523_4⟩ := at_T70 (Kd.R_reads' HO_4.out).2.2 x6_1 p523 q523
            cases e523
            replace p523 := eq_true p523
            replace q523 := eq_true q523
            try go_wp2_with (first | ((with_reducible refine gD 7 ?_); refine bxE 7 70 #[.int .i64 0, .int .i64 0, .int .i64 0, .int .i64 0, .int .i64 0] fun gb524 w29 hg hbox hb => ?_; have BK524 := Aside0.mk hbox; have GW524 := Aside0.mk ((by rw [hg]; exact (keep_size (w := w) (g := g) (row := none) (by repeat (first | (with_reducible first | exact HK.out | apply KeepBut.set_ | apply keep_drewN | apply keep_drew | apply keep_alloc) | exact HK.out))) : w.heap.size ≤ gb524)); have GE524 := Aside0.mk ((Nat.le_trans HW0.out (by rw [hg]; exact (keep_size (w := w) (g := g) (row := none) (by repeat (first | (with_reducible first | exact HK.out | apply KeepBut.set_ | apply keep_drewN | apply keep_drew | apply keep_alloc) | exact HK.out))) : w.heap.size ≤ gb524) : w0.heap.size ≤ gb524)); have NB0_524 := Aside0.mk ((by rw [hg]; exact Nat.ne_of_lt (IsS90.lt (show IsS90 w0 _ g s0_0 t508 t509 from by repeat (first | (with_reducible first | exact HI0.out | apply IsS90.alloc | apply IsS90.drewN | apply IsS90.drew | apply IsS90.set_1 | apply IsS90.set_2) | exact HI0.out))) : g ≠ gb524)); have NB524_0 := Aside0.mk ((by rw [hg]; exact Nat.ne_of_gt (IsS90.lt (show IsS90 w0 _ g s0_0 t508 t509 from by repeat (first | (with_reducible first | exact HI0.out | apply IsS90.alloc | apply IsS90.drewN | apply IsS90.drew | apply IsS90.set_1 | apply IsS90.set_2) | exact HI0.out))) : gb524 ≠ g)); replace HO_4 := Aside0.mk (Kd.R_below (Kd.R_elderB (upR HO_4.out) gb524 (Nat.le_of_eq hg.symm)) hb); replace HO_5 := Aside0.mk (Kd.R_below (Kd.R_elderB (upR HO_5.out) gb524 (Nat.le_of_eq hg.symm)) hb); replace HK := Aside0.mk (KeepBut.trans (by repeat (first | (with_reducible first | exact HK.out | apply KeepBut.set_ | apply keep_drewN | apply keep_drew | apply keep_alloc) | exact HK.out)) (KeepBut.of_below hb g none) (.inl rfl)); replace HB := Aside0.mk (below_step (by repeat (first | (with_reducible first | exact HB.out | apply below_alloc | apply pw_below_drewN | apply below_drew1 | refine below_set ?_ (IsS90.ge HI0.out)) | exact HB.out)) hb); replace HI0 := Aside0.mk (IsS90.below (keepF_ HI0 <| by repeat (first | (with_reducible first | exact HI0.out | apply IsS90.alloc | apply IsS90.drewN | apply IsS90.drew | apply IsS90.set_1 | apply IsS90.set_2) | exact HI0.out)) hb); clear hb hbox hg; have hnb30 := NB524_0.out; have hnc30 := NB0_524.out; have ⟨hcz31_0, hcz31_1, hcz31_2, hcz31_3, hcz31_4, hfz31_0⟩ := cz5 BK524))
            have n0_ : Aside0 (Kd.R k70 70 (((((w29.setCell ⟨gb524, 0, none⟩ (.int .i64 ((rd_T70 t499 x6_1).f0))).setCell ⟨gb524, 1, none⟩ (.int .i64 ((rd_T70 t499 x6_1).f1))).setCell ⟨gb524, 2, none⟩ (.int .i64 ((rd_T70 t499 x6_1).f2))).setCell ⟨gb524, 3, none⟩ (.int .i64 ((rd_T70 t499 x6_1).f3))).setCell ⟨gb524, 4, none⟩ (.int .i64 ((rd_T70 t499 x6_1).f4))) w.heap.size (fun k_ => some k_ ≠ (u5 : Value).ownBlock ∧ k_ ≠ gb524) (.slice (some ad523) t499.length co9) t499) := ⟨by (with_reducible repeat (first | apply Kd.R_alloc | apply Kd.R_drewN | apply Kd.R_drew)); exact Kd.R_mono (Kd.R_far (p := ⟨gb524, 4, none⟩) (Kd.R_far (p := ⟨gb524, 3, none⟩) (Kd.R_far (p := ⟨gb524, 2, none⟩) (Kd.R_far (p := ⟨gb524, 1, none⟩) (Kd.R_far (p := ⟨gb524, 0, none⟩) (Kd.R_mono HO_4.out (fun k_ hk => (⟨hk, hk.2⟩ : _ ∧ k_ ≠ gb524))) (fun _ hk => hk.2) (.int .i64 ((rd_T70 t499 x6_1).f0))) (fun _ hk => hk.2) (.int .i64 ((rd_T70 t499 x6_1).f1))) (fun _ hk => hk.2) (.int .i64 ((rd_T70 t499 x6_1).f2))) (fun _ hk => hk.2) (.int .i64 ((rd_T70 t499 x6_1).f3))) (fun _ hk => hk.2) (.int .i64 ((rd_T70 t499 x6_1).f4))) (fun _ hk => ⟨hk.1.1, hk.1.2⟩)⟩
            have n1_ : Aside0 (Kd.R k70 70 (((((w29.setCell ⟨gb524, 0, none⟩ (.int .i64 ((rd_T70 t499 x6_1).f0))).setCell ⟨gb524, 1, none⟩ (.int .i64 ((rd_T70 t499 x6_1).f1))).setCell ⟨gb524, 2, none⟩ (.int .i64 ((rd_T70 t499 x6_1).f2))).setCell ⟨gb524, 3, none⟩ (.int .i64 ((rd_T70 t499 x6_1).f3))).setCell ⟨gb524, 4, none⟩ (.int .i64 ((rd_T70 t499 x6_1).f4))) w.heap.size (fun k_ => some k_ ≠ (.slice (some ad523) t499.length co9 : Value).ownBlock ∧ k_ ≠ gb524) u5 x5_1) := ⟨by (with_reducible repeat (first | apply Kd.R_alloc | apply Kd.R_drewN | apply Kd.R_drew)); exact Kd.R_mono (Kd.R_far (p := ⟨gb524, 4, none⟩) (Kd.R_far (p := ⟨gb524, 3, none⟩) (Kd.R_far (p := ⟨gb524, 2, none⟩) (Kd.R_far (p := ⟨gb524, 1, none⟩) (Kd.R_far (p := ⟨gb524, 0, none⟩) (Kd.R_mono HO_5.out (fun k_ hk => (⟨hk, hk.2⟩ : _ ∧ k_ ≠ gb524))) (fun _ hk => hk.2) (.int .i64 ((rd_T70 t499 x6_1).f0))) (fun _ hk => hk.2) (.int .i64 ((rd_T70 t499 x6_1).f1))) (fun _ hk => hk.2) (.int .i64 ((rd_T70 t499 x6_1).f2))) (fun _ hk => hk.2) (.int .i64 ((rd_T70 t499 x6_1).f3))) (fun _ hk => hk.2) (.int .i64 ((rd_T70 t499 x6_1).f4))) (fun _ hk => ⟨hk.1.1, hk.1.2⟩)⟩
            have n2_ : Aside0 ((((((w29.setCell ⟨gb524, 0, none⟩ (.int .i64 ((rd_T70 t499 x6_1).f0))).setCell ⟨gb524, 1, none⟩ (.int .i64 ((rd_T70 t499 x6_1).f1))).setCell ⟨gb524, 2, none⟩ (.int .i64 ((rd_T70 t499 x6_1).f2))).setCell ⟨gb524, 3, none⟩ (.int .i64 ((rd_T70 t499 x6_1).f3))).setCell ⟨gb524, 4, none⟩ (.int .i64 ((rd_T70 t499 x6_1).f4))).heap[gb524]? = some (.cells #[.int .i64 ((rd_T70 t499 x6_1).f0), .int .i64 ((rd_T70 t499 x6_1).f1), .int .i64 ((rd_T70 t499 x6_1).f2), .int .i64 ((rd_T70 t499 x6_1).f3), .int .i64 ((rd_T70 t499 x6_1).f4)] 70 (0, 0))) := ⟨by exact pW BK524⟩
            have n3_ : Aside0 (IsS90 w0 (((((w29.setCell ⟨gb524, 0, none⟩ (.int .i64 ((rd_T70 t499 x6_1).f0))).setCell ⟨gb524, 1, none⟩ (.int .i64 ((rd_T70 t499 x6_1).f1))).setCell ⟨gb524, 2, none⟩ (.int .i64 ((rd_T70 t499 x6_1).f2))).setCell ⟨gb524, 3, none⟩ (.int .i64 ((rd_T70 t499 x6_1).f3))).setCell ⟨gb524, 4, none⟩ (.int .i64 ((rd_T70 t499 x6_1).f4))) g s0_0 t508 t509) := ⟨by repeat (first | (with_reducible first | exact HI0.out | apply IsS90.alloc | apply IsS90.drewN | apply IsS90.drew | apply IsS90.set_1 | apply IsS90.set_2 | refine IsS90.far ?_ NB0_524.out _) | exact HI0.out)⟩
            have n4_ : Aside0 (KeepBut w (((((w29.setCell ⟨gb524, 0, none⟩ (.int .i64 ((rd_T70 t499 x6_1).f0))).setCell ⟨gb524, 1, none⟩ (.int .i64 ((rd_T70 t499 x6_1).f1))).setCell ⟨gb524, 2, none⟩ (.int .i64 ((rd_T70 t499 x6_1).f2))).setCell ⟨gb524, 3, none⟩ (.int .i64 ((rd_T70 t499 x6_1).f3))).setCell ⟨gb524, 4, none⟩ (.int .i64 ((rd_T70 t499 x6_1).f4))) g none) := ⟨by repeat (first | (with_reducible first | exact HK.out | apply KeepBut.set_ | apply keep_drewN | apply keep_drew | apply keep_alloc | refine keep_far ?_ GW524.out _) | exact HK.out)⟩
            have n5_ : Aside0 (Below w0.heap.size w0 (((((w29.setCell ⟨gb524, 0, none⟩ (.int .i64 ((rd_T70 t499 x6_1).f0))).setCell ⟨gb524, 1, none⟩ (.int .i64 ((rd_T70 t499 x6_1).f1))).setCell ⟨gb524, 2, none⟩ (.int .i64 ((rd_T70 t499 x6_1).f2))).setCell ⟨gb524, 3, none⟩ (.int .i64 ((rd_T70 t499 x6_1).f3))).setCell ⟨gb524, 4, none⟩ (.int .i64 ((rd_T70 t499 x6_1).f4)))) := ⟨by repeat (first | (with_reducible first | exact HB.out | apply below_alloc | apply pw_below_drewN | apply below_drew1 | refine below_set ?_ (IsS90.ge HI0.out) | refine below_set ?_ GE524.out) | exact HB.out)⟩
            (try clear HO_4)
            (try clear HO_5)
            (try clear BK524)
            (try clear HI0)
            (try clear HK)
            (try clear HB)
            generalize (((((w29.setCell ⟨gb524, 0, none⟩ (.int .i64 ((rd_T70 t499 x6_1).f0))).setCell ⟨gb524, 1, none⟩ (.int .i64 ((rd_T70 t499 x6_1).f1))).setCell ⟨gb524, 2, none⟩ (.int .i64 ((rd_T70 t499 x6_1).f2))).setCell ⟨gb524, 3, none⟩ (.int .i64 ((rd_T70 t499 x6_1).f3))).setCell ⟨gb524, 4, none⟩ (.int .i64 ((rd_T70 t499 x6_1).f4))) = w32 at n0_ n1_ n2_ n3_ n4_ n5_ ⊢
            have HO_4 := n0_
            have HO_5 := n1_
            have BK524 := n2_
            have HI0 := n3_
            have HK := n4_
            have HB := n5_
            clear n0_ n1_ n2_ n3_ n4_ n5_
            replace HO_4 := Aside0.mk (Kd.R_drew HO_4.out)
            replace HO_5 := Aside0.mk (Kd.R_drew HO_5.out)
            replace BK524 := dK BK524
            replace HI0 := Aside0.mk (IsS90.drew HI0.out)
            replace HK := Aside0.mk (keep_drew HK.out)
            replace HB := Aside0.mk (below_drew1 HB.out)
            refine start_ (n := 7) (S := fun w' => w'.cell? ⟨gb524, 0, none⟩ = some (.int .i64 ((rd_T70 t499 x6_1).f0)) ∧ w'.cell? ⟨gb524, 1, none⟩ = some (.int .i64 ((rd_T70 t499 x6_1).f1)) ∧ w'.cell? ⟨gb524, 2, none⟩ = some (.int .i64 ((rd_T70 t499 x6_1).f2)) ∧ w'.cell? ⟨gb524, 3, none⟩ = some (.int .i64 ((rd_T70 t499 x6_1).f3)) ∧ w'.cell? ⟨gb524, 4, none⟩ = some (.int .i64 ((rd_T70 t499 x6_1).f4))) (ds := [6]) #[false, false, false, false, false, false, false] (by kernel_rfl) rfl rfl ⟨cb BK524 0, cb BK524 1, cb BK524 2, cb BK524 3, cb BK524 4⟩ (fun hHeld => ?_)
            generalize w32.drew = w33 at HO_4 HO_5 BK524 HI0 HK HB hHeld ⊢
            refine pure_ (i := 0) (N := some 46) (v := ?_) (a' := ?_) #[true, false, false, false, false, false, false] rfl rfl (by kernel_rfl) (fun _ _ _ h => h) (Or.inl ⟨by rfl, ?_⟩) ?_ ?_
            rotate_left
            ·intro w'
             go_simp
             with_reducible rfl
            rotate_left
            ·simp only [Act.put, List.setIfInBounds_toArray, List.set_cons_zero, List.set_cons_succ, i64_w, i32_w]
             rfl
            refine pure_ (i := 2) (N := some 48) (v := ?_) (a' := ?_) #[true, false, true, false, false, false, false] rfl rfl (by kernel_rfl) (fun _ _ _ h => h) (Or.inl ⟨by rfl, ?_⟩) ?_ ?_
            rotate_left
            ·intro w'
             go_simp
             with_reducible rfl
            rotate_left
            ·simp only [Act.put, List.setIfInBounds_toArray, List.set_cons_zero, List.set_cons_succ, i64_w, i32_w]
             rfl
            refine take_ (i := 1) (N := some 47) (v := ?_) (a' := ?_) #[true, true, true, false, false, false, false] rfl rfl (by kernel_rfl) (fun _ _ _ h => h) (Or.inl ⟨by rfl, ?_⟩) hHeld ?_ ?_
            rotate_left
            ·rintro w' ⟨s0, s1, s2, s3, s4⟩
             go_simp
             with_reducible rfl
            rotate_left
            ·simp only [Act.put, List.setIfInBounds_toArray, List.set_cons_zero, List.set_cons_succ, i64_w, i32_w]
             rfl
            refine one_ (i := 3) (N := some 49) #[true, true, true, true, false, false, false] rfl rfl (by kernel_rfl) (by decide) (fun K hK => ?_)
            refine goes_ Try.func83 (by kernel_rfl) rfl #[.pointer (some ⟨g, 0, none⟩), .int .i64 4] (by rfl) rfl rfl argsB ?_
            with_reducible refine (spec_l1Cur_pick.calls g s0_0 t508 t509 4 t525 t526 t527 w0 _ ?side1 ?side2 A27.out).mono ?_
            (case side1 => repeat (first | (with_reducible first | exact HI0.out | apply IsS90.alloc | apply IsS90.drewN | apply IsS90.drew | apply IsS90.set_1 | apply IsS90.set_2 | refine IsS90.far ?_ NB0_524.out _) | exact HI0.out))
            (case side2 => repeat (first | (with_reducible first | exact HB.out | apply below_alloc | apply pw_below_drewN | apply below_drew1 | refine below_set ?_ (IsS90.ge HI0.out) | refine below_set ?_ GE524.out) | exact HB.out))
            rintro e w34 ⟨rfl, hi, hb, hk⟩
            refine ⟨_, rfl, ?_⟩
            replace HO_4 := Aside0.mk (Kd.R_mono (Kd.R_keep (IsS90.apart (show IsS90 w0 _ g s0_0 t508 t509 from by repeat (first | (with_reducible first | exact HI0.out | apply IsS90.alloc | apply IsS90.drewN | apply IsS90.drew | apply IsS90.set_1 | apply IsS90.set_2 | refine IsS90.far ?_ NB0_524.out _) | exact HI0.out)) (upR HO_4.out) (by decide)) hk (fun _ h => h.2)) (fun _ h => h.1))
            replace HO_5 := Aside0.mk (Kd.R_mono (Kd.R_keep (IsS90.apart (show IsS90 w0 _ g s0_0 t508 t509 from by repeat (first | (with_reducible first | exact HI0.out | apply IsS90.alloc | apply IsS90.drewN | apply IsS90.drew | apply IsS90.set_1 | apply IsS90.set_2 | refine IsS90.far ?_ NB0_524.out _) | exact HI0.out)) (upR HO_5.out) (by decide)) hk (fun _ h => h.2)) (fun _ h => h.1))
            replace BK524 := Aside0.mk (KeepBut.blk hk (g' := gb524) (o := .cells #[.int .i64 ((rd_T70 t499 x6_1).f0), .int .i64 ((rd_T70 t499 x6_1).f1), .int .i64 ((rd_T70 t499 x6_1).f2), .int .i64 ((rd_T70 t499 x6_1).f3), .int .i64 ((rd_T70 t499 x6_1).f4)] 70 (0, 0)) (upK BK524.out) NB524_0.out (by simp))
            replace HK := Aside0.mk (KeepBut.trans (by repeat (first | (with_reducible first | exact HK.out | apply KeepBut.set_ | apply keep_drewN | apply keep_drew | apply keep_alloc | refine keep_far ?_ GW524.out _) | exact HK.out)) hk (.inl rfl))
            replace HB := Aside0.mk (hb)
            replace HI0 := Aside0.mk (hi)
            (try clear hb)
            (try clear hk)
            (try clear hi)
            refine hK.out _ _ ⟨cb BK524 0, cb BK524 1, cb BK524 2, cb BK524 3, cb BK524 4⟩ (fun hHeld => ?_)
            clear hK K
            refine nA ?_ (some 49)
            refine pure_ (i := 4) (N := some 50) (v := ?_) (a' := ?_) #[true, true, true, true, true, false, false] rfl rfl (by kernel_rfl) (fun _ _ _ h => h) (Or.inl ⟨by rfl, ?_⟩) ?_ ?_
            rotate_left
            ·intro w'
             go_simp
             with_reducible rfl
            rotate_left
            ·simp only [Act.put, List.setIfInBounds_toArray, List.set_cons_zero, List.set_cons_succ, i64_w, i32_w]
             rfl
            refine pure_ (i := 5) (N := some 51) (v := ?_) (a' := ?_) #[true, true, true, true, true, true, false] rfl rfl (by kernel_rfl) (fun _ _ _ h => h) (Or.inl ⟨by rfl, ?_⟩) ?_ ?_
            rotate_left
            ·intro w'
             go_simp
             with_reducible rfl
            rotate_left
            ·simp only [Act.put, List.setIfInBounds_toArray, List.set_cons_zero, List.set_cons_succ, i64_w, i32_w]
             rfl
            refine last_ (i := 6) (N := none) #[true, true, true, true, true, true, true] rfl rfl (by kernel_rfl) (by decide) (fun K hK => ?_)
            have hs35 := ci BK524.out 2 ((rd_T70 t499 x6_1).f2) rfl
            have hfs35 := blk_frozen BK524.out 2
            refine skip_ (w1 := ?_) (by rfl) rfl ?_ ?_
            rotate_left
            ·go_simp
             rfl
            refine hK.out _ _ ?_
            clear hK K
            refine done_ (by kernel_rfl) ?_
            have ⟨hcz36_0, hcz36_1, hcz36_2, hcz36_3, hcz36_4, hfz36_0⟩ := cz5 BK524
            try go_wp2_with (first | ((with_reducible refine gate_builtin (b := .append) (xs := #[.tmp 52, .tmp 54]) rfl ?_); at_builtin; refine Kd.R_append k70 w.heap.size rfl (.tmp 52) (.tmp 54) 35 70 (.agg #[(.int .i64 0), (.int .i64 0), (.int .i64 0), (.int .i64 0), (.int .i64 0)]) 40 rfl Try.underlying35 info70 rfl (by decide) (by omega) u5 x5_1 (⟨(rd_T70 t499 x6_1).f0, (rd_T70 t499 x6_1).f1, wrap64 (((rd_T70 t499 x6_1).f2) + t525), (rd_T70 t499 x6_1).f3, (rd_T70 t499 x6_1).f4⟩ : S70) [.int .i64 ((rd_T70 t499 x6_1).f0), .int .i64 ((rd_T70 t499 x6_1).f1), .int .i64 (wrap64 (((rd_T70 t499 x6_1).f2) + t525)), .int .i64 ((rd_T70 t499 x6_1).f3), .int .i64 ((rd_T70 t499 x6_1).f4)] (fun k_ => some k_ ≠ (.slice (some ad523) t499.length co9 : Value).ownBlock ∧ k_ ≠ gb524) (fun _ => False) rfl (by first | (go_simp; done) | (go_simp; rfl)) ?aP (fun _ hk => hk.elim) ?aF ?aO (Below.refl _ _) ?aS ?aL ?_; (case aP => exact k70_mkM _ _ _ (⟨(rd_T70 t499 x6_1).f0, (rd_T70 t499 x6_1).f1, wrap64 (((rd_T70 t499 x6_1).f2) + t525), (rd_T70 t499 x6_1).f3, (rd_T70 t499 x6_1).f4⟩ : S70)); (case aF => exact (fun k_ hk => ⟨Kd.fresh' (Kd.R_lt (by (with_reducible repeat (first | apply Kd.R_alloc | apply Kd.R_drewN | apply Kd.R_drew)); exact (Kd.R_mono (Kd.R_far (p := ⟨gb524, 2, none⟩) (Kd.R_mono HO_4.out (fun k_ hk => (⟨hk, hk.2⟩ : _ ∧ k_ ≠ gb524))) (fun _ hk => hk.2) (.int .i64 (wrap64 (((rd_T70 t499 x6_1).f2) + t525)))) (fun _ h_ => h_.1)))) k_ hk, Kd.freshB (g := gb524) (o := .cells #[.int .i64 ((rd_T70 t499 x6_1).f0), .int .i64 ((rd_T70 t499 x6_1).f1), .int .i64 (wrap64 (((rd_T70 t499 x6_1).f2) + t525)), .int .i64 ((rd_T70 t499 x6_1).f3), .int .i64 ((rd_T70 t499 x6_1).f4)] 70 (0, 0)) (by exact pW BK524) k_ hk⟩)); (case aO => exact (by (with_reducible repeat (first | apply Kd.R_alloc | apply Kd.R_drewN | apply Kd.R_drew)); exact Kd.R_mono (Kd.R_far (p := ⟨gb524, 2, none⟩) (Kd.R_mono HO_5.out (fun k_ hk => (⟨hk, hk.2⟩ : _ ∧ k_ ≠ gb524))) (fun _ hk => hk.2) (.int .i64 (wrap64 (((rd_T70 t499 x6_1).f2) + t525)))) (fun _ hk => ⟨hk.1.1, hk.1.2⟩))); (case aS => exact (keep_size (w := w) (g := g) (row := none) (by repeat (first | (with_reducible first | exact HK.out | apply KeepBut.set_ | apply keep_drewN | apply keep_drew | apply keep_alloc | refine keep_far ?_ GW524.out _) | exact HK.out)))); (case aL => have := LMc28.out; omega); intro v529 w37 ho hb hg hat; rw [← Ny528.out] at ho; have HO530 := Aside0.mk (ho); replace HO_4 := Aside0.mk (Kd.R_after (ok := (fun k_ => k_ ≠ gb524)) (by (with_reducible repeat (first | apply Kd.R_alloc | apply Kd.R_drewN | apply Kd.R_drew)); exact Kd.R_mono (Kd.R_far (p := ⟨gb524, 2, none⟩) (Kd.R_mono HO_4.out (fun k_ hk => (⟨hk, hk.2⟩ : _ ∧ k_ ≠ gb524))) (fun _ hk => hk.2) (.int .i64 (wrap64 (((rd_T70 t499 x6_1).f2) + t525)))) (fun _ hk => ⟨hk.1.2, hk.1.1⟩)) hg hat); replace BK524 := Aside0.mk (blk_grown (g := gb524) (o := .cells #[.int .i64 ((rd_T70 t499 x6_1).f0), .int .i64 ((rd_T70 t499 x6_1).f1), .int .i64 (wrap64 (((rd_T70 t499 x6_1).f2) + t525)), .int .i64 ((rd_T70 t499 x6_1).f3), .int .i64 ((rd_T70 t499 x6_1).f4)] 70 (0, 0)) (by exact pW BK524) hg (Kd.R_away HO_5.out (fun _ hk => hk.2))); replace HB := Aside0.mk (below_weaken (by repeat (first | (with_reducible first | exact HB.out | apply below_alloc | apply pw_below_drewN | apply below_drew1 | refine below_set ?_ (IsS90.ge HI0.out) | refine below_set ?_ GE524.out) | exact HB.out)) HL.out hb); replace HI0 := Aside0.mk (IsS90.grown (keepF_ HI0 <| by repeat (first | (with_reducible first | exact HI0.out | apply IsS90.alloc | apply IsS90.drewN | apply IsS90.drew | apply IsS90.set_1 | apply IsS90.set_2 | refine IsS90.far ?_ NB0_524.out _) | exact HI0.out)) hg (IsS90.own_ne HI0.out HO_5.out (by decide))); replace HK := Aside0.mk (KeepBut.trans (by repeat (first | (with_reducible first | exact HK.out | apply KeepBut.set_ | apply keep_drewN | apply keep_drew | apply keep_alloc | refine keep_far ?_ GW524.out _) | exact HK.out)) (KeepBut.of_grown hg g) (Kd.R_base2 HO_5.out)); clear HO_5; clear ho hb hg hat))
            go_roundg kj7
            case measure => have := HK1.out; have := HJ7.out; omega
            case rel => exact ⟨(y528), (wrap64 (x6_1 + 1)), (t526), (t527), rB, H', ⟨by have := HK1.out; have := HJ7.out; omega⟩, ⟨by (with_reducible repeat (first | apply Kd.R_alloc | apply Kd.R_drewN | apply Kd.R_drew)); exact Kd.R_mono HO_4.out (fun _ hk => hk.2)⟩, ⟨by (with_reducible repeat (first | apply Kd.R_alloc | apply Kd.R_drewN | apply Kd.R_drew)); exact Kd.R_mono HO530.out (fun _ hk => hk.1)⟩, ⟨by repeat (first | (with_reducible first | exact HI0.out | apply IsS90.alloc | apply IsS90.drewN | apply IsS90.drew | apply IsS90.set_1 | apply IsS90.set_2 | refine IsS90.far ?_ NB0_524.out _) | exact HI0.out)⟩, ⟨by repeat (first | (with_reducible first | exact HK.out | apply KeepBut.set_ | apply keep_drewN | apply keep_drew | apply keep_alloc | refine keep_far ?_ GW524.out _) | exact HK.out)⟩, ⟨by repeat (first | (with_reducible first | exact HB.out | apply below_alloc | apply pw_below_drewN | apply below_drew1 | refine below_set ?_ (IsS90.ge HI0.out) | refine below_set ?_ GE524.out) | exact HB.out)⟩⟩
           ·rw [if_neg c28] at H
            exact absurd H (by simp)
          ·rw [if_neg c26] at H
           exact absurd H (by simp)
         ·rw [if_neg c25] at H
          exact absurd H (by simp)
        ·have H' := Aside0.mk H
         clear H
         go_wp2
         go_roundg kj7
         case measure => have := HK1.out; have := HJ7.out; omega
         case rel => exact ⟨(x5_1), (wrap64 (x6_1 + 1)), (t508), (t509), rB, H', ⟨by have := HK1.out; have := HJ7.out; omega⟩, ⟨upR HO_4.out⟩, ⟨upR HO_5.out⟩, ⟨by repeat (first | (with_reducible first | exact HI0.out | apply IsS90.alloc | apply IsS90.drewN | apply IsS90.drew | apply IsS90.set_1 | apply IsS90.set_2) | exact HI0.out)⟩, ⟨by repeat (first | (with_reducible first | exact HK.out | apply KeepBut.set_ | apply keep_drewN | apply keep_drew | apply keep_alloc) | exact HK.out)⟩, ⟨by repeat (first | (with_reducible first | exact HB.out | apply below_alloc | apply pw_below_drewN | apply below_drew1 | refine below_set ?_ (IsS90.ge HI0.out)) | exact HB.out)⟩⟩
   ·replace H := Option.bind_eq_some_iff.mp H
    obtain ⟨⟨t531, t532, t533⟩, A380, H⟩ := H
    replace H : (spec_l1Cur_twoClubs.l1 k1 t499 x5_1 t531 s0_0 t532 t533) = some (r1, r2, r3, r4) := H
    have A38 := Aside0.mk A380
    clear A380
    have H' := Aside0.mk H
    clear H
    obtain ⟨Ao39, co39, eo39⟩ := Kd.R_slice HO_4.out
    subst eo39
    go_wp2_with (first | ((with_reducible refine gate_callee (f := 83) rfl ?_); refine goesL_ (some 57) rfl rfl Try.func83 (by kernel_rfl) rfl #[.pointer (some ⟨g, 0, none⟩), .int .i64 3] rfl argsB ?_; (with_reducible refine (spec_l1Cur_pick.calls g s0_0 x1001_1 x1002_1 3 t531 t532 t533 w0 _ ?side1 ?side2 A38.out).mono ?_); (case side1 => repeat (first | (with_reducible first | exact HI0.out | apply IsS90.alloc | apply IsS90.drewN | apply IsS90.drew | apply IsS90.set_1 | apply IsS90.set_2) | exact HI0.out)); (case side2 => repeat (first | (with_reducible first | exact HB.out | apply below_alloc | apply pw_below_drewN | apply below_drew1 | refine below_set ?_ (IsS90.ge HI0.out)) | exact HB.out)); rintro e w40 ⟨rfl, hi, hb, hk⟩; refine ⟨_, rfl, ?_⟩; replace HO_4 := Aside0.mk (Kd.R_mono (Kd.R_keep (IsS90.apart (show IsS90 w0 _ g s0_0 x1001_1 x1002_1 from by repeat (first | (with_reducible first | exact HI0.out | apply IsS90.alloc | apply IsS90.drewN | apply IsS90.drew | apply IsS90.set_1 | apply IsS90.set_2) | exact HI0.out)) (upR HO_4.out) (by decide)) hk (fun _ h => h.2)) (fun _ h => h.1)); replace HO_5 := Aside0.mk (Kd.R_mono (Kd.R_keep (IsS90.apart (show IsS90 w0 _ g s0_0 x1001_1 x1002_1 from by repeat (first | (with_reducible first | exact HI0.out | apply IsS90.alloc | apply IsS90.drewN | apply IsS90.drew | apply IsS90.set_1 | apply IsS90.set_2) | exact HI0.out)) (upR HO_5.out) (by decide)) hk (fun _ h => h.2)) (fun _ h => h.1)); replace HK := Aside0.mk (KeepBut.trans (by repeat (first | (with_reducible first | exact HK.out | apply KeepBut.set_ | apply keep_drewN | apply keep_drew | apply keep_alloc) | exact HK.out)) hk (.inl rfl)); replace HB := Aside0.mk (hb); replace HI0 := Aside0.mk (hi); (try clear hb); (try clear hk); (try clear hi)))
    (try simp only [Act.put, List.setIfInBounds_toArray, List.set_cons_zero, List.set_cons_succ])
    go_loopg [5, 8] k1 (fun kq v5 v8 w' => ∃ (x5_2 : List (S70)) (x8_2 x1001_2 x1002_2 : Int), v8 = .int .i64 x8_2 ∧ Aside0 (spec_l1Cur_twoClubs.l1 kq t499 x5_2 x8_2 s0_0 x1001_2 x1002_2 = some (r1, r2, r3, r4)) ∧ Aside0 (kq ≤ k1) ∧ Aside0 (Kd.R k70 70 w' w.heap.size (fun k_ => some k_ ≠ (v5 : Value).ownBlock) (.slice Ao39 t499.length co39) t499) ∧ Aside0 (Kd.R k70 70 w' w.heap.size (fun k_ => some k_ ≠ ((.slice Ao39 t499.length co39) : Value).ownBlock) v5 x5_2) ∧ Aside0 (IsS90 w0 w' g s0_0 x1001_2 x1002_2) ∧ Aside0 (KeepBut w w' g none) ∧ Aside0 (Below w0.heap.size w0 w'))
    case atStart => exact ⟨(x5_1), (t531), (t532), (t533), rB, H', ⟨Nat.le_refl _⟩, ⟨upR HO_4.out⟩, ⟨upR HO_5.out⟩, ⟨by repeat (first | (with_reducible first | exact HI0.out | apply IsS90.alloc | apply IsS90.drewN | apply IsS90.drew | apply IsS90.set_1 | apply IsS90.set_2) | exact HI0.out)⟩, ⟨by repeat (first | (with_reducible first | exact HK.out | apply KeepBut.set_ | apply keep_drewN | apply keep_drew | apply keep_alloc) | exact HK.out)⟩, ⟨by repeat (first | (with_reducible first | exact HB.out | apply below_alloc | apply pw_below_drewN | apply below_drew1 | refine below_set ?_ (IsS90.ge HI0.out)) | exact HB.out)⟩⟩
    case round =>
     clear H'
     try clear c6b0
     obtain ⟨x5_2, x8_2, x1001_2, x1002_2, rfl, HA, HK2, HO_4, HO_5, HI0, HK, HB⟩ := hrel
     cases gk with
     | zero => exact absurd HA.out (by simp [spec_l1Cur_twoClubs.l1])
     | succ k2 =>
      have H := HA.out
      clear HA
      simp only [spec_l1Cur_twoClubs.l1] at H
      replace H := ifD H
      rcases H with ⟨H, -, c41b0⟩ | ⟨H, -, c41b0⟩
      ·replace H := Option.bind_eq_some_iff.mp H
       obtain ⟨⟨t534, t535, t536, t537, t538, t539, t540⟩, A420, H⟩ := H
       replace H : (if x5_2.length < 3518437208883 then (spec_l1Cur_twoClubs.l1 k2 t499 (x5_2 ++ [(⟨t534, t535, t536, t537, t538⟩ : S70)]) (wrap64 (x8_2 - 1)) s0_0 t539 t540) else (none)) = some (r1, r2, r3, r4) := H
       have A42 := Aside0.mk A420
       clear A420
       by_cases c43 : x5_2.length < 3518437208883
       ·rw [if_pos c43] at H
        have LMc43 := Aside0.mk c43
        clear c43
        obtain ⟨y541, hy541⟩ : ∃ y_ : List (S70), y_ = (x5_2 ++ [(⟨t534, t535, t536, t537, t538⟩ : S70)]) := ⟨_, rfl⟩
        replace H : (spec_l1Cur_twoClubs.l1 k2 t499 y541 (wrap64 (x8_2 - 1)) s0_0 t539 t540) = some (r1, r2, r3, r4) := by first | (rw [hy541]; with_reducible exact H) | (have H2_ := (Option.bind_some _ _).symm.trans H; rw [hy541]; with_reducible exact H2_) | (have H2_ := (Option.bind_some _ _).symm.trans H; with_reducible exact H2_) | with_reducible exact H | (rw [hy541]; exact H) | exact H
        have Ny541 := Aside0.mk hy541
        clear hy541
        have H' := Aside0.mk H
        clear H
        go_wp2_with (first | ((with_reducible refine gate_callee (f := 108) rfl ?_); refine goesL_ (some 64) rfl rfl Try.func108 (by kernel_rfl) rfl #[.pointer (some ⟨g, 0, none⟩)] rfl argsB ?_; (with_reducible refine (spec_l1Cur_leg.calls k2 g s0_0 x1001_2 x1002_2 t534 t535 t536 t537 t538 t539 t540 w0 _ ?side1 ?side2 A42.out).mono ?_); (case side1 => repeat (first | (with_reducible first | exact HI0.out | apply IsS90.alloc | apply IsS90.drewN | apply IsS90.drew | apply IsS90.set_1 | apply IsS90.set_2) | exact HI0.out)); (case side2 => repeat (first | (with_reducible first | exact HB.out | apply below_alloc | apply pw_below_drewN | apply below_drew1 | refine below_set ?_ (IsS90.ge HI0.out)) | exact HB.out)); rintro e w44 ⟨rfl, hi, hb, hk⟩; refine ⟨_, rfl, ?_⟩; replace HO_4 := Aside0.mk (Kd.R_mono (Kd.R_keep (IsS90.apart (show IsS90 w0 _ g s0_0 x1001_2 x1002_2 from by repeat (first | (with_reducible first | exact HI0.out | apply IsS90.alloc | apply IsS90.drewN | apply IsS90.drew | apply IsS90.set_1 | apply IsS90.set_2) | exact HI0.out)) (upR HO_4.out) (by decide)) hk (fun _ h => h.2)) (fun _ h => h.1)); replace HO_5 := Aside0.mk (Kd.R_mono (Kd.R_keep (IsS90.apart (show IsS90 w0 _ g s0_0 x1001_2 x1002_2 from by repeat (first | (with_reducible first | exact HI0.out | apply IsS90.alloc | apply IsS90.drewN | apply IsS90.drew | apply IsS90.set_1 | apply IsS90.set_2) | exact HI0.out)) (upR HO_5.out) (by decide)) hk (fun _ h => h.2)) (fun _ h => h.1)); replace HK := Aside0.mk (KeepBut.trans (by repeat (first | (with_reducible first | exact HK.out | apply KeepBut.set_ | apply keep_drewN | apply keep_drew | apply keep_alloc) | exact HK.out)) hk (.inl rfl)); replace HB := Aside0.mk (hb); replace HI0 := Aside0.mk (hi); (try clear hb); (try clear hk); (try clear hi)) | ((with_reducible refine gate_builtin (b := .append) (xs := #[.tmp 62, .tmp 65]) rfl ?_); at_builtin; refine Kd.R_append k70 w.heap.size rfl (.tmp 62) (.tmp 65) 35 70 (.agg #[(.int .i64 0), (.int .i64 0), (.int .i64 0), (.int .i64 0), (.int .i64 0)]) 40 rfl Try.underlying35 info70 rfl (by decide) (by omega) u5 x5_2 (⟨t534, t535, t536, t537, t538⟩ : S70) [.int .i64 t534, .int .i64 t535, .int .i64 t536, .int .i64 t537, .int .i64 t538] (fun k_ => some k_ ≠ (.slice Ao39 t499.length co39 : Value).ownBlock) (fun _ => False) rfl rfl ?aP (fun _ hk => hk.elim) ?aF ?aO (Below.refl _ _) ?aS ?aL ?_; (case aP => exact k70_mkM _ _ _ (⟨t534, t535, t536, t537, t538⟩ : S70)); (case aF => exact (fun k_ hk => Kd.fresh' (Kd.R_lt (upR HO_4.out)) k_ hk)); (case aO => exact (upR HO_5.out)); (case aS => exact (keep_size (w := w) (g := g) (row := none) (by repeat (first | (with_reducible first | exact HK.out | apply KeepBut.set_ | apply keep_drewN | apply keep_drew | apply keep_alloc) | exact HK.out)))); (case aL => have := LMc43.out; omega); intro v542 w45 ho hb hg hat; rw [← Ny541.out] at ho; have HO543 := Aside0.mk (ho); replace HO_4 := Aside0.mk (Kd.R_after (ok := (fun _ => True)) (by (with_reducible repeat (first | apply Kd.R_alloc | apply Kd.R_drewN | apply Kd.R_drew)); exact Kd.R_mono HO_4.out (fun _ hk => ⟨trivial, hk⟩)) hg hat); replace HB := Aside0.mk (below_weaken (by repeat (first | (with_reducible first | exact HB.out | apply below_alloc | apply pw_below_drewN | apply below_drew1 | refine below_set ?_ (IsS90.ge HI0.out)) | exact HB.out)) HL.out hb); replace HI0 := Aside0.mk (IsS90.grown (keepF_ HI0 <| by repeat (first | (with_reducible first | exact HI0.out | apply IsS90.alloc | apply IsS90.drewN | apply IsS90.drew | apply IsS90.set_1 | apply IsS90.set_2) | exact HI0.out)) hg (IsS90.own_ne HI0.out HO_5.out (by decide))); replace HK := Aside0.mk (KeepBut.trans (by repeat (first | (with_reducible first | exact HK.out | apply KeepBut.set_ | apply keep_drewN | apply keep_drew | apply keep_alloc) | exact HK.out)) (KeepBut.of_grown hg g) (Kd.R_base2 HO_5.out)); clear HO_5; clear ho hb hg hat))
        go_roundg k2
        case measure => have := HK1.out; have := HK2.out; omega
        case rel => exact ⟨(y541), (wrap64 (x8_2 - 1)), (t539), (t540), rB, H', ⟨by have := HK1.out; have := HK2.out; omega⟩, ⟨by (with_reducible repeat (first | apply Kd.R_alloc | apply Kd.R_drewN | apply Kd.R_drew)); exact Kd.R_mono HO_4.out (fun _ hk => hk.2)⟩, ⟨upR HO543.out⟩, ⟨by repeat (first | (with_reducible first | exact HI0.out | apply IsS90.alloc | apply IsS90.drewN | apply IsS90.drew | apply IsS90.set_1 | apply IsS90.set_2) | exact HI0.out)⟩, ⟨by repeat (first | (with_reducible first | exact HK.out | apply KeepBut.set_ | apply keep_drewN | apply keep_drew | apply keep_alloc) | exact HK.out)⟩, ⟨by repeat (first | (with_reducible first | exact HB.out | apply below_alloc | apply pw_below_drewN | apply below_drew1 | refine below_set ?_ (IsS90.ge HI0.out)) | exact HB.out)⟩⟩
       ·rw [if_neg c43] at H
        exact absurd H (by simp)
      ·simp only [Option.some.injEq, Prod.mk.injEq] at H
       obtain ⟨rfl, rfl, rfl, rfl⟩ := H
       go_wp2
       go_ret2
       exact ⟨_, _, eB, upR HO_4.out, upR HO_5.out, by repeat (first | (with_reducible first | exact HI0.out | apply IsS90.alloc | apply IsS90.drewN | apply IsS90.drew | apply IsS90.set_1 | apply IsS90.set_2) | exact HI0.out), by repeat (first | (with_reducible first | exact HB.out | apply below_alloc | apply pw_below_drewN | apply below_drew1 | refine below_set ?_ (IsS90.ge HI0.out)) | exact HB.out), by repeat (first | (with_reducible first | exact HK.out | apply KeepBut.set_ | apply keep_drewN | apply keep_drew | apply keep_alloc) | exact HK.out)⟩

/-! ### spec_DrawSharedLegs: function 85 -/
def spec_DrawSharedLegs.f (k : Nat) (l0 : List Int) : Option ((List (S70)) × (List (S70))) := (spec_l1Cur_twoClubs.f k l0 0 0).bind fun bt545 => (some (bt545.1, bt545.2.1))
theorem spec_DrawSharedLegs.mono : ∀ a0 k, LeO (spec_DrawSharedLegs.f k a0) (spec_DrawSharedLegs.f (k + 1) a0) := by
 intro a0 k
 unfold spec_DrawSharedLegs.f
 repeat' with_reducible first | apply spec_l1Cur_twoClubs.mono | exact LeO.refl _ | exact LeO.none _ | refine LeO.ite ?_ ?_ | refine LeO.bind ?_ (fun _ => ?_)
set_option maxHeartbeats 8000000 in
set_option maxRecDepth 100000 in
theorem spec_DrawSharedLegs.calls (k : Nat) (A0 : Option Addr) (c0 : Nat) (l0 : List Int) (r1 : List (S70)) (r2 : List (S70)) (w : World) (hr0 : Kd.C (Kd.int .u8) w A0 l0.length l0) (hc0 : l0.length ≤ c0) (h : spec_DrawSharedLegs.f k l0 = some (r1, r2)) :
  Calls Try.prog 85 #[.slice A0 l0.length c0] w fun e w' => ∃ v0_ v1_ : Value, e = .returned (.tuple #[v0_, v1_]) ∧ Kd.R k70 70 w' w.heap.size (fun k_ => some k_ ≠ (v1_ : Value).ownBlock) v0_ r1 ∧ Kd.R k70 70 w' w.heap.size (fun k_ => some k_ ≠ (v0_ : Value).ownBlock) v1_ r2 ∧ Below w.heap.size w w' := by
 have hu90 := Try.underlying90
 have HR0 := Aside0.mk hr0
 have HC0 := Aside0.mk hc0
 clear hr0 hc0
 have HB := Aside0.mk (Below.refl w.heap.size w)
 have H := h
 clear h
 unfold spec_DrawSharedLegs.f at H
 replace H := Option.bind_eq_some_iff.mp H
 obtain ⟨⟨t545, t548, t551, t552⟩, A20, H⟩ := H
 replace H : (some (t545, t548)) = some (r1, r2) := H
 have A2 := Aside0.mk A20
 clear A20
 simp only [Option.some.injEq, Prod.mk.injEq] at H
 obtain ⟨rfl, rfl⟩ := H
 go_enter Try.func85, Try.ntmps85
 go_wp2_with (first | ((with_reducible refine gD 9 ?_); refine bxE 9 90 #[.slice A0 l0.length c0, .int .i64 0, .int .u64 0] fun gb544 w3 hg hbox hb => ?_; have GE544 := gB HB hg; have HI544 := Aside0.mk ((⟨_, _, hbox, (by rw [hg]; exact (below_size (bW HB)) : w.heap.size ≤ gb544), HR0.out⟩ : IsS90 w w3 gb544 l0 0 0)); replace HB := uB HB hb; clear hb hbox hg) | ((with_reducible refine gate_callee (f := 84) rfl ?_); refine goesL_ (some 12) rfl rfl Try.func84 (by kernel_rfl) rfl #[.pointer (some ⟨gb544, 0, none⟩)] rfl argsB ?_; (with_reducible refine (spec_l1Cur_twoClubs.calls k gb544 l0 0 0 t545 t548 t551 t552 w _ ?side1 ?side2 A2.out).mono ?_); (case side1 => repeat (first | (with_reducible first | exact HI544.out | apply IsS90.alloc | apply IsS90.drewN | apply IsS90.drew | apply IsS90.set_1 | apply IsS90.set_2) | exact HI544.out)); (case side2 => repeat (first | (with_reducible first | exact HB.out | apply below_alloc | apply pw_below_drewN | apply below_drew1 | refine below_set ?_ (IsS90.ge HI544.out)) | exact HB.out)); rintro e w4 ⟨v546, v549, rfl, ho0, ho1, hi, hb, hk⟩; refine ⟨_, rfl, ?_⟩; have HO547 := Aside0.mk (Kd.R_lower ho0 (below_size (by repeat (first | (with_reducible first | exact HB.out | apply below_alloc | apply pw_below_drewN | apply below_drew1 | refine below_set ?_ (IsS90.ge HI544.out)) | exact HB.out)))); have HO550 := Aside0.mk (Kd.R_lower ho1 (below_size (by repeat (first | (with_reducible first | exact HB.out | apply below_alloc | apply pw_below_drewN | apply below_drew1 | refine below_set ?_ (IsS90.ge HI544.out)) | exact HB.out)))); replace HB := Aside0.mk (hb); replace HI544 := Aside0.mk (hi); (try clear hb); (try clear hk); (try clear hi); (try clear ho0); (try clear ho1)))
 go_ret2
 exact ⟨_, _, eB, upR HO547.out, upR HO550.out, by repeat (first | (with_reducible first | exact HB.out | apply below_alloc | apply pw_below_drewN | apply below_drew1 | refine below_set ?_ (IsS90.ge HI544.out)) | exact HB.out)⟩

/-! ### spec_DrawMergeLegs: function 51 -/
def spec_DrawMergeLegs.f (k : Nat) (l0 : List Int) : Option ((List (S70)) × (List (S70))) := (spec_DrawSharedLegs.f k l0).bind fun bt553 => (some (bt553.1, bt553.2))
theorem spec_DrawMergeLegs.mono : ∀ a0 k, LeO (spec_DrawMergeLegs.f k a0) (spec_DrawMergeLegs.f (k + 1) a0) := by
 intro a0 k
 unfold spec_DrawMergeLegs.f
 repeat' with_reducible first | apply spec_DrawSharedLegs.mono | exact LeO.refl _ | exact LeO.none _ | refine LeO.ite ?_ ?_ | refine LeO.bind ?_ (fun _ => ?_)
set_option maxHeartbeats 8000000 in
set_option maxRecDepth 100000 in
theorem spec_DrawMergeLegs.calls (k : Nat) (A0 : Option Addr) (c0 : Nat) (l0 : List Int) (r1 : List (S70)) (r2 : List (S70)) (w : World) (hr0 : Kd.C (Kd.int .u8) w A0 l0.length l0) (hc0 : l0.length ≤ c0) (h : spec_DrawMergeLegs.f k l0 = some (r1, r2)) :
  Calls Try.prog 51 #[.slice A0 l0.length c0] w fun e w' => ∃ v0_ v1_ : Value, e = .returned (.tuple #[v0_, v1_]) ∧ Kd.R k70 70 w' w.heap.size (fun k_ => some k_ ≠ (v1_ : Value).ownBlock) v0_ r1 ∧ Kd.R k70 70 w' w.heap.size (fun k_ => some k_ ≠ (v0_ : Value).ownBlock) v1_ r2 ∧ Below w.heap.size w w' := by
 have HR0 := Aside0.mk hr0
 have HC0 := Aside0.mk hc0
 clear hr0 hc0
 have HB := Aside0.mk (Below.refl w.heap.size w)
 have H := h
 clear h
 unfold spec_DrawMergeLegs.f at H
 replace H := Option.bind_eq_some_iff.mp H
 obtain ⟨⟨t553, t554⟩, A20, H⟩ := H
 replace H : (some (t553, t554)) = some (r1, r2) := H
 have A2 := Aside0.mk A20
 clear A20
 simp only [Option.some.injEq, Prod.mk.injEq] at H
 obtain ⟨rfl, rfl⟩ := H
 go_enter Try.func51, Try.ntmps51
 go_wp2_with (first | ((with_reducible refine gate_callee (f := 85) rfl ?_); refine goesL_ (some 5) rfl rfl Try.func85 (by kernel_rfl) rfl #[.slice A0 l0.length c0] rfl argsB ?_; (with_reducible refine (spec_DrawSharedLegs.calls k _ _ l0 t553 t554 _ ?side1 ?side2 A2.out).mono ?_); (case side1 => repeat (first | exact HR0.out | (with_reducible refine Kd.C_alloc ?_ _) | (with_reducible refine Kd.C_drewN ?_ _) | (with_reducible refine Kd.C_drew ?_))); (case side2 => exact HC0.out); rintro e w3 ⟨v555, v557, rfl, ho0, ho1, hb⟩; refine ⟨_, rfl, ?_⟩; have HO556 := Aside0.mk (Kd.R_lower ho0 (below_size (bW HB))); have HO558 := Aside0.mk (Kd.R_lower ho1 (below_size (bW HB))); replace HB := uB HB hb; (try clear hb); (try clear ho0); (try clear ho1)))
 go_ret2
 exact ⟨_, _, eB, upR HO556.out, upR HO558.out, (bW HB)⟩

/-! ### laws_vPairs: function 52 -/
def laws_vPairs.l0 : Nat → List (S64) → List (S64) → Int → Option (Bool)
 | 0, _, _, _ => none
 | k + 1, x0, x1, x5 => if x5 < (x0.length : Int) then (if 0 ≤ x5 then (if x5 < (x1.length : Int) then (if (!(((rd_T64 x0 x5).f0) == ((rd_T64 x1 x5).f0)) || (!(((rd_T64 x0 x5).f1) == ((rd_T64 x1 x5).f1)))) = true then (some false) else (laws_vPairs.l0 k x0 x1 (wrap64 (x5 + 1)))) else (none)) else (none)) else (some true)
def laws_vPairs.f (k : Nat) (l0 : List (S64)) (l1 : List (S64)) : Option (Bool) := if (l0.length : Int) = (l1.length : Int) then (laws_vPairs.l0 k l0 l1 0) else (some false)
theorem laws_vPairs.mono_l : ∀ k, (∀ y0 y1 y2, LeO (laws_vPairs.l0 k y0 y1 y2) (laws_vPairs.l0 (k + 1) y0 y1 y2))
 | 0 => fun _ _ _ r h => by simp [laws_vPairs.l0] at h
 | k + 1 => by
  have ih0 := laws_vPairs.mono_l k
  ·intro y0 y1 y2
   unfold laws_vPairs.l0
   repeat' with_reducible first | apply ih0 | exact LeO.refl _ | exact LeO.none _ | refine LeO.ite ?_ ?_ | refine LeO.bind ?_ (fun _ => ?_)
theorem laws_vPairs.mono : ∀ a0 a1 k, LeO (laws_vPairs.f k a0 a1) (laws_vPairs.f (k + 1) a0 a1) := by
 intro a0 a1 k
 have ih0 := laws_vPairs.mono_l k
 unfold laws_vPairs.f
 repeat' with_reducible first | apply ih0 | exact LeO.refl _ | exact LeO.none _ | refine LeO.ite ?_ ?_ | refine LeO.bind ?_ (fun _ => ?_)
set_option maxHeartbeats 8000000 in
set_option maxRecDepth 100000 in
theorem laws_vPairs.calls (k : Nat) (A0 : Option Addr) (c0 : Nat) (l0 : List (S64)) (A1 : Option Addr) (c1 : Nat) (l1 : List (S64)) (r : Bool) (w : World) (hr0 : Kd.C k64 w A0 l0.length l0) (hc0 : l0.length ≤ c0) (hr1 : Kd.C k64 w A1 l1.length l1) (hc1 : l1.length ≤ c1) (h : laws_vPairs.f k l0 l1 = some r) :
  Calls Try.prog 52 #[.slice A0 l0.length c0, .slice A1 l1.length c1] w fun e w' => e = .returned (.bool r) ∧ Drawn0 w w' := by
 have hu64 := Try.underlying64
 have HR0 := Aside0.mk hr0
 have HC0 := Aside0.mk hc0
 clear hr0 hc0
 have HR1 := Aside0.mk hr1
 have HC1 := Aside0.mk hc1
 clear hr1 hc1
 have H := h
 clear h
 unfold laws_vPairs.f at H
 replace H := ifI H
 rcases H with ⟨H, c3, c3b0, c3b1⟩ | ⟨H, c3, c3b0, c3b1⟩
 ·have c3b2 : (l0.length == l1.length) = true := by first | simpa using c3 | (simp at c3 ⊢; omega)
  clear c3
  have H' := Aside0.mk H
  clear H
  go_enter Try.func52, Try.ntmps52
  go_wp2
  repeat (go_quiet (fail); try go_wp2)
  go_loopg [5] k (fun kq v5 w' => ∃ (x5_1 : Int), v5 = .int .i64 x5_1 ∧ Aside0 (laws_vPairs.l0 kq l0 l1 x5_1 = some r) ∧ Aside0 (kq ≤ k) ∧ Drawn0 w w')
  case atStart => exact ⟨(0), rB, H', ⟨Nat.le_refl _⟩, by repeat (first | exact Drawn0.refl _ | apply Drawn0.step)⟩
  case round =>
   clear H'
   try clear c1
   try clear c3
   try clear c3b0
   try clear c3b1
   try clear c3b2
   obtain ⟨x5_1, rfl, HA, HK1, ⟨m1, rfl⟩⟩ := hrel
   cases gk with
   | zero => exact absurd HA.out (by simp [laws_vPairs.l0])
   | succ k1 =>
    have H := HA.out
    clear HA
    simp only [laws_vPairs.l0] at H
    replace H := ifD H
    rcases H with ⟨H, -, c4b0⟩ | ⟨H, -, c4b0⟩
    ·by_cases c5 : 0 ≤ x5_1
     ·rw [if_pos c5] at H
      have c5b0 : decide (0 ≤ x5_1) = true := decide_eq_true c5
      clear c5
      by_cases c6 : x5_1 < (l1.length : Int)
      ·rw [if_pos c6] at H
       have c6b0 : decide (x5_1 < (l1.length : Int)) = true := decide_eq_true c6
       clear c6
       by_cases c7 : (!(((rd_T64 l0 x5_1).f0) == ((rd_T64 l1 x5_1).f0)) || (!(((rd_T64 l0 x5_1).f1) == ((rd_T64 l1 x5_1).f1)))) = true
       ·rw [if_pos c7] at H
        have c7b0 : (!(((rd_T64 l0 x5_1).f0) == ((rd_T64 l1 x5_1).f0)) || (!(((rd_T64 l0 x5_1).f1) == ((rd_T64 l1 x5_1).f1)))) = true := c7
        clear c7
        obtain rfl := Option.some.inj H
        have p559 : 0 ≤ (x5_1 : Int) := of_decide_eq_true asmB
        have q559 : x5_1 < (l0.length : Int) := of_decide_eq_true asmB
        obtain ⟨ad559, e559, hx559_0, hx559_1⟩ := at_T64 HR0.out x5_1 p559 q559
        cases e559
        replace p559 := eq_true p559
        replace q559 := eq_true q559
        have p560 : 0 ≤ (x5_1 : Int) := of_decide_eq_true asmB
        have q560 : x5_1 < (l1.length : Int) := of_decide_eq_true asmB
        obtain ⟨ad560, e560, hx560_0, hx560_1⟩ := at_T64 HR1.out x5_1 p560 q560
        cases e560
        replace p560 := eq_true p560
        replace q560 := eq_true q560
        go_wp2
        repeat (go_quiet (fail); try go_wp2)
        go_ret
        exact ⟨rB, by repeat (first | exact Drawn0.refl _ | apply Drawn0.step)⟩
       ·rw [if_neg c7] at H
        have c7b0 : (!(((rd_T64 l0 x5_1).f0) == ((rd_T64 l1 x5_1).f0)) || (!(((rd_T64 l0 x5_1).f1) == ((rd_T64 l1 x5_1).f1)))) = false := by simpa using c7
        clear c7
        have H' := Aside0.mk H
        clear H
        have p559 : 0 ≤ (x5_1 : Int) := of_decide_eq_true asmB
        have q559 : x5_1 < (l0.length : Int) := of_decide_eq_true asmB
        obtain ⟨ad559, e559, hx559_0, hx559_1⟩ := at_T64 HR0.out x5_1 p559 q559
        cases e559
        replace p559 := eq_true p559
        replace q559 := eq_true q559
        have p560 : 0 ≤ (x5_1 : Int) := of_decide_eq_true asmB
        have q560 : x5_1 < (l1.length : Int) := of_decide_eq_true asmB
        obtain ⟨ad560, e560, hx560_0, hx560_1⟩ := at_T64 HR1.out x5_1 p560 q560
        cases e560
        replace p560 := eq_true p560
        replace q560 := eq_true q560
        go_wp2
        repeat (go_quiet (fail); try go_wp2)
        go_roundg k1
        case measure => have := HK1.out; omega
        case rel => exact ⟨(wrap64 (x5_1 + 1)), rB, H', ⟨by have := HK1.out; omega⟩, by repeat (first | exact Drawn0.refl _ | apply Drawn0.step)⟩
      ·rw [if_neg c6] at H
       exact absurd H (by simp)
     ·rw [if_neg c5] at H
      exact absurd H (by simp)
    ·obtain rfl := Option.some.inj H
     go_wp2
     repeat (go_quiet (fail); try go_wp2)
     go_ret
     exact ⟨rB, by repeat (first | exact Drawn0.refl _ | apply Drawn0.step)⟩
 ·have c3b2 : (l0.length == l1.length) = false := by first | simpa using c3 | (simp at c3 ⊢; omega)
  obtain rfl := Option.some.inj H
  go_enter Try.func52, Try.ntmps52
  go_wp2
  repeat (go_quiet (fail); try go_wp2)
  go_ret
  exact ⟨rB, by repeat (first | exact Drawn0.refl _ | apply Drawn0.step)⟩

end Go.Proofs.Ytfaojmabalplfaa.QFnClubs
