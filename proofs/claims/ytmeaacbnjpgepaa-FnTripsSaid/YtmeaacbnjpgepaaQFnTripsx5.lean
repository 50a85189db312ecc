/- Contracts of Go functions that FnTrips reaches: the call computes what the plain function says. No condition. -/
import Derived.Test.YtmeaacbnjpgepaaQFnTripsx0
import Derived.Test.YtmeaacbnjpgepaaQFnTripsx2
import Derived.Test.YtmeaacbnjpgepaaQFnTripsx4
namespace Go.Proofs.Ytmeaacbnjpgepaa.QFnTrips
open Go.RowKit Go.Proofs.YtmeaacbnjpgepaaW.PrintWords Go.Proofs.YtmeaacbnjpgepaaW.PrintLast Go.Proofs.YtmeaacbnjpgepaaW.PrintMore
attribute [local go_sem] max2_int min2_int max_two min_two max_three min_three max_four min_four   -- for this text's walks alone
set_option linter.unusedVariables false
set_option linter.unusedSimpArgs false

/-! ### spec_NextKinds: function 21 -/
mutual
def spec_NextKinds.l0 : Nat → List Int → Int → Int → Int → Int → Int → Int → Option (List Int × Bool)
 | 0, _, _, _, _, _, _, _ => none
 | k + 1, x4, x5, x140000, x140001, x140002, x140003, x140004 => if x5 ≤ 6 then (if x5 = 4 then (spec_NextKinds.j1 k x4 x5 true x140000 x140001 x140002 x140003 x140004 x5 1) else (spec_NextKinds.j1 k x4 x5 (x5 == 5) x140000 x140001 x140002 x140003 x140004 x5 1)) else (some (x4, true))
def spec_NextKinds.j1 : Nat → List Int → Int → Bool → Int → Int → Int → Int → Int → Int → Int → Option (List Int × Bool)
 | 0, _, _, _, _, _, _, _, _, _, _ => none
 | k + 1, x4, x5, x25, x140000, x140001, x140002, x140003, x140004, x145000, x145001 => if x25 = true then ((spec_l21Make.f k x140000 x140001 x140002 x140003 x140004 x145000 0).bind fun bt145 => (if bt145.2.2.2.2.2 = true then (if x4.length < 17592186044416 then (spec_NextKinds.l0 k (x4 ++ [x5]) (wrap64 (x5 + 1)) x140000 x140001 x140002 x140003 x140004) else (none)) else (spec_NextKinds.l0 k x4 (wrap64 (x5 + 1)) x140000 x140001 x140002 x140003 x140004))) else ((spec_l21Make.f k x140000 x140001 x140002 x140003 x140004 x145000 x145001).bind fun bt155 => (if bt155.2.2.2.2.2 = true then (if x4.length < 17592186044416 then (spec_NextKinds.l0 k (x4 ++ [x5]) (wrap64 (x5 + 1)) x140000 x140001 x140002 x140003 x140004) else (none)) else (spec_NextKinds.l0 k x4 (wrap64 (x5 + 1)) x140000 x140001 x140002 x140003 x140004)))
end
def spec_NextKinds.f (k : Nat) (a0_0 a0_1 a0_2 a0_3 a0_4 : Int) : Option (List Int × Bool) := (some (([] : List Int) : List Int)).bind fun y140 => ((spec_l21Good.f k a0_0 a0_1 a0_2 a0_3 a0_4).bind fun t143 => (if t143 = true then (spec_NextKinds.l0 k y140 1 a0_0 a0_1 a0_2 a0_3 a0_4) else (some (y140, false))))
theorem spec_NextKinds.mono_l : ∀ k, (∀ y0 y1 y2 y3 y4 y5 y6, LeO (spec_NextKinds.l0 k y0 y1 y2 y3 y4 y5 y6) (spec_NextKinds.l0 (k + 1) y0 y1 y2 y3 y4 y5 y6)) ∧ (∀ y0 y1 y2 y3 y4 y5 y6 y7 y8 y9, LeO (spec_NextKinds.j1 k y0 y1 y2 y3 y4 y5 y6 y7 y8 y9) (spec_NextKinds.j1 (k + 1) y0 y1 y2 y3 y4 y5 y6 y7 y8 y9))
 | 0 => ⟨fun _ _ _ _ _ _ _ r h => by simp [spec_NextKinds.l0] at h, fun _ _ _ _ _ _ _ _ _ _ r h => by simp [spec_NextKinds.j1] at h⟩
 | k + 1 => by
  obtain ⟨ih0, ih1⟩ := spec_NextKinds.mono_l k
  refine ⟨?_, ?_⟩
  ·intro y0 y1 y2 y3 y4 y5 y6
   unfold spec_NextKinds.l0
   repeat' with_reducible first | apply ih0 | apply ih1 | apply spec_l21Good.mono | apply spec_l21Make.mono | exact LeO.refl _ | exact LeO.none _ | refine LeO.ite ?_ ?_ | refine LeO.bind ?_ (fun _ => ?_)
  ·intro y0 y1 y2 y3 y4 y5 y6 y7 y8 y9
   unfold spec_NextKinds.j1
   repeat' with_reducible first | apply ih0 | apply ih1 | apply spec_l21Good.mono | apply spec_l21Make.mono | exact LeO.refl _ | exact LeO.none _ | refine LeO.ite ?_ ?_ | refine LeO.bind ?_ (fun _ => ?_)
theorem spec_NextKinds.mono : ∀ a0 a1 a2 a3 a4 k, LeO (spec_NextKinds.f k a0 a1 a2 a3 a4) (spec_NextKinds.f (k + 1) a0 a1 a2 a3 a4) := by
 intro a0 a1 a2 a3 a4 k
 obtain ⟨ih0, ih1⟩ := spec_NextKinds.mono_l k
 unfold spec_NextKinds.f
 repeat' with_reducible first | apply ih0 | apply ih1 | apply spec_l21Good.mono | apply spec_l21Make.mono | exact LeO.refl _ | exact LeO.none _ | refine LeO.ite ?_ ?_ | refine LeO.bind ?_ (fun _ => ?_)
set_option maxHeartbeats 8000000 in
set_option maxRecDepth 100000 in
theorem spec_NextKinds.calls (k : Nat) (a0_0 a0_1 a0_2 a0_3 a0_4 : Int) (r1 : List Int) (r2 : Bool) (w : World) (h : spec_NextKinds.f k a0_0 a0_1 a0_2 a0_3 a0_4 = some (r1, r2)) :
  Calls Try.prog 21 #[.agg #[.int .i64 a0_0, .int .i64 a0_1, .int .i64 a0_2, .int .i64 a0_3, .int .i64 a0_4]] w fun e w' => ∃ v0_ : Value, e = .returned (.tuple #[v0_, .bool r2]) ∧ Kd.R (Kd.int .i64) 3 w' w.heap.size (fun _ => True) v0_ r1 ∧ Below w.heap.size w w' := by
 have hu25 := Try.underlying25
 have hu49 := Try.underlying49
 have HB := Aside0.mk (Below.refl w.heap.size w)
 have H := h
 clear h
 unfold spec_NextKinds.f at H
 obtain ⟨y140, hy140⟩ : ∃ y_ : List Int, y_ = (([] : List Int)) := ⟨_, rfl⟩
 replace H : ((spec_l21Good.f k a0_0 a0_1 a0_2 a0_3 a0_4).bind fun t143 => (if t143 = true then (spec_NextKinds.l0 k y140 1 a0_0 a0_1 a0_2 a0_3 a0_4) else (some (y140, false)))) = some (r1, r2) := by first | (rw [hy140]; with_reducible exact H) | (have H2_ := (Option.bind_some _ _).symm.trans H; rw [hy140]; with_reducible exact H2_) | (have H2_ := (Option.bind_some _ _).symm.trans H; with_reducible exact H2_) | with_reducible exact H | (rw [hy140]; exact H) | exact H
 have Ny140 := Aside0.mk hy140
 clear hy140
 replace H := bA H
 obtain ⟨t143, A2, H⟩ := H
 rcases Bool.eq_false_or_eq_true t143 with rfl | rfl
 ·replace H := iT rfl H
  have H' := Aside0.mk H
  clear H
  go_enter Try.func21, Try.ntmps21
  go_wp2_with (first | ((with_reducible refine gD 1 ?_); refine bxE 1 25 #[.int .i64 a0_0, .int .i64 a0_1, .int .i64 a0_2, .int .i64 a0_3, .int .i64 a0_4] fun gb139 w4 hg hbox hb => ?_; have BK139 := Aside0.mk hbox; have GE139 := gB HB hg; replace HB := uB HB hb; clear hb hbox hg) | ((with_reducible refine gate_dst (N := 9) rfl ?_); refine Kd.R_lit (Kd.int .i64) _ 3 ?hg (N := 9) ?hd (xs := ([] : List Int)) (inner := []) (ok := fun _ => True) (okp := fun _ => True) ?hr ?hp (fun _ hk => hk) trivial (Below.refl _ _) (Nat.le_refl _) (by simp) ?_; (case hd => rfl); (case hg => rfl); (case hr => first | (go_simp; done) | (go_simp; rfl)); (case hp => exact (Reps.none _ _)); intro v141 w5 ho6 hb hg_ hnew_; clear hg_ hnew_; (first | rw [← Ny140.out] at ho6 | (simp only [Int.reduceToNat] at ho6; rw [← Ny140.out] at ho6)); have HO142 := Aside0.mk (Kd.R_lower ho6 (below_size (bW HB))); replace BK139 := uK BK139 hb; replace HB := uB HB hb; clear hb ho6; have ⟨hcz7_0, hcz7_1, hcz7_2, hcz7_3, hcz7_4, hfz7_0⟩ := cz5 BK139) | ((with_reducible refine gC 45 ?_); refine lA (some 11) Try.func45 (spec_l21Good.calls k a0_0 a0_1 a0_2 a0_3 a0_4 true _ A2.out) ?_; intro w8 hb; replace HO142 := uR HO142 hb; replace BK139 := uK BK139 hb; replace HB := uB HB hb; (try clear hb); (try clear hk)))
  (try simp only [Act.put, List.setIfInBounds_toArray, List.set_cons_zero, List.set_cons_succ])
  go_loopg [4, 5] k (fun kq v4 v5 w' => ∃ (x4_1 : List Int) (x5_1 : Int), v5 = .int .i64 x5_1 ∧ Aside0 (spec_NextKinds.l0 kq x4_1 x5_1 a0_0 a0_1 a0_2 a0_3 a0_4 = some (r1, r2)) ∧ Aside0 (kq ≤ k) ∧ Aside0 (Kd.R (Kd.int .i64) 3 w' w.heap.size (fun _ => True) v4 x4_1) ∧ Aside0 (w'.heap[gb139]? = some (.cells #[.int .i64 a0_0, .int .i64 a0_1, .int .i64 a0_2, .int .i64 a0_3, .int .i64 a0_4] 25 (0, 0))) ∧ Aside0 (Below w.heap.size w w'))
  case atStart => exact ⟨(y140), (1), rB, H', ⟨Nat.le_refl _⟩, ⟨upR HO142.out⟩, (aK BK139), (aB HB)⟩
  case round =>
   clear H'
   try clear hcz7_0
   try clear hcz7_1
   try clear hcz7_2
   try clear hcz7_3
   try clear hcz7_4
   try clear hfz7_0
   obtain ⟨x4_1, x5_1, rfl, HA, HK1, HO_4, BK139, HB⟩ := hrel
   cases gk with
   | zero => exact absurd HA.out (by simp [spec_NextKinds.l0])
   | succ k1 =>
    have H := HA.out
    clear HA
    simp only [spec_NextKinds.l0] at H
    replace H := ifD H
    rcases H with ⟨H, -, c9b0⟩ | ⟨H, -, c9b0⟩
    ·have HC10 := Aside0.mk H
     clear H
     go_upto_region 8 with (first | ((with_reducible refine gD 6 ?_); refine bxE 6 49 #[.int .i64 0, .int .i64 0] fun gb144 w11 hg hbox hb => ?_; have BK144 := Aside0.mk hbox; have GE144 := gB HB hg; have ⟨NB139_144, NB144_139⟩ := nB BK139 hg; replace HO_4 := uR HO_4 hb; replace BK139 := uK BK139 hb; replace HB := uB HB hb; clear hb hbox hg; have hnb12 := NB144_139.out; have hnc12 := NB139_144.out; have ⟨hcz13_0, hcz13_1, hfz13_0⟩ := cz2 BK144))
     (try simp only [Act.put, List.setIfInBounds_toArray, List.set_cons_zero, List.set_cons_succ])
     go_cut [25] (fun v25 wc => ∃ (kq : Nat) (x25_9 : Bool), v25 = .bool x25_9 ∧ Aside0 (spec_NextKinds.j1 kq x4_1 x5_1 x25_9 a0_0 a0_1 a0_2 a0_3 a0_4 x5_1 1 = some (r1, r2)) ∧ Aside0 (kq ≤ k1) ∧ Aside0 (Kd.R (Kd.int .i64) 3 wc w.heap.size (fun _ => True) u4 x4_1) ∧ Aside0 (wc.heap[gb139]? = some (.cells #[.int .i64 a0_0, .int .i64 a0_1, .int .i64 a0_2, .int .i64 a0_3, .int .i64 a0_4] 25 (0, 0))) ∧ Aside0 (wc.heap[gb144]? = some (.cells #[.int .i64 x5_1, .int .i64 1] 49 (0, 0))) ∧ Aside0 (Below w.heap.size w wc))
     case first =>
      have H := HC10.out
      clear HC10
      replace H := ifI H
      rcases H with ⟨H, -, c14b0, c14b1⟩ | ⟨H, c14, c14b0, c14b1⟩
      ·(first | rw [c14b0] | (simp only [i64_w, i32_w]; rw [c14b0]) | skip)
       have H' := Aside0.mk H
       clear H
       go_wp2
       go_meet
       case rel => exact ⟨_, (true), rB, H', ⟨by have := HK1.out; first | omega | exact Nat.le_refl _⟩, ⟨by (with_reducible repeat (first | apply Kd.R_alloc | apply Kd.R_drewN | apply Kd.R_drew)); exact Kd.R_mono (Kd.R_far (p := ⟨gb144, 1, none⟩) (Kd.R_far (p := ⟨gb144, 0, none⟩) (Kd.R_types HO_4.out BK144.out (by decide)) (fun _ hk => hk.2) (.int .i64 x5_1)) (fun _ hk => hk.2) (.int .i64 1)) (fun _ hk => trivial)⟩, ⟨by exact pW BK139⟩, ⟨by exact pW BK144⟩, (aB HB)⟩
      ·(first | rw [c14b0] | (simp only [i64_w, i32_w]; rw [c14b0]) | skip)
       have H' := Aside0.mk H
       clear H
       go_wp2
       go_meet
       case rel => exact ⟨_, ((x5_1 == 5)), rB, H', ⟨by have := HK1.out; first | omega | exact Nat.le_refl _⟩, ⟨by (with_reducible repeat (first | apply Kd.R_alloc | apply Kd.R_drewN | apply Kd.R_drew)); exact Kd.R_mono (Kd.R_far (p := ⟨gb144, 1, none⟩) (Kd.R_far (p := ⟨gb144, 0, none⟩) (Kd.R_types HO_4.out BK144.out (by decide)) (fun _ hk => hk.2) (.int .i64 x5_1)) (fun _ hk => hk.2) (.int .i64 1)) (fun _ hk => trivial)⟩, ⟨by exact pW BK139⟩, ⟨by exact pW BK144⟩, (aB HB)⟩
     case rest =>
      clear HC10
      try clear c9b0
      try clear hcz13_0
      try clear hcz13_1
      try clear hcz7_0
      try clear hcz7_1
      try clear hcz7_2
      try clear hcz7_3
      try clear hcz7_4
      try clear hfz13_0
      try clear hfz7_0
      obtain ⟨kq, x25_9, rfl, HA, HJ9, HO_4, BK139, BK144, HB⟩ := hcut
      cases kq with
      | zero => exact absurd HA.out (by simp [spec_NextKinds.j1])
      | succ kj9 =>
       have H := HA.out
       clear HA
       simp only [spec_NextKinds.j1] at H
       rcases Bool.eq_false_or_eq_true x25_9 with rfl | rfl
       ·replace H := iT rfl H
        replace H := Option.bind_eq_some_iff.mp H
        obtain ⟨⟨t145, t146, t147, t148, t149, t150⟩, A160, H⟩ := H
        replace H : (if t150 = true then (if x4_1.length < 17592186044416 then (spec_NextKinds.l0 kj9 (x4_1 ++ [x5_1]) (wrap64 (x5_1 + 1)) a0_0 a0_1 a0_2 a0_3 a0_4) else (none)) else (spec_NextKinds.l0 kj9 x4_1 (wrap64 (x5_1 + 1)) a0_0 a0_1 a0_2 a0_3 a0_4)) = some (r1, r2) := H
        have A16 := Aside0.mk A160
        clear A160
        rcases Bool.eq_false_or_eq_true t150 with rfl | rfl
        ·replace H := iT rfl H
         by_cases c18 : x4_1.length < 17592186044416
         ·rw [if_pos c18] at H
          have LMc18 := Aside0.mk c18
          clear c18
          obtain ⟨y152, hy152⟩ : ∃ y_ : List Int, y_ = (x4_1 ++ [x5_1]) := ⟨_, rfl⟩
          replace H : (spec_NextKinds.l0 kj9 y152 (wrap64 (x5_1 + 1)) a0_0 a0_1 a0_2 a0_3 a0_4) = some (r1, r2) := by first | (rw [hy152]; with_reducible exact H) | (have H2_ := (Option.bind_some _ _).symm.trans H; rw [hy152]; with_reducible exact H2_) | (have H2_ := (Option.bind_some _ _).symm.trans H; with_reducible exact H2_) | with_reducible exact H | (rw [hy152]; exact H) | exact H
          have Ny152 := Aside0.mk hy152
          clear hy152
          have H' := Aside0.mk H
          clear H
          have hnb19 := NB144_139.out
          have hnc19 := NB139_144.out
          have ⟨hcz20_0, hcz20_1, hfz20_0⟩ := cz2 BK144
          have ⟨hcz21_0, hcz21_1, hcz21_2, hcz21_3, hcz21_4, hfz21_0⟩ := cz5 BK139
          go_wp2_with (first | ((with_reducible refine gC 52 ?_); refine lA (some 30) Try.func52 (spec_l21Make.calls kj9 a0_0 a0_1 a0_2 a0_3 a0_4 x5_1 0 t145 t146 t147 t148 t149 true _ A16.out) ?_; intro w22 hb; replace HO_4 := Aside0.mk (Kd.R_below (by (with_reducible repeat (first | apply Kd.R_alloc | apply Kd.R_drewN | apply Kd.R_drew)); exact (Kd.R_mono (Kd.R_far (p := ⟨gb144, 1, none⟩) (Kd.R_types HO_4.out BK144.out (by decide)) (fun _ hk => hk.2) (.int .i64 0)) (fun _ h_ => h_.1))) hb); replace BK139 := uQ BK139 hb #[.int .i64 a0_0, .int .i64 a0_1, .int .i64 a0_2, .int .i64 a0_3, .int .i64 a0_4]; replace BK144 := uQ BK144 hb #[.int .i64 x5_1, .int .i64 0]; replace HB := uB HB hb; (try clear hb); (try clear hk)) | ((with_reducible refine gD 7 ?_); refine bxE 7 25 #[.int .i64 0, .int .i64 0, .int .i64 0, .int .i64 0, .int .i64 0] fun gb151 w23 hg hbox hb => ?_; have BK151 := Aside0.mk hbox; have GE151 := gB HB hg; have ⟨NB139_151, NB151_139⟩ := nB BK139 hg; have ⟨NB144_151, NB151_144⟩ := nB BK144 hg; replace HO_4 := uR HO_4 hb; replace BK139 := uK BK139 hb; replace BK144 := uK BK144 hb; replace HB := uB HB hb; clear hb hbox hg; have hnb24 := NB151_139.out; have hnc24 := NB139_151.out; have hnb25 := NB151_144.out; have hnc25 := NB144_151.out; have ⟨hcz26_0, hcz26_1, hcz26_2, hcz26_3, hcz26_4, hfz26_0⟩ := cz5 BK151) | ((with_reducible refine gate_builtin (b := .append) (xs := #[.tmp 34, .tmp 36]) rfl ?_); at_builtin; refine Kd.R_append (Kd.int .i64) (w0 := w) w.heap.size rfl (.tmp 34) (.tmp 36) 37 3 (.int .i64 0) 8 rfl Try.underlying37 info3 rfl (by decide) (by omega) u4 x4_1 x5_1 [.int .i64 x5_1] (fun _ => True) (fun _ => False) rfl (by first | (go_simp; done) | (go_simp; rfl)) ?aP (fun _ hk => hk.elim) ?aF ?aO ?aB ?aS ?aL ?_; (case aP => exact rfl); (case aB => exact (bW HB)); (case aF => exact (fun _ _ => trivial)); (case aO => exact (by (with_reducible repeat (first | apply Kd.R_alloc | apply Kd.R_drewN | apply Kd.R_drew)); exact Kd.R_mono (Kd.R_far (p := ⟨gb151, 4, none⟩) (Kd.R_far (p := ⟨gb151, 3, none⟩) (Kd.R_far (p := ⟨gb151, 2, none⟩) (Kd.R_far (p := ⟨gb151, 1, none⟩) (Kd.R_far (p := ⟨gb151, 0, none⟩) (Kd.R_types HO_4.out BK151.out (by decide)) (fun _ hk => hk.2) (.int .i64 t145)) (fun _ hk => hk.2) (.int .i64 t146)) (fun _ hk => hk.2) (.int .i64 t147)) (fun _ hk => hk.2) (.int .i64 t148)) (fun _ hk => hk.2) (.int .i64 t149)) (fun _ hk => trivial))); (case aS => exact (below_size (bW HB))); (case aL => have := LMc18.out; omega); intro v153 w27 ho hb hg hat; rw [← Ny152.out] at ho; have HO154 := Aside0.mk (ho); replace BK139 := Aside0.mk (blk_grown (g := gb139) (o := .cells #[.int .i64 a0_0, .int .i64 a0_1, .int .i64 a0_2, .int .i64 a0_3, .int .i64 a0_4] 25 (0, 0)) (by exact pW BK139) hg (Kd.R_ne HO_4.out BK139.out (by decide))); replace BK144 := Aside0.mk (blk_grown (g := gb144) (o := .cells #[.int .i64 x5_1, .int .i64 0] 49 (0, 0)) (by exact pW BK144) hg (Kd.R_ne HO_4.out BK144.out (by decide))); replace BK151 := Aside0.mk (blk_grown (g := gb151) (o := .cells #[.int .i64 t145, .int .i64 t146, .int .i64 t147, .int .i64 t148, .int .i64 t149] 25 (0, 0)) (by exact pW BK151) hg (Kd.R_ne HO_4.out BK151.out (by decide))); replace HB := Aside0.mk (hb); clear HO_4; clear ho hb hg hat))
          go_roundg kj9
          case measure => have := HK1.out; have := HJ9.out; omega
          case rel => exact ⟨(y152), (wrap64 (x5_1 + 1)), rB, H', ⟨by have := HK1.out; have := HJ9.out; omega⟩, ⟨upR HO154.out⟩, (aK BK139), (aB HB)⟩
         ·rw [if_neg c18] at H
          exact absurd H (by simp)
        ·replace H := iF (by decide) H
         have H' := Aside0.mk H
         clear H
         have hnb28 := NB144_139.out
         have hnc28 := NB139_144.out
         have ⟨hcz29_0, hcz29_1, hfz29_0⟩ := cz2 BK144
         have ⟨hcz30_0, hcz30_1, hcz30_2, hcz30_3, hcz30_4, hfz30_0⟩ := cz5 BK139
         go_wp2_with (first | ((with_reducible refine gC 52 ?_); refine lA (some 30) Try.func52 (spec_l21Make.calls kj9 a0_0 a0_1 a0_2 a0_3 a0_4 x5_1 0 t145 t146 t147 t148 t149 false _ A16.out) ?_; intro w31 hb; replace HO_4 := Aside0.mk (Kd.R_below (by (with_reducible repeat (first | apply Kd.R_alloc | apply Kd.R_drewN | apply Kd.R_drew)); exact (Kd.R_mono (Kd.R_far (p := ⟨gb144, 1, none⟩) (Kd.R_types HO_4.out BK144.out (by decide)) (fun _ hk => hk.2) (.int .i64 0)) (fun _ h_ => h_.1))) hb); replace BK139 := uQ BK139 hb #[.int .i64 a0_0, .int .i64 a0_1, .int .i64 a0_2, .int .i64 a0_3, .int .i64 a0_4]; replace BK144 := uQ BK144 hb #[.int .i64 x5_1, .int .i64 0]; replace HB := uB HB hb; (try clear hb); (try clear hk)) | ((with_reducible refine gD 7 ?_); refine bxE 7 25 #[.int .i64 0, .int .i64 0, .int .i64 0, .int .i64 0, .int .i64 0] fun gb151 w32 hg hbox hb => ?_; have BK151 := Aside0.mk hbox; have GE151 := gB HB hg; have ⟨NB139_151, NB151_139⟩ := nB BK139 hg; have ⟨NB144_151, NB151_144⟩ := nB BK144 hg; replace HO_4 := uR HO_4 hb; replace BK139 := uK BK139 hb; replace BK144 := uK BK144 hb; replace HB := uB HB hb; clear hb hbox hg; have hnb33 := NB151_139.out; have hnc33 := NB139_151.out; have hnb34 := NB151_144.out; have hnc34 := NB144_151.out; have ⟨hcz35_0, hcz35_1, hcz35_2, hcz35_3, hcz35_4, hfz35_0⟩ := cz5 BK151))
         go_roundg kj9
         case measure => have := HK1.out; have := HJ9.out; omega
         case rel => exact ⟨(x4_1), (wrap64 (x5_1 + 1)), rB, H', ⟨by have := HK1.out; have := HJ9.out; omega⟩, ⟨by (with_reducible repeat (first | apply Kd.R_alloc | apply Kd.R_drewN | apply Kd.R_drew)); exact Kd.R_mono (Kd.R_far (p := ⟨gb151, 4, none⟩) (Kd.R_far (p := ⟨gb151, 3, none⟩) (Kd.R_far (p := ⟨gb151, 2, none⟩) (Kd.R_far (p := ⟨gb151, 1, none⟩) (Kd.R_far (p := ⟨gb151, 0, none⟩) (Kd.R_types HO_4.out BK151.out (by decide)) (fun _ hk => hk.2) (.int .i64 t145)) (fun _ hk => hk.2) (.int .i64 t146)) (fun _ hk => hk.2) (.int .i64 t147)) (fun _ hk => hk.2) (.int .i64 t148)) (fun _ hk => hk.2) (.int .i64 t149)) (fun _ hk => trivial)⟩, ⟨by exact pW BK139⟩, (aB HB)⟩
       ·replace H := iF (by decide) H
        replace H := Option.bind_eq_some_iff.mp H
        obtain ⟨⟨t155, t156, t157, t158, t159, t160⟩, A360, H⟩ := H
        replace H : (if t160 = true then (if x4_1.length < 17592186044416 then (spec_NextKinds.l0 kj9 (x4_1 ++ [x5_1]) (wrap64 (x5_1 + 1)) a0_0 a0_1 a0_2 a0_3 a0_4) else (none)) else (spec_NextKinds.l0 kj9 x4_1 (wrap64 (x5_1 + 1)) a0_0 a0_1 a0_2 a0_3 a0_4)) = some (r1, r2) := H
        have A36 := Aside0.mk A360
        clear A360
        rcases Bool.eq_false_or_eq_true t160 with rfl | rfl
        ·replace H := iT rfl H
         by_cases c38 : x4_1.length < 17592186044416
         ·rw [if_pos c38] at H
          have LMc38 := Aside0.mk c38
          clear c38
          obtain ⟨y162, hy162⟩ : ∃ y_ : List Int, y_ = (x4_1 ++ [x5_1]) := ⟨_, rfl⟩
          replace H : (spec_NextKinds.l0 kj9 y162 (wrap64 (x5_1 + 1)) a0_0 a0_1 a0_2 a0_3 a0_4) = some (r1, r2) := by first | (rw [hy162]; with_reducible exact H) | (have H2_ := (Option.bind_some _ _).symm.trans H; rw [hy162]; with_reducible exact H2_) | (have H2_ := (Option.bind_some _ _).symm.trans H; with_reducible exact H2_) | with_reducible exact H | (rw [hy162]; exact H) | exact H
          have Ny162 := Aside0.mk hy162
          clear hy162
          have H' := Aside0.mk H
          clear H
          have hnb39 := NB139_144.out
          have hnc39 := NB144_139.out
          have ⟨hcz40_0, hcz40_1, hcz40_2, hcz40_3, hcz40_4, hfz40_0⟩ := cz5 BK139
          have ⟨hcz41_0, hcz41_1, hfz41_0⟩ := cz2 BK144
          go_wp2_with (first | ((with_reducible refine gC 52 ?_); refine lA (some 30) Try.func52 (spec_l21Make.calls kj9 a0_0 a0_1 a0_2 a0_3 a0_4 x5_1 1 t155 t156 t157 t158 t159 true _ A36.out) ?_; intro w42 hb; replace HO_4 := uR HO_4 hb; replace BK139 := uK BK139 hb; replace BK144 := uK BK144 hb; replace HB := uB HB hb; (try clear hb); (try clear hk)) | ((with_reducible refine gD 7 ?_); refine bxE 7 25 #[.int .i64 0, .int .i64 0, .int .i64 0, .int .i64 0, .int .i64 0] fun gb161 w43 hg hbox hb => ?_; have BK161 := Aside0.mk hbox; have GE161 := gB HB hg; have ⟨NB139_161, NB161_139⟩ := nB BK139 hg; have ⟨NB144_161, NB161_144⟩ := nB BK144 hg; replace HO_4 := uR HO_4 hb; replace BK139 := uK BK139 hb; replace BK144 := uK BK144 hb; replace HB := uB HB hb; clear hb hbox hg; have hnb44 := NB161_139.out; have hnc44 := NB139_161.out; have hnb45 := NB161_144.out; have hnc45 := NB144_161.out; have ⟨hcz46_0, hcz46_1, hcz46_2, hcz46_3, hcz46_4, hfz46_0⟩ := cz5 BK161) | ((with_reducible refine gate_builtin (b := .append) (xs := #[.tmp 34, .tmp 36]) rfl ?_); at_builtin; refine Kd.R_append (Kd.int .i64) (w0 := w) w.heap.size rfl (.tmp 34) (.tmp 36) 37 3 (.int .i64 0) 8 rfl Try.underlying37 info3 rfl (by decide) (by omega) u4 x4_1 x5_1 [.int .i64 x5_1] (fun _ => True) (fun _ => False) rfl (by first | (go_simp; done) | (go_simp; rfl)) ?aP (fun _ hk => hk.elim) ?aF ?aO ?aB ?aS ?aL ?_; (case aP => exact rfl); (case aB => exact (bW HB)); (case aF => exact (fun _ _ => trivial)); (case aO => exact (by (with_reducible repeat (first | apply Kd.R_alloc | apply Kd.R_drewN | apply Kd.R_drew)); exact Kd.R_mono (Kd.R_far (p := ⟨gb161, 4, none⟩) (Kd.R_far (p := ⟨gb161, 3, none⟩) (Kd.R_far (p := ⟨gb161, 2, none⟩) (Kd.R_far (p := ⟨gb161, 1, none⟩) (Kd.R_far (p := ⟨gb161, 0, none⟩) (Kd.R_types HO_4.out BK161.out (by decide)) (fun _ hk => hk.2) (.int .i64 t155)) (fun _ hk => hk.2) (.int .i64 t156)) (fun _ hk => hk.2) (.int .i64 t157)) (fun _ hk => hk.2) (.int .i64 t158)) (fun _ hk => hk.2) (.int .i64 t159)) (fun _ hk => trivial))); (case aS => exact (below_size (bW HB))); (case aL => have := LMc38.out; omega); intro v163 w47 ho hb hg hat; rw [← Ny162.out] at ho; have HO164 := Aside0.mk (ho); replace BK139 := Aside0.mk (blk_grown (g := gb139) (o := .cells #[.int .i64 a0_0, .int .i64 a0_1, .int .i64 a0_2, .int .i64 a0_3, .int .i64 a0_4] 25 (0, 0)) (by exact pW BK139) hg (Kd.R_ne HO_4.out BK139.out (by decide))); replace BK144 := Aside0.mk (blk_grown (g := gb144) (o := .cells #[.int .i64 x5_1, .int .i64 1] 49 (0, 0)) (by exact pW BK144) hg (Kd.R_ne HO_4.out BK144.out (by decide))); replace BK161 := Aside0.mk (blk_grown (g := gb161) (o := .cells #[.int .i64 t155, .int .i64 t156, .int .i64 t157, .int .i64 t158, .int .i64 t159] 25 (0, 0)) (by exact pW BK161) hg (Kd.R_ne HO_4.out BK161.out (by decide))); replace HB := Aside0.mk (hb); clear HO_4; clear ho hb hg hat))
          go_roundg kj9
          case measure => have := HK1.out; have := HJ9.out; omega
          case rel => exact ⟨(y162), (wrap64 (x5_1 + 1)), rB, H', ⟨by have := HK1.out; have := HJ9.out; omega⟩, ⟨upR HO164.out⟩, (aK BK139), (aB HB)⟩
         ·rw [if_neg c38] at H
          exact absurd H (by simp)
        ·replace H := iF (by decide) H
         have H' := Aside0.mk H
         clear H
         have hnb48 := NB139_144.out
         have hnc48 := NB144_139.out
         have ⟨hcz49_0, hcz49_1, hcz49_2, hcz49_3, hcz49_4, hfz49_0⟩ := cz5 BK139
         have ⟨hcz50_0, hcz50_1, hfz50_0⟩ := cz2 BK144
         go_wp2_with (first | ((with_reducible refine gC 52 ?_); refine lA (some 30) Try.func52 (spec_l21Make.calls kj9 a0_0 a0_1 a0_2 a0_3 a0_4 x5_1 1 t155 t156 t157 t158 t159 false _ A36.out) ?_; intro w51 hb; replace HO_4 := uR HO_4 hb; replace BK139 := uK BK139 hb; replace BK144 := uK BK144 hb; replace HB := uB HB hb; (try clear hb); (try clear hk)) | ((with_reducible refine gD 7 ?_); refine bxE 7 25 #[.int .i64 0, .int .i64 0, .int .i64 0, .int .i64 0, .int .i64 0] fun gb161 w52 hg hbox hb => ?_; have BK161 := Aside0.mk hbox; have GE161 := gB HB hg; have ⟨NB139_161, NB161_139⟩ := nB BK139 hg; have ⟨NB144_161, NB161_144⟩ := nB BK144 hg; replace HO_4 := uR HO_4 hb; replace BK139 := uK BK139 hb; replace BK144 := uK BK144 hb; replace HB := uB HB hb; clear hb hbox hg; have hnb53 := NB161_139.out; have hnc53 := NB139_161.out; have hnb54 := NB161_144.out; have hnc54 := NB144_161.out; have ⟨hcz55_0, hcz55_1, hcz55_2, hcz55_3, hcz55_4, hfz55_0⟩ := cz5 BK161))
         go_roundg kj9
         case measure => have := HK1.out; have := HJ9.out; omega
         case rel => exact ⟨(x4_1), (wrap64 (x5_1 + 1)), rB, H', ⟨by have := HK1.out; have := HJ9.out; omega⟩, ⟨by (with_reducible repeat (first | apply Kd.R_alloc | apply Kd.R_drewN | apply Kd.R_drew)); exact Kd.R_mono (Kd.R_far (p := ⟨gb161, 4, none⟩) (Kd.R_far (p := ⟨gb161, 3, none⟩) (Kd.R_far (p := ⟨gb161, 2, none⟩) (Kd.R_far (p := ⟨gb161, 1, none⟩) (Kd.R_far (p := ⟨gb161, 0, none⟩) (Kd.R_types HO_4.out BK161.out (by decide)) (fun _ hk => hk.2) (.int .i64 t155)) (fun _ hk => hk.2) (.int .i64 t156)) (fun _ hk => hk.2) (.int .i64 t157)) (fun _ hk => hk.2) (.int .i64 t158)) (fun _ hk => hk.2) (.int .i64 t159)) (fun _ hk => trivial)⟩, ⟨by exact pW BK139⟩, (aB HB)⟩
    ·simp only [Option.some.injEq, Prod.mk.injEq] at H
     obtain ⟨rfl, rfl⟩ := H
     go_wp2
     go_ret2
     exact ⟨_, eB, upR HO_4.out, (bW HB)⟩
 ·replace H := iF (by decide) H
  simp only [Option.some.injEq, Prod.mk.injEq] at H
  obtain ⟨rfl, rfl⟩ := H
  go_enter Try.func21, Try.ntmps21
  go_wp2_with (first | ((with_reducible refine gD 1 ?_); refine bxE 1 25 #[.int .i64 a0_0, .int .i64 a0_1, .int .i64 a0_2, .int .i64 a0_3, .int .i64 a0_4] fun gb139 w56 hg hbox hb => ?_; have BK139 := Aside0.mk hbox; have GE139 := gB HB hg; replace HB := uB HB hb; clear hb hbox hg) | ((with_reducible refine gate_dst (N := 9) rfl ?_); refine Kd.R_lit (Kd.int .i64) _ 3 ?hg (N := 9) ?hd (xs := ([] : List Int)) (inner := []) (ok := fun _ => True) (okp := fun _ => True) ?hr ?hp (fun _ hk => hk) trivial (Below.refl _ _) (Nat.le_refl _) (by simp) ?_; (case hd => rfl); (case hg => rfl); (case hr => first | (go_simp; done) | (go_simp; rfl)); (case hp => exact (Reps.none _ _)); intro v141 w57 ho58 hb hg_ hnew_; clear hg_ hnew_; (first | rw [← Ny140.out] at ho58 | (simp only [Int.reduceToNat] at ho58; rw [← Ny140.out] at ho58)); have HO142 := Aside0.mk (Kd.R_lower ho58 (below_size (bW HB))); replace BK139 := uK BK139 hb; replace HB := uB HB hb; clear hb ho58; have ⟨hcz59_0, hcz59_1, hcz59_2, hcz59_3, hcz59_4, hfz59_0⟩ := cz5 BK139) | ((with_reducible refine gC 45 ?_); refine lA (some 11) Try.func45 (spec_l21Good.calls k a0_0 a0_1 a0_2 a0_3 a0_4 false _ A2.out) ?_; intro w60 hb; replace HO142 := uR HO142 hb; replace BK139 := uK BK139 hb; replace HB := uB HB hb; (try clear hb); (try clear hk)))
  go_ret2
  exact ⟨_, eB, upR HO142.out, (bW HB)⟩

/-! ### impl_Trip_most: function 53 -/
def impl_Trip_most.j0 : Nat → Int → Bool → Int → Int → Int → Int → Int → Option (Int)
 | 0, _, _, _, _, _, _, _ => none
 | k + 1, x5, x23, x166000, x166001, x166002, x166003, x166004 => if x23 = true then (if (wrap64 (x166001 - x166002)) = 0 then (some (-1)) else (some (wrap64 (x166001 - x166002)))) else (if x5 = 0 then (some (-1)) else (some x5))
def impl_Trip_most.f (k : Nat) (a0_0 a0_1 a0_2 a0_3 a0_4 a1 : Int) : Option (Int) := if a1 = 1 then (if a0_0 = 0 then (impl_Trip_most.j0 k (-1) (decide (a0_4 < a0_3)) a0_0 a0_1 a0_2 a0_3 a0_4) else (if a0_0 = 1 then (impl_Trip_most.j0 k (-1) (decide (a0_4 < a0_3)) a0_0 a0_1 a0_2 a0_3 a0_4) else (impl_Trip_most.j0 k (-1) false a0_0 a0_1 a0_2 a0_3 a0_4))) else (if a1 = 2 then (if a0_2 = 0 then (some (-1)) else (some a0_2)) else (if a1 = 3 then (if (wrap64 (999 - a0_4)) = 0 then (some (-1)) else (some (wrap64 (999 - a0_4)))) else (if a1 = 6 then (if a0_0 = 1 then (if (wrap64 (999 - a0_3)) = 0 then (some (-1)) else (some (wrap64 (999 - a0_3)))) else (some (-1))) else (if a1 = 4 then (if a0_0 = 2 then (some 0) else (some (-1))) else (if a1 = 5 then (if a0_0 = 0 then (some 0) else (some (-1))) else (some (-1)))))))
theorem impl_Trip_most.mono_l : ∀ k, (∀ y0 y1 y2 y3 y4 y5 y6, LeO (impl_Trip_most.j0 k y0 y1 y2 y3 y4 y5 y6) (impl_Trip_most.j0 (k + 1) y0 y1 y2 y3 y4 y5 y6))
 | 0 => fun _ _ _ _ _ _ _ r h => by simp [impl_Trip_most.j0] at h
 | k + 1 => by
  have ih0 := impl_Trip_most.mono_l k
  ·intro y0 y1 y2 y3 y4 y5 y6
   unfold impl_Trip_most.j0
   repeat' with_reducible first | apply ih0 | exact LeO.refl _ | exact LeO.none _ | refine LeO.ite ?_ ?_ | refine LeO.bind ?_ (fun _ => ?_)
theorem impl_Trip_most.mono : ∀ a0 a1 a2 a3 a4 a5 k, LeO (impl_Trip_most.f k a0 a1 a2 a3 a4 a5) (impl_Trip_most.f (k + 1) a0 a1 a2 a3 a4 a5) := by
 intro a0 a1 a2 a3 a4 a5 k
 have ih0 := impl_Trip_most.mono_l k
 unfold impl_Trip_most.f
 repeat' with_reducible first | apply ih0 | exact LeO.refl _ | exact LeO.none _ | refine LeO.ite ?_ ?_ | refine LeO.bind ?_ (fun _ => ?_)
set_option maxHeartbeats 8000000 in
set_option maxRecDepth 100000 in
theorem impl_Trip_most.calls (k : Nat) (a0_0 a0_1 a0_2 a0_3 a0_4 a1 r : Int) (w : World) (h : impl_Trip_most.f k a0_0 a0_1 a0_2 a0_3 a0_4 a1 = some r) :
  Calls Try.prog 53 #[.agg #[.int .i64 a0_0, .int .i64 a0_1, .int .i64 a0_2, .int .i64 a0_3, .int .i64 a0_4], .int .i64 a1] w fun e w' => e = .returned (.int .i64 r) ∧ Below w.heap.size w w' := by
 have hu25 := Try.underlying25
 have HB := Aside0.mk (Below.refl w.heap.size w)
 have H := h
 clear h
 unfold impl_Trip_most.f at H
 replace H := ifI H
 rcases H with ⟨H, -, c3b0, c3b1⟩ | ⟨H, c3, c3b0, c3b1⟩
 ·have HC4 := Aside0.mk H
  clear H
  go_enter Try.func53, Try.ntmps53
  go_upto_region 4 with (first | ((with_reducible refine gD 2 ?_); refine bxE 2 25 #[.int .i64 a0_0, .int .i64 a0_1, .int .i64 a0_2, .int .i64 a0_3, .int .i64 a0_4] fun gb165 w5 hg hbox hb => ?_; have BK165 := Aside0.mk hbox; have GE165 := gB HB hg; replace HB := uB HB hb; clear hb hbox hg))
  (try simp only [Act.put, List.setIfInBounds_toArray, List.set_cons_zero, List.set_cons_succ])
  go_cut [23] (fun v23 wc => ∃ (kq : Nat) (x23_3 : Bool), v23 = .bool x23_3 ∧ Aside0 (impl_Trip_most.j0 kq (-1) x23_3 a0_0 a0_1 a0_2 a0_3 a0_4 = some r) ∧ Aside0 (kq ≤ k) ∧ Aside0 (wc.heap[gb165]? = some (.cells #[.int .i64 a0_0, .int .i64 a0_1, .int .i64 a0_2, .int .i64 a0_3, .int .i64 a0_4] 25 (0, 0))) ∧ Aside0 (Below w.heap.size w wc))
  case first =>
   have H := HC4.out
   clear HC4
   replace H := ifI H
   rcases H with ⟨H, -, c6b0, c6b1⟩ | ⟨H, c6, c6b0, c6b1⟩
   ·(first | rw [c6b0] | (simp only [i64_w, i32_w]; rw [c6b0]) | skip)
    have H' := Aside0.mk H
    clear H
    have ⟨hcz7_0, hcz7_1, hcz7_2, hcz7_3, hcz7_4, hfz7_0⟩ := cz5 BK165
    go_wp2
    go_meet
    case rel => exact ⟨_, (decide (a0_4 < a0_3)), rB, H', leB, (aK BK165), (aB HB)⟩
   ·(first | rw [c6b0] | (simp only [i64_w, i32_w]; rw [c6b0]) | skip)
    replace H := ifI H
    rcases H with ⟨H, -, c8b0, c8b1⟩ | ⟨H, c8, c8b0, c8b1⟩
    ·have H' := Aside0.mk H
     clear H
     have ⟨hcz9_0, hcz9_1, hcz9_2, hcz9_3, hcz9_4, hfz9_0⟩ := cz5 BK165
     go_wp2
     go_meet
     case rel => exact ⟨_, (decide (a0_4 < a0_3)), rB, H', leB, (aK BK165), (aB HB)⟩
    ·have H' := Aside0.mk H
     clear H
     have ⟨hcz10_0, hcz10_1, hcz10_2, hcz10_3, hcz10_4, hfz10_0⟩ := cz5 BK165
     go_wp2
     go_meet
     case rel => exact ⟨_, (false), rB, H', leB, (aK BK165), (aB HB)⟩
  case rest =>
   clear HC4
   try clear c3
   try clear c3b0
   try clear c3b1
   obtain ⟨kq, x23_3, rfl, HA, HJ3, BK165, HB⟩ := hcut
   cases kq with
   | zero => exact absurd HA.out (by simp [impl_Trip_most.j0])
   | succ kj3 =>
    have H := HA.out
    clear HA
    simp only [impl_Trip_most.j0] at H
    rcases Bool.eq_false_or_eq_true x23_3 with rfl | rfl
    ·replace H := iT rfl H
     replace H := ifI H
     rcases H with ⟨H, -, c12b0, c12b1⟩ | ⟨H, c12, c12b0, c12b1⟩
     ·obtain rfl := Option.some.inj H
      have ⟨hcz13_0, hcz13_1, hcz13_2, hcz13_3, hcz13_4, hfz13_0⟩ := cz5 BK165
      go_wp2
      go_ret
      exact ⟨eB, (bW HB)⟩
     ·obtain rfl := Option.some.inj H
      have ⟨hcz14_0, hcz14_1, hcz14_2, hcz14_3, hcz14_4, hfz14_0⟩ := cz5 BK165
      go_wp2
      go_ret
      exact ⟨eB, (bW HB)⟩
    ·replace H := iF (by decide) H
     replace H := ifI H
     rcases H with ⟨H, -, c15b0, c15b1⟩ | ⟨H, c15, c15b0, c15b1⟩
     ·obtain rfl := Option.some.inj H
      go_wp2
      go_ret
      exact ⟨eB, (bW HB)⟩
     ·obtain rfl := Option.some.inj H
      go_wp2
      go_ret
      exact ⟨eB, (bW HB)⟩
 ·replace H := ifI H
  rcases H with ⟨H, -, c16b0, c16b1⟩ | ⟨H, c16, c16b0, c16b1⟩
  ·replace H := ifI H
   rcases H with ⟨H, -, c17b0, c17b1⟩ | ⟨H, c17, c17b0, c17b1⟩
   ·obtain rfl := Option.some.inj H
    go_enter Try.func53, Try.ntmps53
    go_wp2_with (first | ((with_reducible refine gD 2 ?_); refine bxE 2 25 #[.int .i64 a0_0, .int .i64 a0_1, .int .i64 a0_2, .int .i64 a0_3, .int .i64 a0_4] fun gb165 w18 hg hbox hb => ?_; have BK165 := Aside0.mk hbox; have GE165 := gB HB hg; replace HB := uB HB hb; clear hb hbox hg; have ⟨hcz19_0, hcz19_1, hcz19_2, hcz19_3, hcz19_4, hfz19_0⟩ := cz5 BK165))
    go_ret
    exact ⟨eB, (bW HB)⟩
   ·obtain rfl := Option.some.inj H
    go_enter Try.func53, Try.ntmps53
    go_wp2_with (first | ((with_reducible refine gD 2 ?_); refine bxE 2 25 #[.int .i64 a0_0, .int .i64 a0_1, .int .i64 a0_2, .int .i64 a0_3, .int .i64 a0_4] fun gb165 w20 hg hbox hb => ?_; have BK165 := Aside0.mk hbox; have GE165 := gB HB hg; replace HB := uB HB hb; clear hb hbox hg; have ⟨hcz21_0, hcz21_1, hcz21_2, hcz21_3, hcz21_4, hfz21_0⟩ := cz5 BK165))
    go_ret
    exact ⟨eB, (bW HB)⟩
  ·replace H := ifI H
   rcases H with ⟨H, -, c22b0, c22b1⟩ | ⟨H, c22, c22b0, c22b1⟩
   ·replace H := ifI H
    rcases H with ⟨H, -, c23b0, c23b1⟩ | ⟨H, c23, c23b0, c23b1⟩
    ·obtain rfl := Option.some.inj H
     go_enter Try.func53, Try.ntmps53
     go_wp2_with (first | ((with_reducible refine gD 2 ?_); refine bxE 2 25 #[.int .i64 a0_0, .int .i64 a0_1, .int .i64 a0_2, .int .i64 a0_3, .int .i64 a0_4] fun gb165 w24 hg hbox hb => ?_; have BK165 := Aside0.mk hbox; have GE165 := gB HB hg; replace HB := uB HB hb; clear hb hbox hg; have ⟨hcz25_0, hcz25_1, hcz25_2, hcz25_3, hcz25_4, hfz25_0⟩ := cz5 BK165))
     go_ret
     exact ⟨eB, (bW HB)⟩
    ·obtain rfl := Option.some.inj H
     go_enter Try.func53, Try.ntmps53
     go_wp2_with (first | ((with_reducible refine gD 2 ?_); refine bxE 2 25 #[.int .i64 a0_0, .int .i64 a0_1, .int .i64 a0_2, .int .i64 a0_3, .int .i64 a0_4] fun gb165 w26 hg hbox hb => ?_; have BK165 := Aside0.mk hbox; have GE165 := gB HB hg; replace HB := uB HB hb; clear hb hbox hg; have ⟨hcz27_0, hcz27_1, hcz27_2, hcz27_3, hcz27_4, hfz27_0⟩ := cz5 BK165))
     go_ret
     exact ⟨eB, (bW HB)⟩
   ·replace H := ifI H
    rcases H with ⟨H, -, c28b0, c28b1⟩ | ⟨H, c28, c28b0, c28b1⟩
    ·replace H := ifI H
     rcases H with ⟨H, -, c29b0, c29b1⟩ | ⟨H, c29, c29b0, c29b1⟩
     ·replace H := ifI H
      rcases H with ⟨H, -, c30b0, c30b1⟩ | ⟨H, c30, c30b0, c30b1⟩
      ·obtain rfl := Option.some.inj H
       go_enter Try.func53, Try.ntmps53
       go_wp2_with (first | ((with_reducible refine gD 2 ?_); refine bxE 2 25 #[.int .i64 a0_0, .int .i64 a0_1, .int .i64 a0_2, .int .i64 a0_3, .int .i64 a0_4] fun gb165 w31 hg hbox hb => ?_; have BK165 := Aside0.mk hbox; have GE165 := gB HB hg; replace HB := uB HB hb; clear hb hbox hg; have ⟨hcz32_0, hcz32_1, hcz32_2, hcz32_3, hcz32_4, hfz32_0⟩ := cz5 BK165))
       go_ret
       exact ⟨eB, (bW HB)⟩
      ·obtain rfl := Option.some.inj H
       go_enter Try.func53, Try.ntmps53
       go_wp2_with (first | ((with_reducible refine gD 2 ?_); refine bxE 2 25 #[.int .i64 a0_0, .int .i64 a0_1, .int .i64 a0_2, .int .i64 a0_3, .int .i64 a0_4] fun gb165 w33 hg hbox hb => ?_; have BK165 := Aside0.mk hbox; have GE165 := gB HB hg; replace HB := uB HB hb; clear hb hbox hg; have ⟨hcz34_0, hcz34_1, hcz34_2, hcz34_3, hcz34_4, hfz34_0⟩ := cz5 BK165))
       go_ret
       exact ⟨eB, (bW HB)⟩
     ·obtain rfl := Option.some.inj H
      go_enter Try.func53, Try.ntmps53
      go_wp2_with (first | ((with_reducible refine gD 2 ?_); refine bxE 2 25 #[.int .i64 a0_0, .int .i64 a0_1, .int .i64 a0_2, .int .i64 a0_3, .int .i64 a0_4] fun gb165 w35 hg hbox hb => ?_; have BK165 := Aside0.mk hbox; have GE165 := gB HB hg; replace HB := uB HB hb; clear hb hbox hg; have ⟨hcz36_0, hcz36_1, hcz36_2, hcz36_3, hcz36_4, hfz36_0⟩ := cz5 BK165))
      go_ret
      exact ⟨eB, (bW HB)⟩
    ·replace H := ifI H
     rcases H with ⟨H, -, c37b0, c37b1⟩ | ⟨H, c37, c37b0, c37b1⟩
     ·replace H := ifI H
      rcases H with ⟨H, -, c38b0, c38b1⟩ | ⟨H, c38, c38b0, c38b1⟩
      ·obtain rfl := Option.some.inj H
       go_enter Try.func53, Try.ntmps53
       go_wp2_with (first | ((with_reducible refine gD 2 ?_); refine bxE 2 25 #[.int .i64 a0_0, .int .i64 a0_1, .int .i64 a0_2, .int .i64 a0_3, .int .i64 a0_4] fun gb165 w39 hg hbox hb => ?_; have BK165 := Aside0.mk hbox; have GE165 := gB HB hg; replace HB := uB HB hb; clear hb hbox hg; have ⟨hcz40_0, hcz40_1, hcz40_2, hcz40_3, hcz40_4, hfz40_0⟩ := cz5 BK165))
       go_ret
       exact ⟨eB, (bW HB)⟩
      ·obtain rfl := Option.some.inj H
       go_enter Try.func53, Try.ntmps53
       go_wp2_with (first | ((with_reducible refine gD 2 ?_); refine bxE 2 25 #[.int .i64 a0_0, .int .i64 a0_1, .int .i64 a0_2, .int .i64 a0_3, .int .i64 a0_4] fun gb165 w41 hg hbox hb => ?_; have BK165 := Aside0.mk hbox; have GE165 := gB HB hg; replace HB := uB HB hb; clear hb hbox hg; have ⟨hcz42_0, hcz42_1, hcz42_2, hcz42_3, hcz42_4, hfz42_0⟩ := cz5 BK165))
       go_ret
       exact ⟨eB, (bW HB)⟩
     ·replace H := ifI H
      rcases H with ⟨H, -, c43b0, c43b1⟩ | ⟨H, c43, c43b0, c43b1⟩
      ·replace H := ifI H
       rcases H with ⟨H, -, c44b0, c44b1⟩ | ⟨H, c44, c44b0, c44b1⟩
       ·obtain rfl := Option.some.inj H
        go_enter Try.func53, Try.ntmps53
        go_wp2_with (first | ((with_reducible refine gD 2 ?_); refine bxE 2 25 #[.int .i64 a0_0, .int .i64 a0_1, .int .i64 a0_2, .int .i64 a0_3, .int .i64 a0_4] fun gb165 w45 hg hbox hb => ?_; have BK165 := Aside0.mk hbox; have GE165 := gB HB hg; replace HB := uB HB hb; clear hb hbox hg; have ⟨hcz46_0, hcz46_1, hcz46_2, hcz46_3, hcz46_4, hfz46_0⟩ := cz5 BK165))
        go_ret
        exact ⟨eB, (bW HB)⟩
       ·obtain rfl := Option.some.inj H
        go_enter Try.func53, Try.ntmps53
        go_wp2_with (first | ((with_reducible refine gD 2 ?_); refine bxE 2 25 #[.int .i64 a0_0, .int .i64 a0_1, .int .i64 a0_2, .int .i64 a0_3, .int .i64 a0_4] fun gb165 w47 hg hbox hb => ?_; have BK165 := Aside0.mk hbox; have GE165 := gB HB hg; replace HB := uB HB hb; clear hb hbox hg; have ⟨hcz48_0, hcz48_1, hcz48_2, hcz48_3, hcz48_4, hfz48_0⟩ := cz5 BK165))
        go_ret
        exact ⟨eB, (bW HB)⟩
      ·obtain rfl := Option.some.inj H
       go_enter Try.func53, Try.ntmps53
       go_wp2_with (first | ((with_reducible refine gD 2 ?_); refine bxE 2 25 #[.int .i64 a0_0, .int .i64 a0_1, .int .i64 a0_2, .int .i64 a0_3, .int .i64 a0_4] fun gb165 w49 hg hbox hb => ?_; have BK165 := Aside0.mk hbox; have GE165 := gB HB hg; replace HB := uB HB hb; clear hb hbox hg))
       go_ret
       exact ⟨eB, (bW HB)⟩

end Go.Proofs.Ytmeaacbnjpgepaa.QFnTrips
