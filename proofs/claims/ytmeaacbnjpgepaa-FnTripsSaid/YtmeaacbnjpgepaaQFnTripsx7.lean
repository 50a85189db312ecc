/- Contracts of Go functions that FnTrips reaches: the call computes what the plain function says. No condition. -/
import Derived.Test.YtmeaacbnjpgepaaQFnTripsx0
import Derived.Test.YtmeaacbnjpgepaaQFnTripsx2
import Derived.Test.YtmeaacbnjpgepaaQFnTripsx5
namespace Go.Proofs.Ytmeaacbnjpgepaa.QFnTrips
open Go.RowKit Go.Proofs.YtmeaacbnjpgepaaW.PrintWords Go.Proofs.YtmeaacbnjpgepaaW.PrintLast Go.Proofs.YtmeaacbnjpgepaaW.PrintMore
attribute [local go_sem] max2_int min2_int max_two min_two max_three min_three max_four min_four   -- for this text's walks alone
set_option linter.unusedVariables false
set_option linter.unusedSimpArgs false

/-! ### impl_Trip_step: function 57 -/
mutual
def impl_Trip_step.j0 : Nat → Int → Bool → Int → Int → Int → Int → Int → Int → Int → Option (Int × Int × Int × Int × Int × Bool)
 | 0, _, _, _, _, _, _, _, _, _ => none
 | k + 1, x6, x14, x189000, x189001, x189002, x189003, x189004, x190000, x190001 => if x14 = true then (impl_Trip_step.j1 k 0 x189000 x189001 x189002 x189003 x189004 x190000 x190001) else (impl_Trip_step.j1 k x6 x189000 x189001 x189002 x189003 x189004 x190000 x190001)
def impl_Trip_step.j1 : Nat → Int → Int → Int → Int → Int → Int → Int → Int → Option (Int × Int × Int × Int × Int × Bool)
 | 0, _, _, _, _, _, _, _, _ => none
 | k + 1, x6, x189000, x189001, x189002, x189003, x189004, x190000, x190001 => (impl_Trip_most.f k x189000 x189001 x189002 x189003 x189004 x190000).bind fun t191 => ((impl_within.f x190001 x6 t191).bind fun t192 => (if t192 = true then (if x190000 = 1 then (some (1, x189001, wrap64 (x189002 + x190001), x189003, x189004, true)) else (if x190000 = 2 then (if (wrap64 (x189002 - x190001)) = 0 then (some (4, x189001, wrap64 (x189002 - x190001), x189003, x189004, true)) else (some (x189000, x189001, wrap64 (x189002 - x190001), x189003, x189004, true))) else (if x190000 = 3 then (if x189000 = 1 then (if (wrap64 (x189004 + x190001)) > x189003 then (some (2, x189001, x189002, x189003, wrap64 (x189004 + x190001), true)) else (some (x189000, x189001, x189002, x189003, wrap64 (x189004 + x190001), true))) else (some (x189000, x189001, x189002, x189003, wrap64 (x189004 + x190001), true))) else (if x190000 = 4 then (some (3, x189001, x189002, x189003, x189004, true)) else (if x190000 = 5 then (some (5, x189001, x189002, x189003, x189004, true)) else (if x190000 = 6 then (some (x189000, x189001, x189002, wrap64 (x189003 + x190001), x189004, true)) else (some (x189000, x189001, x189002, x189003, x189004, true)))))))) else (some (0, 0, 0, 0, 0, false))))
end
def impl_Trip_step.f (k : Nat) (a0_0 a0_1 a0_2 a0_3 a0_4 a1_0 a1_1 : Int) : Option (Int × Int × Int × Int × Int × Bool) := if a1_0 = 4 then (impl_Trip_step.j0 k 1 true a0_0 a0_1 a0_2 a0_3 a0_4 a1_0 a1_1) else (impl_Trip_step.j0 k 1 (a1_0 == 5) a0_0 a0_1 a0_2 a0_3 a0_4 a1_0 a1_1)
theorem impl_Trip_step.mono_l : ∀ k, (∀ y0 y1 y2 y3 y4 y5 y6 y7 y8, LeO (impl_Trip_step.j0 k y0 y1 y2 y3 y4 y5 y6 y7 y8) (impl_Trip_step.j0 (k + 1) y0 y1 y2 y3 y4 y5 y6 y7 y8)) ∧ (∀ y0 y1 y2 y3 y4 y5 y6 y7, LeO (impl_Trip_step.j1 k y0 y1 y2 y3 y4 y5 y6 y7) (impl_Trip_step.j1 (k + 1) y0 y1 y2 y3 y4 y5 y6 y7))
 | 0 => ⟨fun _ _ _ _ _ _ _ _ _ r h => by simp [impl_Trip_step.j0] at h, fun _ _ _ _ _ _ _ _ r h => by simp [impl_Trip_step.j1] at h⟩
 | k + 1 => by
  obtain ⟨ih0, ih1⟩ := impl_Trip_step.mono_l k
  refine ⟨?_, ?_⟩
  ·intro y0 y1 y2 y3 y4 y5 y6 y7 y8
   unfold impl_Trip_step.j0
   repeat' with_reducible first | apply ih0 | apply ih1 | apply impl_Trip_most.mono | exact LeO.refl _ | exact LeO.none _ | refine LeO.ite ?_ ?_ | refine LeO.bind ?_ (fun _ => ?_)
  ·intro y0 y1 y2 y3 y4 y5 y6 y7
   unfold impl_Trip_step.j1
   repeat' with_reducible first | apply ih0 | apply ih1 | apply impl_Trip_most.mono | exact LeO.refl _ | exact LeO.none _ | refine LeO.ite ?_ ?_ | refine LeO.bind ?_ (fun _ => ?_)
theorem impl_Trip_step.mono : ∀ a0 a1 a2 a3 a4 a5 a6 k, LeO (impl_Trip_step.f k a0 a1 a2 a3 a4 a5 a6) (impl_Trip_step.f (k + 1) a0 a1 a2 a3 a4 a5 a6) := by
 intro a0 a1 a2 a3 a4 a5 a6 k
 obtain ⟨ih0, ih1⟩ := impl_Trip_step.mono_l k
 unfold impl_Trip_step.f
 repeat' with_reducible first | apply ih0 | apply ih1 | apply impl_Trip_most.mono | exact LeO.refl _ | exact LeO.none _ | refine LeO.ite ?_ ?_ | refine LeO.bind ?_ (fun _ => ?_)
def impl_Trip_step.T4 : Bool × List (List Nat × List Nat) := (true, [([], []), ([0], [0]), ([], []), ([], []), ([], []), ([4], [4]), ([3, 5], [3, 5]), ([1, 2, 6, 6], [1, 2, 6]), ([7], [7])])
def impl_Trip_step.B4 : List Nat := [0, 1, 0, 0, 0, 16, 56, 127, 255]
theorem impl_Trip_step.tab4 : rtab .any (opsOf Try.f57 4) = impl_Trip_step.T4 := by kernel_rfl
theorem impl_Trip_step.bits4 : waitsOk impl_Trip_step.T4.2 impl_Trip_step.B4 = true := by kernel_rfl
set_option maxHeartbeats 8000000 in
set_option maxRecDepth 100000 in
theorem impl_Trip_step.calls (k : Nat) (a0_0 a0_1 a0_2 a0_3 a0_4 a1_0 a1_1 r1 r2 r3 r4 r5 : Int) (r6 : Bool) (w : World) (h : impl_Trip_step.f k a0_0 a0_1 a0_2 a0_3 a0_4 a1_0 a1_1 = some (r1, r2, r3, r4, r5, r6)) :
  Calls Try.prog 57 #[.agg #[.int .i64 a0_0, .int .i64 a0_1, .int .i64 a0_2, .int .i64 a0_3, .int .i64 a0_4], .agg #[.int .i64 a1_0, .int .i64 a1_1]] w fun e w' => e = .returned (.tuple #[.agg #[.int .i64 r1, .int .i64 r2, .int .i64 r3, .int .i64 r4, .int .i64 r5], .bool r6]) ∧ Below w.heap.size w w' := by
 have hu25 := Try.underlying25
 have hu49 := Try.underlying49
 have HB := Aside0.mk (Below.refl w.heap.size w)
 have H := h
 clear h
 unfold impl_Trip_step.f at H
 have HC3 := Aside0.mk H
 clear H
 go_enter Try.func57, Try.ntmps57
 go_upto_region 2 with (first | ((with_reducible refine gD 2 ?_); refine bxE 2 25 #[.int .i64 a0_0, .int .i64 a0_1, .int .i64 a0_2, .int .i64 a0_3, .int .i64 a0_4] fun gb188 w4 hg hbox hb => ?_; have BK188 := Aside0.mk hbox; have GE188 := gB HB hg; replace HB := uB HB hb; clear hb hbox hg) | ((with_reducible refine gD 3 ?_); refine bxE 3 49 #[.int .i64 a1_0, .int .i64 a1_1] fun gb189 w5 hg hbox hb => ?_; have BK189 := Aside0.mk hbox; have GE189 := gB HB hg; have ⟨NB188_189, NB189_188⟩ := nB BK188 hg; replace BK188 := uK BK188 hb; replace HB := uB HB hb; clear hb hbox hg) | ((with_reducible refine gD 4 ?_); refine bxE 4 25 #[.int .i64 0, .int .i64 0, .int .i64 0, .int .i64 0, .int .i64 0] fun gb190 w6 hg hbox hb => ?_; have BK190 := Aside0.mk hbox; have GE190 := gB HB hg; have ⟨NB188_190, NB190_188⟩ := nB BK188 hg; have ⟨NB189_190, NB190_189⟩ := nB BK189 hg; replace BK188 := uK BK188 hb; replace BK189 := uK BK189 hb; replace HB := uB HB hb; clear hb hbox hg))
 (try simp only [Act.put, List.setIfInBounds_toArray, List.set_cons_zero, List.set_cons_succ])
 go_cut [14] (fun v14 wc => ∃ (kq : Nat) (x14_2 : Bool), v14 = .bool x14_2 ∧ Aside0 (impl_Trip_step.j0 kq 1 x14_2 a0_0 a0_1 a0_2 a0_3 a0_4 a1_0 a1_1 = some (r1, r2, r3, r4, r5, r6)) ∧ Aside0 (kq ≤ k) ∧ Aside0 (wc.heap[gb188]? = some (.cells #[.int .i64 a0_0, .int .i64 a0_1, .int .i64 a0_2, .int .i64 a0_3, .int .i64 a0_4] 25 (0, 0))) ∧ Aside0 (wc.heap[gb189]? = some (.cells #[.int .i64 a1_0, .int .i64 a1_1] 49 (0, 0))) ∧ Aside0 (wc.heap[gb190]? = some (.cells #[.int .i64 0, .int .i64 0, .int .i64 0, .int .i64 0, .int .i64 0] 25 (0, 0))) ∧ Aside0 (Below w.heap.size w wc))
 case first =>
  have H := HC3.out
  clear HC3
  replace H := ifI H
  rcases H with ⟨H, -, c7b0, c7b1⟩ | ⟨H, c7, c7b0, c7b1⟩
  ·(first | rw [c7b0] | (simp only [i64_w, i32_w]; rw [c7b0]) | skip)
   have H' := Aside0.mk H
   clear H
   have hnb8 := NB189_188.out
   have hnc8 := NB188_189.out
   have hnb9 := NB189_190.out
   have hnc9 := NB190_189.out
   have ⟨hcz10_0, hcz10_1, hfz10_0⟩ := cz2 BK189
   go_wp2
   go_meet
   case rel => exact ⟨_, (true), rB, H', leB, (aK BK188), (aK BK189), (aK BK190), (aB HB)⟩
  ·(first | rw [c7b0] | (simp only [i64_w, i32_w]; rw [c7b0]) | skip)
   have H' := Aside0.mk H
   clear H
   have hnb11 := NB189_188.out
   have hnc11 := NB188_189.out
   have hnb12 := NB189_190.out
   have hnc12 := NB190_189.out
   have ⟨hcz13_0, hcz13_1, hfz13_0⟩ := cz2 BK189
   go_wp2
   go_meet
   case rel => exact ⟨_, ((a1_0 == 5)), rB, H', leB, (aK BK188), (aK BK189), (aK BK190), (aB HB)⟩
 case rest =>
  clear HC3
  obtain ⟨kq, x14_2, rfl, HA, HJ2, BK188, BK189, BK190, HB⟩ := hcut
  cases kq with
  | zero => exact absurd HA.out (by simp [impl_Trip_step.j0])
  | succ kj2 =>
   have H := HA.out
   clear HA
   simp only [impl_Trip_step.j0] at H
   have HC14 := Aside0.mk H
   clear H
   go_upto_if 14 with (fail)
   go_cut [6] (fun v6 wc => ∃ (kq : Nat) (x6_13 : Int), v6 = .int .i64 x6_13 ∧ Aside0 (impl_Trip_step.j1 kq x6_13 a0_0 a0_1 a0_2 a0_3 a0_4 a1_0 a1_1 = some (r1, r2, r3, r4, r5, r6)) ∧ Aside0 (kq ≤ kj2) ∧ Aside0 (wc.heap[gb188]? = some (.cells #[.int .i64 a0_0, .int .i64 a0_1, .int .i64 a0_2, .int .i64 a0_3, .int .i64 a0_4] 25 (0, 0))) ∧ Aside0 (wc.heap[gb189]? = some (.cells #[.int .i64 a1_0, .int .i64 a1_1] 49 (0, 0))) ∧ Aside0 (wc.heap[gb190]? = some (.cells #[.int .i64 0, .int .i64 0, .int .i64 0, .int .i64 0, .int .i64 0] 25 (0, 0))) ∧ Aside0 (Below w.heap.size w wc))
   case first =>
    have H := HC14.out
    clear HC14
    rcases Bool.eq_false_or_eq_true x14_2 with rfl | rfl
    ·replace H := iT rfl H
     have H' := Aside0.mk H
     clear H
     go_wp2
     go_meet
     case rel => exact ⟨_, (0), rB, H', ⟨by have := HJ2.out; first | omega | exact Nat.le_refl _⟩, (aK BK188), (aK BK189), (aK BK190), (aB HB)⟩
    ·replace H := iF (by decide) H
     have H' := Aside0.mk H
     clear H
     go_wp2
     go_meet
     case rel => exact ⟨_, (1), rB, H', ⟨by have := HJ2.out; first | omega | exact Nat.le_refl _⟩, (aK BK188), (aK BK189), (aK BK190), (aB HB)⟩
   case rest =>
    clear HC14
    obtain ⟨kq, x6_13, rfl, HA, HJ13, BK188, BK189, BK190, HB⟩ := hcut
    cases kq with
    | zero => exact absurd HA.out (by simp [impl_Trip_step.j1])
    | succ kj13 =>
     have H := HA.out
     clear HA
     simp only [impl_Trip_step.j1] at H
     replace H := bA H
     obtain ⟨t191, A16, H⟩ := H
     replace H := bA H
     obtain ⟨t192, A17, H⟩ := H
     rcases Bool.eq_false_or_eq_true t192 with rfl | rfl
     ·replace H := iT rfl H
      replace H := ifI H
      rcases H with ⟨H, -, c19b0, c19b1⟩ | ⟨H, c19, c19b0, c19b1⟩
      ·simp only [Option.some.injEq, Prod.mk.injEq] at H
       obtain ⟨rfl, rfl, rfl, rfl, rfl, rfl⟩ := H
       try go_wp2
       replace BK188 := dK BK188
       replace BK189 := dK BK189
       replace BK190 := dK BK190
       replace HB := Aside0.mk (below_drew1 HB.out)
       refine sA (n := 9) (S := fun w' => w'.cell? ⟨gb189, 0, none⟩ = some (.int .i64 a1_0) ∧ w'.cell? ⟨gb189, 1, none⟩ = some (.int .i64 a1_1) ∧ w'.cell? ⟨gb188, 0, none⟩ = some (.int .i64 a0_0) ∧ w'.cell? ⟨gb188, 1, none⟩ = some (.int .i64 a0_1) ∧ w'.cell? ⟨gb188, 2, none⟩ = some (.int .i64 a0_2) ∧ w'.cell? ⟨gb188, 3, none⟩ = some (.int .i64 a0_3) ∧ w'.cell? ⟨gb188, 4, none⟩ = some (.int .i64 a0_4)) (ds := []) impl_Trip_step.tab4 impl_Trip_step.bits4 #[false, false, false, false, false, false, false, false, false] ⟨cb BK189 0, cb BK189 1, cb BK188 0, cb BK188 1, cb BK188 2, cb BK188 3, cb BK188 4⟩ fun hHeld HT_ HW_ => ?_
       generalize wc.drew = w20 at BK188 BK189 BK190 HB hHeld ⊢
       refine pA 0 15 HT_ ?_
       refine pA 2 17 HT_ ?_
       refine pA 4 19 HT_ ?_
       refine tA 1 16 HT_ HW_ hHeld ?_
       refine tA 3 18 HT_ HW_ hHeld ?_
       refine tA 5 20 HT_ HW_ hHeld ?_
       refine oA 6 (some 21) HT_ fun K hK => ?_
       refine rA Try.func53 (impl_Trip_most.calls kj13 a0_0 a0_1 a0_2 a0_3 a0_4 a1_0 t191 _ A16.out) ?_
       intro w21 hb
       replace BK188 := uK BK188 hb
       replace BK189 := uK BK189 hb
       replace BK190 := uK BK190 hb
       replace HB := uB HB hb
       (try clear hb)
       refine hK.out _ _ ⟨cb BK189 0, cb BK189 1, cb BK188 0, cb BK188 1, cb BK188 2, cb BK188 3, cb BK188 4⟩ (fun hHeld => ?_)
       clear hK K
       refine nA ?_ (some 21)
       refine oA 7 (some 22) HT_ fun K hK => ?_
       refine rA Try.func46 (impl_within.calls a1_1 x6_13 t191 true _ A17.out) ?_
       rintro _ ⟨nd, rfl⟩
       refine hK.out _ _ ⟨cb BK189 0, cb BK189 1, cb BK188 0, cb BK188 1, cb BK188 2, cb BK188 3, cb BK188 4⟩ (fun hHeld => ?_)
       clear hK K
       refine nA ?_ (some 22)
       refine pA 8 23 HT_ ?_
       refine done_ (done_of HT_.out (by kernel_rfl)) ?_
       have hnb22 := NB189_188.out
       have hnc22 := NB188_189.out
       have hnb23 := NB189_190.out
       have hnc23 := NB190_189.out
       have ⟨hcz24_0, hcz24_1, hfz24_0⟩ := cz2 BK189
       have hnb25 := NB188_190.out
       have hnc25 := NB190_188.out
       have ⟨hcz26_0, hcz26_1, hcz26_2, hcz26_3, hcz26_4, hfz26_0⟩ := cz5 BK188
       have ⟨hcz27_0, hcz27_1, hcz27_2, hcz27_3, hcz27_4, hfz27_0⟩ := cz5 BK190
       try go_wp2
       refine bodyPost_ret (results_ct rfl _ _ gb190 25 #[.int .i64 1, .int .i64 a0_1, .int .i64 (wrap64 (a0_2 + a1_1)), .int .i64 a0_3, .int .i64 a0_4] (0, 0) _ rfl (by exact pW BK190) Try.underlying25 rfl (by kernel_rfl)) rfl ?_
       exact ⟨eB, (bW HB)⟩
      ·replace H := ifI H
       rcases H with ⟨H, -, c28b0, c28b1⟩ | ⟨H, c28, c28b0, c28b1⟩
       ·replace H := ifI H
        rcases H with ⟨H, -, c29b0, c29b1⟩ | ⟨H, c29, c29b0, c29b1⟩
        ·simp only [Option.some.injEq, Prod.mk.injEq] at H
         obtain ⟨rfl, rfl, rfl, rfl, rfl, rfl⟩ := H
         try go_wp2
         replace BK188 := dK BK188
         replace BK189 := dK BK189
         replace BK190 := dK BK190
         replace HB := Aside0.mk (below_drew1 HB.out)
         refine sA (n := 9) (S := fun w' => w'.cell? ⟨gb189, 0, none⟩ = some (.int .i64 a1_0) ∧ w'.cell? ⟨gb189, 1, none⟩ = some (.int .i64 a1_1) ∧ w'.cell? ⟨gb188, 0, none⟩ = some (.int .i64 a0_0) ∧ w'.cell? ⟨gb188, 1, none⟩ = some (.int .i64 a0_1) ∧ w'.cell? ⟨gb188, 2, none⟩ = some (.int .i64 a0_2) ∧ w'.cell? ⟨gb188, 3, none⟩ = some (.int .i64 a0_3) ∧ w'.cell? ⟨gb188, 4, none⟩ = some (.int .i64 a0_4)) (ds := []) impl_Trip_step.tab4 impl_Trip_step.bits4 #[false, false, false, false, false, false, false, false, false] ⟨cb BK189 0, cb BK189 1, cb BK188 0, cb BK188 1, cb BK188 2, cb BK188 3, cb BK188 4⟩ fun hHeld HT_ HW_ => ?_
         generalize wc.drew = w30 at BK188 BK189 BK190 HB hHeld ⊢
         refine pA 0 15 HT_ ?_
         refine pA 2 17 HT_ ?_
         refine pA 4 19 HT_ ?_
         refine tA 1 16 HT_ HW_ hHeld ?_
         refine tA 3 18 HT_ HW_ hHeld ?_
         refine tA 5 20 HT_ HW_ hHeld ?_
         refine oA 6 (some 21) HT_ fun K hK => ?_
         refine rA Try.func53 (impl_Trip_most.calls kj13 a0_0 a0_1 a0_2 a0_3 a0_4 a1_0 t191 _ A16.out) ?_
         intro w31 hb
         replace BK188 := uK BK188 hb
         replace BK189 := uK BK189 hb
         replace BK190 := uK BK190 hb
         replace HB := uB HB hb
         (try clear hb)
         refine hK.out _ _ ⟨cb BK189 0, cb BK189 1, cb BK188 0, cb BK188 1, cb BK188 2, cb BK188 3, cb BK188 4⟩ (fun hHeld => ?_)
         clear hK K
         refine nA ?_ (some 21)
         refine oA 7 (some 22) HT_ fun K hK => ?_
         refine rA Try.func46 (impl_within.calls a1_1 x6_13 t191 true _ A17.out) ?_
         rintro _ ⟨nd, rfl⟩
         refine hK.out _ _ ⟨cb BK189 0, cb BK189 1, cb BK188 0, cb BK188 1, cb BK188 2, cb BK188 3, cb BK188 4⟩ (fun hHeld => ?_)
         clear hK K
         refine nA ?_ (some 22)
         refine pA 8 23 HT_ ?_
         refine done_ (done_of HT_.out (by kernel_rfl)) ?_
         have hnb32 := NB189_188.out
         have hnc32 := NB188_189.out
         have hnb33 := NB189_190.out
         have hnc33 := NB190_189.out
         have ⟨hcz34_0, hcz34_1, hfz34_0⟩ := cz2 BK189
         have hnb35 := NB188_190.out
         have hnc35 := NB190_188.out
         have ⟨hcz36_0, hcz36_1, hcz36_2, hcz36_3, hcz36_4, hfz36_0⟩ := cz5 BK188
         have ⟨hcz37_0, hcz37_1, hcz37_2, hcz37_3, hcz37_4, hfz37_0⟩ := cz5 BK190
         try go_wp2
         refine bodyPost_ret (results_ct rfl _ _ gb190 25 #[.int .i64 4, .int .i64 a0_1, .int .i64 (wrap64 (a0_2 - a1_1)), .int .i64 a0_3, .int .i64 a0_4] (0, 0) _ rfl (by exact pW BK190) Try.underlying25 rfl (by kernel_rfl)) rfl ?_
         exact ⟨eB, (bW HB)⟩
        ·simp only [Option.some.injEq, Prod.mk.injEq] at H
         obtain ⟨rfl, rfl, rfl, rfl, rfl, rfl⟩ := H
         try go_wp2
         replace BK188 := dK BK188
         replace BK189 := dK BK189
         replace BK190 := dK BK190
         replace HB := Aside0.mk (below_drew1 HB.out)
         refine sA (n := 9) (S := fun w' => w'.cell? ⟨gb189, 0, none⟩ = some (.int .i64 a1_0) ∧ w'.cell? ⟨gb189, 1, none⟩ = some (.int .i64 a1_1) ∧ w'.cell? ⟨gb188, 0, none⟩ = some (.int .i64 a0_0) ∧ w'.cell? ⟨gb188, 1, none⟩ = some (.int .i64 a0_1) ∧ w'.cell? ⟨gb188, 2, none⟩ = some (.int .i64 a0_2) ∧ w'.cell? ⟨gb188, 3, none⟩ = some (.int .i64 a0_3) ∧ w'.cell? ⟨gb188, 4, none⟩ = some (.int .i64 a0_4)) (ds := []) impl_Trip_step.tab4 impl_Trip_step.bits4 #[false, false, false, false, false, false, false, false, false] ⟨cb BK189 0, cb BK189 1, cb BK188 0, cb BK188 1, cb BK188 2, cb BK188 3, cb BK188 4⟩ fun hHeld HT_ HW_ => ?_
         generalize wc.drew = w38 at BK188 BK189 BK190 HB hHeld ⊢
         refine pA 0 15 HT_ ?_
         refine pA 2 17 HT_ ?_
         refine pA 4 19 HT_ ?_
         refine tA 1 16 HT_ HW_ hHeld ?_
         refine tA 3 18 HT_ HW_ hHeld ?_
         refine tA 5 20 HT_ HW_ hHeld ?_
         refine oA 6 (some 21) HT_ fun K hK => ?_
         refine rA Try.func53 (impl_Trip_most.calls kj13 a0_0 a0_1 a0_2 a0_3 a0_4 a1_0 t191 _ A16.out) ?_
         intro w39 hb
         replace BK188 := uK BK188 hb
         replace BK189 := uK BK189 hb
         replace BK190 := uK BK190 hb
         replace HB := uB HB hb
         (try clear hb)
         refine hK.out _ _ ⟨cb BK189 0, cb BK189 1, cb BK188 0, cb BK188 1, cb BK188 2, cb BK188 3, cb BK188 4⟩ (fun hHeld => ?_)
         clear hK K
         refine nA ?_ (some 21)
         refine oA 7 (some 22) HT_ fun K hK => ?_
         refine rA Try.func46 (impl_within.calls a1_1 x6_13 t191 true _ A17.out) ?_
         rintro _ ⟨nd, rfl⟩
         refine hK.out _ _ ⟨cb BK189 0, cb BK189 1, cb BK188 0, cb BK188 1, cb BK188 2, cb BK188 3, cb BK188 4⟩ (fun hHeld => ?_)
         clear hK K
         refine nA ?_ (some 22)
         refine pA 8 23 HT_ ?_
         refine done_ (done_of HT_.out (by kernel_rfl)) ?_
         have hnb40 := NB189_188.out
         have hnc40 := NB188_189.out
         have hnb41 := NB189_190.out
         have hnc41 := NB190_189.out
         have ⟨hcz42_0, hcz42_1, hfz42_0⟩ := cz2 BK189
         have hnb43 := NB188_190.out
         have hnc43 := NB190_188.out
         have ⟨hcz44_0, hcz44_1, hcz44_2, hcz44_3, hcz44_4, hfz44_0⟩ := cz5 BK188
         have ⟨hcz45_0, hcz45_1, hcz45_2, hcz45_3, hcz45_4, hfz45_0⟩ := cz5 BK190
         try go_wp2
         refine bodyPost_ret (results_ct rfl _ _ gb190 25 #[.int .i64 a0_0, .int .i64 a0_1, .int .i64 (wrap64 (a0_2 - a1_1)), .int .i64 a0_3, .int .i64 a0_4] (0, 0) _ rfl (by exact pW BK190) Try.underlying25 rfl (by kernel_rfl)) rfl ?_
         exact ⟨eB, (bW HB)⟩
       ·replace H := ifI H
        rcases H with ⟨H, -, c46b0, c46b1⟩ | ⟨H, c46, c46b0, c46b1⟩
        ·replace H := ifI H
         rcases H with ⟨H, -, c47b0, c47b1⟩ | ⟨H, c47, c47b0, c47b1⟩
         ·replace H := ifD H
          rcases H with ⟨H, -, c48b0⟩ | ⟨H, -, c48b0⟩
          ·simp only [Option.some.injEq, Prod.mk.injEq] at H
           obtain ⟨rfl, rfl, rfl, rfl, rfl, rfl⟩ := H
           try go_wp2
           replace BK188 := dK BK188
           replace BK189 := dK BK189
           replace BK190 := dK BK190
           replace HB := Aside0.mk (below_drew1 HB.out)
           refine sA (n := 9) (S := fun w' => w'.cell? ⟨gb189, 0, none⟩ = some (.int .i64 a1_0) ∧ w'.cell? ⟨gb189, 1, none⟩ = some (.int .i64 a1_1) ∧ w'.cell? ⟨gb188, 0, none⟩ = some (.int .i64 a0_0) ∧ w'.cell? ⟨gb188, 1, none⟩ = some (.int .i64 a0_1) ∧ w'.cell? ⟨gb188, 2, none⟩ = some (.int .i64 a0_2) ∧ w'.cell? ⟨gb188, 3, none⟩ = some (.int .i64 a0_3) ∧ w'.cell? ⟨gb188, 4, none⟩ = some (.int .i64 a0_4)) (ds := []) impl_Trip_step.tab4 impl_Trip_step.bits4 #[false, false, false, false, false, false, false, false, false] ⟨cb BK189 0, cb BK189 1, cb BK188 0, cb BK188 1, cb BK188 2, cb BK188 3, cb BK188 4⟩ fun hHeld HT_ HW_ => ?_
           generalize wc.drew = w49 at BK188 BK189 BK190 HB hHeld ⊢
           refine pA 0 15 HT_ ?_
           refine pA 2 17 HT_ ?_
           refine pA 4 19 HT_ ?_
           refine tA 1 16 HT_ HW_ hHeld ?_
           refine tA 3 18 HT_ HW_ hHeld ?_
           refine tA 5 20 HT_ HW_ hHeld ?_
           refine oA 6 (some 21) HT_ fun K hK => ?_
           refine rA Try.func53 (impl_Trip_most.calls kj13 a0_0 a0_1 a0_2 a0_3 a0_4 a1_0 t191 _ A16.out) ?_
           intro w50 hb
           replace BK188 := uK BK188 hb
           replace BK189 := uK BK189 hb
           replace BK190 := uK BK190 hb
           replace HB := uB HB hb
           (try clear hb)
           refine hK.out _ _ ⟨cb BK189 0, cb BK189 1, cb BK188 0, cb BK188 1, cb BK188 2, cb BK188 3, cb BK188 4⟩ (fun hHeld => ?_)
           clear hK K
           refine nA ?_ (some 21)
           refine oA 7 (some 22) HT_ fun K hK => ?_
           refine rA Try.func46 (impl_within.calls a1_1 x6_13 t191 true _ A17.out) ?_
           rintro _ ⟨nd, rfl⟩
           refine hK.out _ _ ⟨cb BK189 0, cb BK189 1, cb BK188 0, cb BK188 1, cb BK188 2, cb BK188 3, cb BK188 4⟩ (fun hHeld => ?_)
           clear hK K
           refine nA ?_ (some 22)
           refine pA 8 23 HT_ ?_
           refine done_ (done_of HT_.out (by kernel_rfl)) ?_
           have hnb51 := NB189_188.out
           have hnc51 := NB188_189.out
           have hnb52 := NB189_190.out
           have hnc52 := NB190_189.out
           have ⟨hcz53_0, hcz53_1, hfz53_0⟩ := cz2 BK189
           have hnb54 := NB188_190.out
           have hnc54 := NB190_188.out
           have ⟨hcz55_0, hcz55_1, hcz55_2, hcz55_3, hcz55_4, hfz55_0⟩ := cz5 BK188
           have ⟨hcz56_0, hcz56_1, hcz56_2, hcz56_3, hcz56_4, hfz56_0⟩ := cz5 BK190
           try go_wp2
           refine bodyPost_ret (results_ct rfl _ _ gb190 25 #[.int .i64 2, .int .i64 a0_1, .int .i64 a0_2, .int .i64 a0_3, .int .i64 (wrap64 (a0_4 + a1_1))] (0, 0) _ rfl (by exact pW BK190) Try.underlying25 rfl (by kernel_rfl)) rfl ?_
           exact ⟨eB, (bW HB)⟩
          ·simp only [Option.some.injEq, Prod.mk.injEq] at H
           obtain ⟨rfl, rfl, rfl, rfl, rfl, rfl⟩ := H
           try go_wp2
           replace BK188 := dK BK188
           replace BK189 := dK BK189
           replace BK190 := dK BK190
           replace HB := Aside0.mk (below_drew1 HB.out)
           refine sA (n := 9) (S := fun w' => w'.cell? ⟨gb189, 0, none⟩ = some (.int .i64 a1_0) ∧ w'.cell? ⟨gb189, 1, none⟩ = some (.int .i64 a1_1) ∧ w'.cell? ⟨gb188, 0, none⟩ = some (.int .i64 a0_0) ∧ w'.cell? ⟨gb188, 1, none⟩ = some (.int .i64 a0_1) ∧ w'.cell? ⟨gb188, 2, none⟩ = some (.int .i64 a0_2) ∧ w'.cell? ⟨gb188, 3, none⟩ = some (.int .i64 a0_3) ∧ w'.cell? ⟨gb188, 4, none⟩ = some (.int .i64 a0_4)) (ds := []) impl_Trip_step.tab4 impl_Trip_step.bits4 #[false, false, false, false, false, false, false, false, false] ⟨cb BK189 0, cb BK189 1, cb BK188 0, cb BK188 1, cb BK188 2, cb BK188 3, cb BK188 4⟩ fun hHeld HT_ HW_ => ?_
           generalize wc.drew = w57 at BK188 BK189 BK190 HB hHeld ⊢
           refine pA 0 15 HT_ ?_
           refine pA 2 17 HT_ ?_
           refine pA 4 19 HT_ ?_
           refine tA 1 16 HT_ HW_ hHeld ?_
           refine tA 3 18 HT_ HW_ hHeld ?_
           refine tA 5 20 HT_ HW_ hHeld ?_
           refine oA 6 (some 21) HT_ fun K hK => ?_
           refine rA Try.func53 (impl_Trip_most.calls kj13 a0_0 a0_1 a0_2 a0_3 a0_4 a1_0 t191 _ A16.out) ?_
           intro w58 hb
           replace BK188 := uK BK188 hb
           replace BK189 := uK BK189 hb
           replace BK190 := uK BK190 hb
           replace HB := uB HB hb
           (try clear hb)
           refine hK.out _ _ ⟨cb BK189 0, cb BK189 1, cb BK188 0, cb BK188 1, cb BK188 2, cb BK188 3, cb BK188 4⟩ (fun hHeld => ?_)
           clear hK K
           refine nA ?_ (some 21)
           refine oA 7 (some 22) HT_ fun K hK => ?_
           refine rA Try.func46 (impl_within.calls a1_1 x6_13 t191 true _ A17.out) ?_
           rintro _ ⟨nd, rfl⟩
           refine hK.out _ _ ⟨cb BK189 0, cb BK189 1, cb BK188 0, cb BK188 1, cb BK188 2, cb BK188 3, cb BK188 4⟩ (fun hHeld => ?_)
           clear hK K
           refine nA ?_ (some 22)
           refine pA 8 23 HT_ ?_
           refine done_ (done_of HT_.out (by kernel_rfl)) ?_
           have hnb59 := NB189_188.out
           have hnc59 := NB188_189.out
           have hnb60 := NB189_190.out
           have hnc60 := NB190_189.out
           have ⟨hcz61_0, hcz61_1, hfz61_0⟩ := cz2 BK189
           have hnb62 := NB188_190.out
           have hnc62 := NB190_188.out
           have ⟨hcz63_0, hcz63_1, hcz63_2, hcz63_3, hcz63_4, hfz63_0⟩ := cz5 BK188
           have ⟨hcz64_0, hcz64_1, hcz64_2, hcz64_3, hcz64_4, hfz64_0⟩ := cz5 BK190
           try go_wp2
           refine bodyPost_ret (results_ct rfl _ _ gb190 25 #[.int .i64 a0_0, .int .i64 a0_1, .int .i64 a0_2, .int .i64 a0_3, .int .i64 (wrap64 (a0_4 + a1_1))] (0, 0) _ rfl (by exact pW BK190) Try.underlying25 rfl (by kernel_rfl)) rfl ?_
           exact ⟨eB, (bW HB)⟩
         ·simp only [Option.some.injEq, Prod.mk.injEq] at H
          obtain ⟨rfl, rfl, rfl, rfl, rfl, rfl⟩ := H
          try go_wp2
          replace BK188 := dK BK188
          replace BK189 := dK BK189
          replace BK190 := dK BK190
          replace HB := Aside0.mk (below_drew1 HB.out)
          refine sA (n := 9) (S := fun w' => w'.cell? ⟨gb189, 0, none⟩ = some (.int .i64 a1_0) ∧ w'.cell? ⟨gb189, 1, none⟩ = some (.int .i64 a1_1) ∧ w'.cell? ⟨gb188, 0, none⟩ = some (.int .i64 a0_0) ∧ w'.cell? ⟨gb188, 1, none⟩ = some (.int .i64 a0_1) ∧ w'.cell? ⟨gb188, 2, none⟩ = some (.int .i64 a0_2) ∧ w'.cell? ⟨gb188, 3, none⟩ = some (.int .i64 a0_3) ∧ w'.cell? ⟨gb188, 4, none⟩ = some (.int .i64 a0_4)) (ds := []) impl_Trip_step.tab4 impl_Trip_step.bits4 #[false, false, false, false, false, false, false, false, false] ⟨cb BK189 0, cb BK189 1, cb BK188 0, cb BK188 1, cb BK188 2, cb BK188 3, cb BK188 4⟩ fun hHeld HT_ HW_ => ?_
          generalize wc.drew = w65 at BK188 BK189 BK190 HB hHeld ⊢
          refine pA 0 15 HT_ ?_
          refine pA 2 17 HT_ ?_
          refine pA 4 19 HT_ ?_
          refine tA 1 16 HT_ HW_ hHeld ?_
          refine tA 3 18 HT_ HW_ hHeld ?_
          refine tA 5 20 HT_ HW_ hHeld ?_
          refine oA 6 (some 21) HT_ fun K hK => ?_
          refine rA Try.func53 (impl_Trip_most.calls kj13 a0_0 a0_1 a0_2 a0_3 a0_4 a1_0 t191 _ A16.out) ?_
          intro w66 hb
          replace BK188 := uK BK188 hb
          replace BK189 := uK BK189 hb
          replace BK190 := uK BK190 hb
          replace HB := uB HB hb
          (try clear hb)
          refine hK.out _ _ ⟨cb BK189 0, cb BK189 1, cb BK188 0, cb BK188 1, cb BK188 2, cb BK188 3, cb BK188 4⟩ (fun hHeld => ?_)
          clear hK K
          refine nA ?_ (some 21)
          refine oA 7 (some 22) HT_ fun K hK => ?_
          refine rA Try.func46 (impl_within.calls a1_1 x6_13 t191 true _ A17.out) ?_
          rintro _ ⟨nd, rfl⟩
          refine hK.out _ _ ⟨cb BK189 0, cb BK189 1, cb BK188 0, cb BK188 1, cb BK188 2, cb BK188 3, cb BK188 4⟩ (fun hHeld => ?_)
          clear hK K
          refine nA ?_ (some 22)
          refine pA 8 23 HT_ ?_
          refine done_ (done_of HT_.out (by kernel_rfl)) ?_
          have hnb67 := NB189_188.out
          have hnc67 := NB188_189.out
          have hnb68 := NB189_190.out
          have hnc68 := NB190_189.out
          have ⟨hcz69_0, hcz69_1, hfz69_0⟩ := cz2 BK189
          have hnb70 := NB188_190.out
          have hnc70 := NB190_188.out
          have ⟨hcz71_0, hcz71_1, hcz71_2, hcz71_3, hcz71_4, hfz71_0⟩ := cz5 BK188
          have ⟨hcz72_0, hcz72_1, hcz72_2, hcz72_3, hcz72_4, hfz72_0⟩ := cz5 BK190
          try go_wp2
          refine bodyPost_ret (results_ct rfl _ _ gb190 25 #[.int .i64 a0_0, .int .i64 a0_1, .int .i64 a0_2, .int .i64 a0_3, .int .i64 (wrap64 (a0_4 + a1_1))] (0, 0) _ rfl (by exact pW BK190) Try.underlying25 rfl (by kernel_rfl)) rfl ?_
          exact ⟨eB, (bW HB)⟩
        ·replace H := ifI H
         rcases H with ⟨H, -, c73b0, c73b1⟩ | ⟨H, c73, c73b0, c73b1⟩
         ·simp only [Option.some.injEq, Prod.mk.injEq] at H
          obtain ⟨rfl, rfl, rfl, rfl, rfl, rfl⟩ := H
          try go_wp2
          replace BK188 := dK BK188
          replace BK189 := dK BK189
          replace BK190 := dK BK190
          replace HB := Aside0.mk (below_drew1 HB.out)
          refine sA (n := 9) (S := fun w' => w'.cell? ⟨gb189, 0, none⟩ = some (.int .i64 a1_0) ∧ w'.cell? ⟨gb189, 1, none⟩ = some (.int .i64 a1_1) ∧ w'.cell? ⟨gb188, 0, none⟩ = some (.int .i64 a0_0) ∧ w'.cell? ⟨gb188, 1, none⟩ = some (.int .i64 a0_1) ∧ w'.cell? ⟨gb188, 2, none⟩ = some (.int .i64 a0_2) ∧ w'.cell? ⟨gb188, 3, none⟩ = some (.int .i64 a0_3) ∧ w'.cell? ⟨gb188, 4, none⟩ = some (.int .i64 a0_4)) (ds := []) impl_Trip_step.tab4 impl_Trip_step.bits4 #[false, false, false, false, false, false, false, false, false] ⟨cb BK189 0, cb BK189 1, cb BK188 0, cb BK188 1, cb BK188 2, cb BK188 3, cb BK188 4⟩ fun hHeld HT_ HW_ => ?_
          generalize wc.drew = w74 at BK188 BK189 BK190 HB hHeld ⊢
          refine pA 0 15 HT_ ?_
          refine pA 2 17 HT_ ?_
          refine pA 4 19 HT_ ?_
          refine tA 1 16 HT_ HW_ hHeld ?_
          refine tA 3 18 HT_ HW_ hHeld ?_
          refine tA 5 20 HT_ HW_ hHeld ?_
          refine oA 6 (some 21) HT_ fun K hK => ?_
          refine rA Try.func53 (impl_Trip_most.calls kj13 a0_0 a0_1 a0_2 a0_3 a0_4 a1_0 t191 _ A16.out) ?_
          intro w75 hb
          replace BK188 := uK BK188 hb
          replace BK189 := uK BK189 hb
          replace BK190 := uK BK190 hb
          replace HB := uB HB hb
          (try clear hb)
          refine hK.out _ _ ⟨cb BK189 0, cb BK189 1, cb BK188 0, cb BK188 1, cb BK188 2, cb BK188 3, cb BK188 4⟩ (fun hHeld => ?_)
          clear hK K
          refine nA ?_ (some 21)
          refine oA 7 (some 22) HT_ fun K hK => ?_
          refine rA Try.func46 (impl_within.calls a1_1 x6_13 t191 true _ A17.out) ?_
          rintro _ ⟨nd, rfl⟩
          refine hK.out _ _ ⟨cb BK189 0, cb BK189 1, cb BK188 0, cb BK188 1, cb BK188 2, cb BK188 3, cb BK188 4⟩ (fun hHeld => ?_)
          clear hK K
          refine nA ?_ (some 22)
          refine pA 8 23 HT_ ?_
          refine done_ (done_of HT_.out (by kernel_rfl)) ?_
          have hnb76 := NB189_188.out
          have hnc76 := NB188_189.out
          have hnb77 := NB189_190.out
          have hnc77 := NB190_189.out
          have ⟨hcz78_0, hcz78_1, hfz78_0⟩ := cz2 BK189
          have hnb79 := NB188_190.out
          have hnc79 := NB190_188.out
          have ⟨hcz80_0, hcz80_1, hcz80_2, hcz80_3, hcz80_4, hfz80_0⟩ := cz5 BK188
          have ⟨hcz81_0, hcz81_1, hcz81_2, hcz81_3, hcz81_4, hfz81_0⟩ := cz5 BK190
          try go_wp2
          refine bodyPost_ret (results_ct rfl _ _ gb190 25 #[.int .i64 3, .int .i64 a0_1, .int .i64 a0_2, .int .i64 a0_3, .int .i64 a0_4] (0, 0) _ rfl (by exact pW BK190) Try.underlying25 rfl (by kernel_rfl)) rfl ?_
          exact ⟨eB, (bW HB)⟩
         ·replace H := ifI H
          rcases H with ⟨H, -, c82b0, c82b1⟩ | ⟨H, c82, c82b0, c82b1⟩
          ·simp only [Option.some.injEq, Prod.mk.injEq] at H
           obtain ⟨rfl, rfl, rfl, rfl, rfl, rfl⟩ := H
           try go_wp2
           replace BK188 := dK BK188
           replace BK189 := dK BK189
           replace BK190 := dK BK190
           replace HB := Aside0.mk (below_drew1 HB.out)
           refine sA (n := 9) (S := fun w' => w'.cell? ⟨gb189, 0, none⟩ = some (.int .i64 a1_0) ∧ w'.cell? ⟨gb189, 1, none⟩ = some (.int .i64 a1_1) ∧ w'.cell? ⟨gb188, 0, none⟩ = some (.int .i64 a0_0) ∧ w'.cell? ⟨gb188, 1, none⟩ = some (.int .i64 a0_1) ∧ w'.cell? ⟨gb188, 2, none⟩ = some (.int .i64 a0_2) ∧ w'.cell? ⟨gb188, 3, none⟩ = some (.int .i64 a0_3) ∧ w'.cell? ⟨gb188, 4, none⟩ = some (.int .i64 a0_4)) (ds := []) impl_Trip_step.tab4 impl_Trip_step.bits4 #[false, false, false, false, false, false, false, false, false] ⟨cb BK189 0, cb BK189 1, cb BK188 0, cb BK188 1, cb BK188 2, cb BK188 3, cb BK188 4⟩ fun hHeld HT_ HW_ => ?_
           generalize wc.drew = w83 at BK188 BK189 BK190 HB hHeld ⊢
           refine pA 0 15 HT_ ?_
           refine pA 2 17 HT_ ?_
           refine pA 4 19 HT_ ?_
           refine tA 1 16 HT_ HW_ hHeld ?_
           refine tA 3 18 HT_ HW_ hHeld ?_
           refine tA 5 20 HT_ HW_ hHeld ?_
           refine oA 6 (some 21) HT_ fun K hK => ?_
           refine rA Try.func53 (impl_Trip_most.calls kj13 a0_0 a0_1 a0_2 a0_3 a0_4 a1_0 t191 _ A16.out) ?_
           intro w84 hb
           replace BK188 := uK BK188 hb
           replace BK189 := uK BK189 hb
           replace BK190 := uK BK190 hb
           replace HB := uB HB hb
           (try clear hb)
           refine hK.out _ _ ⟨cb BK189 0, cb BK189 1, cb BK188 0, cb BK188 1, cb BK188 2, cb BK188 3, cb BK188 4⟩ (fun hHeld => ?_)
           clear hK K
           refine nA ?_ (some 21)
           refine oA 7 (some 22) HT_ fun K hK => ?_
           refine rA Try.func46 (impl_within.calls a1_1 x6_13 t191 true _ A17.out) ?_
           rintro _ ⟨nd, rfl⟩
           refine hK.out _ _ ⟨cb BK189 0, cb BK189 1, cb BK188 0, cb BK188 1, cb BK188 2, cb BK188 3, cb BK188 4⟩ (fun hHeld => ?_)
           clear hK K
           refine nA ?_ (some 22)
           refine pA 8 23 HT_ ?_
           refine done_ (done_of HT_.out (by kernel_rfl)) ?_
           have hnb85 := NB189_188.out
           have hnc85 := NB188_189.out
           have hnb86 := NB189_190.out
           have hnc86 := NB190_189.out
           have ⟨hcz87_0, hcz87_1, hfz87_0⟩ := cz2 BK189
           have hnb88 := NB188_190.out
           have hnc88 := NB190_188.out
           have ⟨hcz89_0, hcz89_1, hcz89_2, hcz89_3, hcz89_4, hfz89_0⟩ := cz5 BK188
           have ⟨hcz90_0, hcz90_1, hcz90_2, hcz90_3, hcz90_4, hfz90_0⟩ := cz5 BK190
           try go_wp2
           refine bodyPost_ret (results_ct rfl _ _ gb190 25 #[.int .i64 5, .int .i64 a0_1, .int .i64 a0_2, .int .i64 a0_3, .int .i64 a0_4] (0, 0) _ rfl (by exact pW BK190) Try.underlying25 rfl (by kernel_rfl)) rfl ?_
           exact ⟨eB, (bW HB)⟩
          ·replace H := ifI H
           rcases H with ⟨H, -, c91b0, c91b1⟩ | ⟨H, c91, c91b0, c91b1⟩
           ·simp only [Option.some.injEq, Prod.mk.injEq] at H
            obtain ⟨rfl, rfl, rfl, rfl, rfl, rfl⟩ := H
            try go_wp2
            replace BK188 := dK BK188
            replace BK189 := dK BK189
            replace BK190 := dK BK190
            replace HB := Aside0.mk (below_drew1 HB.out)
            refine sA (n := 9) (S := fun w' => w'.cell? ⟨gb189, 0, none⟩ = some (.int .i64 a1_0) ∧ w'.cell? ⟨gb189, 1, none⟩ = some (.int .i64 a1_1) ∧ w'.cell? ⟨gb188, 0, none⟩ = some (.int .i64 a0_0) ∧ w'.cell? ⟨gb188, 1, none⟩ = some (.int .i64 a0_1) ∧ w'.cell? ⟨gb188, 2, none⟩ = some (.int .i64 a0_2) ∧ w'.cell? ⟨gb188, 3, none⟩ = some (.int .i64 a0_3) ∧ w'.cell? ⟨gb188, 4, none⟩ = some (.int .i64 a0_4)) (ds := []) impl_Trip_step.tab4 impl_Trip_step.bits4 #[false, false, false, false, false, false, false, false, false] ⟨cb BK189 0, cb BK189 1, cb BK188 0, cb BK188 1, cb BK188 2, cb BK188 3, cb BK188 4⟩ fun hHeld HT_ HW_ => ?_
            generalize wc.drew = w92 at BK188 BK189 BK190 HB hHeld ⊢
            refine pA 0 15 HT_ ?_
            refine pA 2 17 HT_ ?_
            refine pA 4 19 HT_ ?_
            refine tA 1 16 HT_ HW_ hHeld ?_
            refine tA 3 18 HT_ HW_ hHeld ?_
            refine tA 5 20 HT_ HW_ hHeld ?_
            refine oA 6 (some 21) HT_ fun K hK => ?_
            refine rA Try.func53 (impl_Trip_most.calls kj13 a0_0 a0_1 a0_2 a0_3 a0_4 a1_0 t191 _ A16.out) ?_
            intro w93 hb
            replace BK188 := uK BK188 hb
            replace BK189 := uK BK189 hb
            replace BK190 := uK BK190 hb
            replace HB := uB HB hb
            (try clear hb)
            refine hK.out _ _ ⟨cb BK189 0, cb BK189 1, cb BK188 0, cb BK188 1, cb BK188 2, cb BK188 3, cb BK188 4⟩ (fun hHeld => ?_)
            clear hK K
            refine nA ?_ (some 21)
            refine oA 7 (some 22) HT_ fun K hK => ?_
            refine rA Try.func46 (impl_within.calls a1_1 x6_13 t191 true _ A17.out) ?_
            rintro _ ⟨nd, rfl⟩
            refine hK.out _ _ ⟨cb BK189 0, cb BK189 1, cb BK188 0, cb BK188 1, cb BK188 2, cb BK188 3, cb BK188 4⟩ (fun hHeld => ?_)
            clear hK K
            refine nA ?_ (some 22)
            refine pA 8 23 HT_ ?_
            refine done_ (done_of HT_.out (by kernel_rfl)) ?_
            have hnb94 := NB189_188.out
            have hnc94 := NB188_189.out
            have hnb95 := NB189_190.out
            have hnc95 := NB190_189.out
            have ⟨hcz96_0, hcz96_1, hfz96_0⟩ := cz2 BK189
            have hnb97 := NB188_190.out
            have hnc97 := NB190_188.out
            have ⟨hcz98_0, hcz98_1, hcz98_2, hcz98_3, hcz98_4, hfz98_0⟩ := cz5 BK188
            have ⟨hcz99_0, hcz99_1, hcz99_2, hcz99_3, hcz99_4, hfz99_0⟩ := cz5 BK190
            try go_wp2
            refine bodyPost_ret (results_ct rfl _ _ gb190 25 #[.int .i64 a0_0, .int .i64 a0_1, .int .i64 a0_2, .int .i64 (wrap64 (a0_3 + a1_1)), .int .i64 a0_4] (0, 0) _ rfl (by exact pW BK190) Try.underlying25 rfl (by kernel_rfl)) rfl ?_
            exact ⟨eB, (bW HB)⟩
           ·simp only [Option.some.injEq, Prod.mk.injEq] at H
            obtain ⟨rfl, rfl, rfl, rfl, rfl, rfl⟩ := H
            try go_wp2
            replace BK188 := dK BK188
            replace BK189 := dK BK189
            replace BK190 := dK BK190
            replace HB := Aside0.mk (below_drew1 HB.out)
            refine sA (n := 9) (S := fun w' => w'.cell? ⟨gb189, 0, none⟩ = some (.int .i64 a1_0) ∧ w'.cell? ⟨gb189, 1, none⟩ = some (.int .i64 a1_1) ∧ w'.cell? ⟨gb188, 0, none⟩ = some (.int .i64 a0_0) ∧ w'.cell? ⟨gb188, 1, none⟩ = some (.int .i64 a0_1) ∧ w'.cell? ⟨gb188, 2, none⟩ = some (.int .i64 a0_2) ∧ w'.cell? ⟨gb188, 3, none⟩ = some (.int .i64 a0_3) ∧ w'.cell? ⟨gb188, 4, none⟩ = some (.int .i64 a0_4)) (ds := []) impl_Trip_step.tab4 impl_Trip_step.bits4 #[false, false, false, false, false, false, false, false, false] ⟨cb BK189 0, cb BK189 1, cb BK188 0, cb BK188 1, cb BK188 2, cb BK188 3, cb BK188 4⟩ fun hHeld HT_ HW_ => ?_
            generalize wc.drew = w100 at BK188 BK189 BK190 HB hHeld ⊢
            refine pA 0 15 HT_ ?_
            refine pA 2 17 HT_ ?_
            refine pA 4 19 HT_ ?_
            refine tA 1 16 HT_ HW_ hHeld ?_
            refine tA 3 18 HT_ HW_ hHeld ?_
            refine tA 5 20 HT_ HW_ hHeld ?_
            refine oA 6 (some 21) HT_ fun K hK => ?_
            refine rA Try.func53 (impl_Trip_most.calls kj13 a0_0 a0_1 a0_2 a0_3 a0_4 a1_0 t191 _ A16.out) ?_
            intro w101 hb
            replace BK188 := uK BK188 hb
            replace BK189 := uK BK189 hb
            replace BK190 := uK BK190 hb
            replace HB := uB HB hb
            (try clear hb)
            refine hK.out _ _ ⟨cb BK189 0, cb BK189 1, cb BK188 0, cb BK188 1, cb BK188 2, cb BK188 3, cb BK188 4⟩ (fun hHeld => ?_)
            clear hK K
            refine nA ?_ (some 21)
            refine oA 7 (some 22) HT_ fun K hK => ?_
            refine rA Try.func46 (impl_within.calls a1_1 x6_13 t191 true _ A17.out) ?_
            rintro _ ⟨nd, rfl⟩
            refine hK.out _ _ ⟨cb BK189 0, cb BK189 1, cb BK188 0, cb BK188 1, cb BK188 2, cb BK188 3, cb BK188 4⟩ (fun hHeld => ?_)
            clear hK K
            refine nA ?_ (some 22)
            refine pA 8 23 HT_ ?_
            refine done_ (done_of HT_.out (by kernel_rfl)) ?_
            have hnb102 := NB189_188.out
            have hnc102 := NB188_189.out
            have hnb103 := NB189_190.out
            have hnc103 := NB190_189.out
            have ⟨hcz104_0, hcz104_1, hfz104_0⟩ := cz2 BK189
            have hnb105 := NB188_190.out
            have hnc105 := NB190_188.out
            have ⟨hcz106_0, hcz106_1, hcz106_2, hcz106_3, hcz106_4, hfz106_0⟩ := cz5 BK188
            have ⟨hcz107_0, hcz107_1, hcz107_2, hcz107_3, hcz107_4, hfz107_0⟩ := cz5 BK190
            try go_wp2
            refine bodyPost_ret (results_ct rfl _ _ gb190 25 #[.int .i64 a0_0, .int .i64 a0_1, .int .i64 a0_2, .int .i64 a0_3, .int .i64 a0_4] (0, 0) _ rfl (by exact pW BK190) Try.underlying25 rfl (by kernel_rfl)) rfl ?_
            exact ⟨eB, (bW HB)⟩
     ·replace H := iF (by decide) H
      simp only [Option.some.injEq, Prod.mk.injEq] at H
      obtain ⟨rfl, rfl, rfl, rfl, rfl, rfl⟩ := H
      try go_wp2
      replace BK188 := dK BK188
      replace BK189 := dK BK189
      replace BK190 := dK BK190
      replace HB := Aside0.mk (below_drew1 HB.out)
      refine sA (n := 9) (S := fun w' => w'.cell? ⟨gb189, 0, none⟩ = some (.int .i64 a1_0) ∧ w'.cell? ⟨gb189, 1, none⟩ = some (.int .i64 a1_1) ∧ w'.cell? ⟨gb188, 0, none⟩ = some (.int .i64 a0_0) ∧ w'.cell? ⟨gb188, 1, none⟩ = some (.int .i64 a0_1) ∧ w'.cell? ⟨gb188, 2, none⟩ = some (.int .i64 a0_2) ∧ w'.cell? ⟨gb188, 3, none⟩ = some (.int .i64 a0_3) ∧ w'.cell? ⟨gb188, 4, none⟩ = some (.int .i64 a0_4)) (ds := []) impl_Trip_step.tab4 impl_Trip_step.bits4 #[false, false, false, false, false, false, false, false, false] ⟨cb BK189 0, cb BK189 1, cb BK188 0, cb BK188 1, cb BK188 2, cb BK188 3, cb BK188 4⟩ fun hHeld HT_ HW_ => ?_
      generalize wc.drew = w108 at BK188 BK189 BK190 HB hHeld ⊢
      refine pA 0 15 HT_ ?_
      refine pA 2 17 HT_ ?_
      refine pA 4 19 HT_ ?_
      refine tA 1 16 HT_ HW_ hHeld ?_
      refine tA 3 18 HT_ HW_ hHeld ?_
      refine tA 5 20 HT_ HW_ hHeld ?_
      refine oA 6 (some 21) HT_ fun K hK => ?_
      refine rA Try.func53 (impl_Trip_most.calls kj13 a0_0 a0_1 a0_2 a0_3 a0_4 a1_0 t191 _ A16.out) ?_
      intro w109 hb
      replace BK188 := uK BK188 hb
      replace BK189 := uK BK189 hb
      replace BK190 := uK BK190 hb
      replace HB := uB HB hb
      (try clear hb)
      refine hK.out _ _ ⟨cb BK189 0, cb BK189 1, cb BK188 0, cb BK188 1, cb BK188 2, cb BK188 3, cb BK188 4⟩ (fun hHeld => ?_)
      clear hK K
      refine nA ?_ (some 21)
      refine oA 7 (some 22) HT_ fun K hK => ?_
      refine rA Try.func46 (impl_within.calls a1_1 x6_13 t191 false _ A17.out) ?_
      rintro _ ⟨nd, rfl⟩
      refine hK.out _ _ ⟨cb BK189 0, cb BK189 1, cb BK188 0, cb BK188 1, cb BK188 2, cb BK188 3, cb BK188 4⟩ (fun hHeld => ?_)
      clear hK K
      refine nA ?_ (some 22)
      refine pA 8 23 HT_ ?_
      refine done_ (done_of HT_.out (by kernel_rfl)) ?_
      have hnb110 := NB190_188.out
      have hnc110 := NB188_190.out
      have hnb111 := NB190_189.out
      have hnc111 := NB189_190.out
      have ⟨hcz112_0, hcz112_1, hcz112_2, hcz112_3, hcz112_4, hfz112_0⟩ := cz5 BK190
      try go_wp2
      refine bodyPost_ret (results_ct rfl _ _ gb190 25 #[.int .i64 0, .int .i64 0, .int .i64 0, .int .i64 0, .int .i64 0] (0, 0) _ rfl (by exact pW BK190) Try.underlying25 rfl (by kernel_rfl)) rfl ?_
      exact ⟨eB, (bW HB)⟩

end Go.Proofs.Ytmeaacbnjpgepaa.QFnTrips
