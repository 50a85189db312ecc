/- Contracts of Go functions that FnTripLists reaches: the call computes what the plain function says. No condition. -/
import Derived.Test.YtmeaacbnjpgepaaGreatDoorQFnTripListsx0
import Derived.Test.YtmeaacbnjpgepaaGreatDoorQFnTripListsx2
import Derived.Test.YtmeaacbnjpgepaaGreatDoorQFnTripListsx3
import Derived.Test.YtmeaacbnjpgepaaGreatDoorQFnTripListsx5
import Derived.Test.YtmeaacbnjpgepaaGreatDoorQFnTripListsx6
import Derived.Test.YtmeaacbnjpgepaaGreatDoorQFnTripListsx9
import Derived.Test.YtmeaacbnjpgepaaGreatDoorQFnTripListsx10
import Derived.Test.YtmeaacbnjpgepaaGreatDoorQFnTripListsx11
namespace Go.Proofs.YtmeaacbnjpgepaaGreatDoor.QFnTripLists
open Go.RowKit Go.Proofs.YtmeaacbnjpgepaaGreatDoorW.PrintWords Go.Proofs.YtmeaacbnjpgepaaGreatDoorW.PrintLast Go.Proofs.YtmeaacbnjpgepaaGreatDoorW.PrintMore
attribute [local go_sem] max2_int min2_int max_two min_two max_three min_three max_four min_four   -- for this text's walks alone
set_option linter.unusedVariables false
set_option linter.unusedSimpArgs false

/-! ### spec_ParseTrip: function 10 -/
mutual
def spec_ParseTrip.j0 : Nat → ByteArray → List ByteArray → Bool → Option (Int × Int × Int × Int × Int × Bool)
 | 0, _, _, _ => none
 | k + 1, x0, x4, x17 => if x17 = true then (some (0, 0, 0, 0, 0, false)) else (if 1 < (x4.length : Int) then ((spec_l1Split.f k (rdOf ByteArray.empty x4 1) 47).bind fun t353 => (if (t353.length : Int) = 2 then (if 0 < (t353.length : Int) then ((spec_l1Read.f k (rdOf ByteArray.empty t353 0)).bind fun bt358 => (if 1 < (t353.length : Int) then ((spec_l1Read.f k (rdOf ByteArray.empty t353 1)).bind fun bt361 => (if 3 < (x4.length : Int) then ((spec_l1Read.f k (rdOf ByteArray.empty x4 3)).bind fun bt364 => (if 5 < (x4.length : Int) then ((spec_l1Read.f k (rdOf ByteArray.empty x4 5)).bind fun bt367 => (spec_ParseTrip.l0 k x0 0 0 bt361.1 bt358.1 bt364.1 bt367.1)) else (none))) else (none))) else (none))) else (none)) else (some (0, 0, 0, 0, 0, false)))) else (none))
def spec_ParseTrip.l0 : Nat → ByteArray → Int → Int → Int → Int → Int → Int → Option (Int × Int × Int × Int × Int × Bool)
 | 0, _, _, _, _, _, _, _ => none
 | k + 1, x0, x7, x357000, x357001, x357002, x357003, x357004 => if x7 ≤ 5 then ((spec_l21Good.f k x7 x357001 x357002 x357003 x357004).bind fun t369 => (if t369 = true then ((spec_l21Text.f k x7 x357001 x357002 x357003 x357004).bind fun t370 => (if t370.toList = x0.toList then (some (x7, x357001, x357002, x357003, x357004, true)) else (spec_ParseTrip.l0 k x0 (wrap64 (x7 + 1)) x7 x357001 x357002 x357003 x357004))) else (spec_ParseTrip.l0 k x0 (wrap64 (x7 + 1)) x7 x357001 x357002 x357003 x357004))) else (some (0, 0, 0, 0, 0, false))
end
def spec_ParseTrip.f (k : Nat) (a0 : ByteArray) : Option (Int × Int × Int × Int × Int × Bool) := (spec_l1Split.f k a0 32).bind fun t349 => (if (a0.size : Int) > 40 then (spec_ParseTrip.j0 k a0 t349 true) else (spec_ParseTrip.j0 k a0 t349 ((t349.length : Int) != 6)))
theorem spec_ParseTrip.mono_l : ∀ k, (∀ y0 y1 y2, LeO (spec_ParseTrip.j0 k y0 y1 y2) (spec_ParseTrip.j0 (k + 1) y0 y1 y2)) ∧ (∀ y0 y1 y2 y3 y4 y5 y6, LeO (spec_ParseTrip.l0 k y0 y1 y2 y3 y4 y5 y6) (spec_ParseTrip.l0 (k + 1) y0 y1 y2 y3 y4 y5 y6))
 | 0 => ⟨fun _ _ _ r h => by simp [spec_ParseTrip.j0] at h, fun _ _ _ _ _ _ _ r h => by simp [spec_ParseTrip.l0] at h⟩
 | k + 1 => by
  obtain ⟨ih0, ih1⟩ := spec_ParseTrip.mono_l k
  refine ⟨?_, ?_⟩
  ·intro y0 y1 y2
   unfold spec_ParseTrip.j0
   repeat' with_reducible first | apply ih0 | apply ih1 | apply spec_l1Read.mono | apply spec_l1Split.mono | apply spec_l21Good.mono | apply spec_l21Text.mono | exact LeO.refl _ | exact LeO.none _ | refine LeO.ite ?_ ?_ | refine LeO.bind ?_ (fun _ => ?_)
  ·intro y0 y1 y2 y3 y4 y5 y6
   unfold spec_ParseTrip.l0
   repeat' with_reducible first | apply ih0 | apply ih1 | apply spec_l1Read.mono | apply spec_l1Split.mono | apply spec_l21Good.mono | apply spec_l21Text.mono | exact LeO.refl _ | exact LeO.none _ | refine LeO.ite ?_ ?_ | refine LeO.bind ?_ (fun _ => ?_)
theorem spec_ParseTrip.mono : ∀ a0 k, LeO (spec_ParseTrip.f k a0) (spec_ParseTrip.f (k + 1) a0) := by
 intro a0 k
 obtain ⟨ih0, ih1⟩ := spec_ParseTrip.mono_l k
 unfold spec_ParseTrip.f
 repeat' with_reducible first | apply ih0 | apply ih1 | apply spec_l1Read.mono | apply spec_l1Split.mono | apply spec_l21Good.mono | apply spec_l21Text.mono | exact LeO.refl _ | exact LeO.none _ | refine LeO.ite ?_ ?_ | refine LeO.bind ?_ (fun _ => ?_)
set_option maxHeartbeats 8000000 in
set_option maxRecDepth 100000 in
theorem spec_ParseTrip.calls (k : Nat) (a0 : ByteArray) (r1 r2 r3 r4 r5 : Int) (r6 : Bool) (w : World) (h : spec_ParseTrip.f k a0 = some (r1, r2, r3, r4, r5, r6)) :
  Calls Tryz.prog 10 #[.string a0] w fun e w' => e = .returned (.tuple #[.agg #[.int .i64 r1, .int .i64 r2, .int .i64 r3, .int .i64 r4, .int .i64 r5], .bool r6]) ∧ Below w.heap.size w w' := by
 have hu25 := Tryz.underlying25
 have HB := Aside0.mk (Below.refl w.heap.size w)
 have H := h
 clear h
 unfold spec_ParseTrip.f at H
 replace H := bA H
 obtain ⟨t349, A2, H⟩ := H
 have HC3 := Aside0.mk H
 clear H
 go_enter Tryz.func10, Tryz.ntmps10
 go_upto_region 2 with (first | ((with_reducible refine gD 2 ?_); (try (refine gate_guard (by rfl) ?_; dsimp only)); refine bxE 2 25 #[.int .i64 0, .int .i64 0, .int .i64 0, .int .i64 0, .int .i64 0] fun gb348 w4 hg hbox hb => ?_; have BK348 := Aside0.mk hbox; have GE348 := gB HB hg; replace HB := uB HB hb; clear hb hbox hg) | ((with_reducible refine gate_callee (f := 31) rfl ?_); refine goesL_ (some 9) rfl rfl Tryz.func31 (by kernel_rfl) rfl #[.string a0, .int .u8 32] rfl argsB ?_; (with_reducible refine (spec_l1Split.calls k a0 32 t349 _ A2.out).mono ?_); rintro e w5 ⟨v350, rfl, ho0, hb⟩; refine ⟨_, rfl, ?_⟩; have HO351 := Aside0.mk (Kd.R_lower ho0 (below_size (bW HB))); replace BK348 := uK BK348 hb; replace HB := uB HB hb; (try clear hb); (try clear hk); (try clear ho0)))
 (try simp only [Act.put, List.setIfInBounds_toArray, List.set_cons_zero, List.set_cons_succ])
 go_cut [17] (fun v17 wc => ∃ (kq : Nat) (x17_2 : Bool), v17 = .bool x17_2 ∧ Aside0 (spec_ParseTrip.j0 kq a0 t349 x17_2 = some (r1, r2, r3, r4, r5, r6)) ∧ Aside0 (kq ≤ k) ∧ Aside0 (Kd.R Kd.string 9 wc w.heap.size (fun _ => True) v350 t349) ∧ Aside0 (wc.heap[gb348]? = some (.cells #[.int .i64 0, .int .i64 0, .int .i64 0, .int .i64 0, .int .i64 0] 25 (0, 0))) ∧ Aside0 (Below w.heap.size w wc))
 case first =>
  have H := HC3.out
  clear HC3
  replace H := ifD H
  rcases H with ⟨H, c6, c6b0⟩ | ⟨H, c6, c6b0⟩
  ·have c6b1 : decide (40 < a0.size) = true := decide_eq_true (by omega)
   clear c6
   (first | rw [c6b0] | rw [c6b1] | (simp only [i64_w, i32_w]; rw [c6b0]) | skip)
   have H' := Aside0.mk H
   clear H
   go_wp2
   go_meet
   case rel => exact ⟨_, (true), rB, H', leB, ⟨upR HO351.out⟩, (aK BK348), (aB HB)⟩
  ·have c6b1 : decide (40 < a0.size) = false := decide_eq_false (by omega)
   clear c6
   (first | rw [c6b0] | rw [c6b1] | (simp only [i64_w, i32_w]; rw [c6b0]) | skip)
   have H' := Aside0.mk H
   clear H
   obtain ⟨Ao7, co7, eo7⟩ := Kd.R_slice HO351.out
   subst eo7
   go_wp2
   go_meet
   case rel => exact ⟨_, (((t349.length : Int) != 6)), rB, H', leB, ⟨upR HO351.out⟩, (aK BK348), (aB HB)⟩
 case rest =>
  clear HC3
  obtain ⟨kq, x17_2, rfl, HA, HJ2, HO_4, BK348, HB⟩ := hcut
  cases kq with
  | zero => exact absurd HA.out (by simp [spec_ParseTrip.j0])
  | succ kj2 =>
   have H := HA.out
   clear HA
   simp only [spec_ParseTrip.j0] at H
   rcases Bool.eq_false_or_eq_true x17_2 with rfl | rfl
   ·replace H := iT rfl H
    simp only [Option.some.injEq, Prod.mk.injEq] at H
    obtain ⟨rfl, rfl, rfl, rfl, rfl, rfl⟩ := H
    have ⟨hcz9_0, hcz9_1, hcz9_2, hcz9_3, hcz9_4, hfz9_0⟩ := cz5 BK348
    go_wp2
    refine bodyPost_ret (results_ct rfl _ _ gb348 25 #[.int .i64 0, .int .i64 0, .int .i64 0, .int .i64 0, .int .i64 0] (0, 0) _ rfl (by exact pW BK348) Tryz.underlying25 rfl (by kernel_rfl)) rfl ?_
    exact ⟨eB, (bW HB)⟩
   ·replace H := iF (by decide) H
    by_cases c10 : 1 < (t349.length : Int)
    ·rw [if_pos c10] at H
     have c10b0 : decide (1 < (t349.length : Int)) = true := decide_eq_true c10
     have c10b1 : decide (1 < t349.length) = true := decide_eq_true (by omega)
     clear c10
     replace H := bA H
     obtain ⟨t353, A11, H⟩ := H
     replace H := ifI H
     rcases H with ⟨H, -, c12b0, c12b1⟩ | ⟨H, c12, c12b0, c12b1⟩
     ·by_cases c13 : 0 < (t353.length : Int)
      ·rw [if_pos c13] at H
       have c13b0 : decide (0 < (t353.length : Int)) = true := decide_eq_true c13
       have c13b1 : decide (0 < t353.length) = true := decide_eq_true (by omega)
       clear c13
       replace H := Option.bind_eq_some_iff.mp H
       obtain ⟨⟨t358, t359⟩, A140, H⟩ := H
       replace H : (if 1 < (t353.length : Int) then ((spec_l1Read.f kj2 (rdOf ByteArray.empty t353 1)).bind fun bt361 => (if 3 < (t349.length : Int) then ((spec_l1Read.f kj2 (rdOf ByteArray.empty t349 3)).bind fun bt364 => (if 5 < (t349.length : Int) then ((spec_l1Read.f kj2 (rdOf ByteArray.empty t349 5)).bind fun bt367 => (spec_ParseTrip.l0 kj2 a0 0 0 bt361.1 t358 bt364.1 bt367.1)) else (none))) else (none))) else (none)) = some (r1, r2, r3, r4, r5, r6) := H
       have A14 := Aside0.mk A140
       clear A140
       by_cases c15 : 1 < (t353.length : Int)
       ·rw [if_pos c15] at H
        have c15b0 : decide (1 < (t353.length : Int)) = true := decide_eq_true c15
        have c15b1 : decide (1 < t353.length) = true := decide_eq_true (by omega)
        clear c15
        replace H := Option.bind_eq_some_iff.mp H
        obtain ⟨⟨t361, t362⟩, A160, H⟩ := H
        replace H : (if 3 < (t349.length : Int) then ((spec_l1Read.f kj2 (rdOf ByteArray.empty t349 3)).bind fun bt364 => (if 5 < (t349.length : Int) then ((spec_l1Read.f kj2 (rdOf ByteArray.empty t349 5)).bind fun bt367 => (spec_ParseTrip.l0 kj2 a0 0 0 t361 t358 bt364.1 bt367.1)) else (none))) else (none)) = some (r1, r2, r3, r4, r5, r6) := H
        have A16 := Aside0.mk A160
        clear A160
        by_cases c17 : 3 < (t349.length : Int)
        ·rw [if_pos c17] at H
         have c17b0 : decide (3 < (t349.length : Int)) = true := decide_eq_true c17
         have c17b1 : decide (3 < t349.length) = true := decide_eq_true (by omega)
         clear c17
         replace H := Option.bind_eq_some_iff.mp H
         obtain ⟨⟨t364, t365⟩, A180, H⟩ := H
         replace H : (if 5 < (t349.length : Int) then ((spec_l1Read.f kj2 (rdOf ByteArray.empty t349 5)).bind fun bt367 => (spec_ParseTrip.l0 kj2 a0 0 0 t361 t358 t364 bt367.1)) else (none)) = some (r1, r2, r3, r4, r5, r6) := H
         have A18 := Aside0.mk A180
         clear A180
         by_cases c19 : 5 < (t349.length : Int)
         ·rw [if_pos c19] at H
          have c19b0 : decide (5 < (t349.length : Int)) = true := decide_eq_true c19
          have c19b1 : decide (5 < t349.length) = true := decide_eq_true (by omega)
          clear c19
          replace H := Option.bind_eq_some_iff.mp H
          obtain ⟨⟨t367, t368⟩, A200, H⟩ := H
          replace H : (spec_ParseTrip.l0 kj2 a0 0 0 t361 t358 t364 t367) = some (r1, r2, r3, r4, r5, r6) := H
          have A20 := Aside0.mk A200
          clear A200
          have H' := Aside0.mk H
          clear H
          obtain ⟨Ao21, co21, eo21⟩ := Kd.R_slice HO_4.out
          subst eo21
          have p352 : 0 ≤ (1 : Int) := (by omega)
          have q352 : 1 < (t349.length : Int) := of_decide_eq_true asmB
          obtain ⟨ad352, e352, hx352_0⟩ := Kd.at_string (Kd.R_reads' HO_4.out).2.2 1 p352 q352
          cases e352
          (try simp only [show (1 : Int).toNat = 1 from rfl, Nat.reduceMul, Nat.reduceEqDiff, Go.Addr.add, ↓reduceIte] at hx352_0)
          have qi352 : (1 < t349.length) = True := eq_true (by omega)
          (try rw [show ((1 : Int)).toNat = 1 from rfl] at hx352_0)
          replace p352 := eq_true p352
          replace q352 := eq_true q352
          go_wp2_with (first | ((with_reducible refine gate_callee (f := 31) rfl ?_); refine goesL_ (some 22) rfl rfl Tryz.func31 (by kernel_rfl) rfl #[.string (rdOf ByteArray.empty t349 1), .int .u8 47] rfl argsB ?_; (with_reducible refine (spec_l1Split.calls kj2 (rdOf ByteArray.empty t349 1) 47 t353 _ A11.out).mono ?_); rintro e w22 ⟨v354, rfl, ho0, hb⟩; refine ⟨_, rfl, ?_⟩; have HO355 := Aside0.mk (Kd.R_lower (Kd.R_new' ho0 (Kd.R_lt (upR HO_4.out))) (below_size (bW HB))); replace HO_4 := Aside0.mk (Kd.R_elder' (upR HO_4.out) (Kd.R_base ho0) hb); replace BK348 := uK BK348 hb; replace HB := uB HB hb; (try clear hb); (try clear hk); (try clear ho0); obtain ⟨Ao23, co23, eo23⟩ := Kd.R_slice HO355.out; subst eo23) | ((with_reducible refine gD 6 ?_); (try (refine gate_guard (by rfl) ?_; dsimp only)); refine bxE 6 25 #[.int .i64 0, .int .i64 0, .int .i64 0, .int .i64 0, .int .i64 0] fun gb356 w24 hg hbox hb => ?_; have BK356 := Aside0.mk hbox; have GE356 := gB HB hg; have ⟨NB348_356, NB356_348⟩ := nB BK348 hg; replace HO_4 := uR HO_4 hb; replace HO355 := uR HO355 hb; replace BK348 := uK BK348 hb; replace HB := uB HB hb; clear hb hbox hg; have hnb25 := NB356_348.out; have hnc25 := NB348_356.out; have ⟨hcz26_0, hcz26_1, hcz26_2, hcz26_3, hcz26_4, hfz26_0⟩ := cz5 BK356; have p357 : 0 ≤ (0 : Int) := (by omega); have q357 : 0 < (t353.length : Int) := of_decide_eq_true asmB; obtain ⟨ad357, e357, hx357_0⟩ := Kd.at_string (Kd.R_reads' HO355.out).2.2 0 p357 q357; cases e357; have qi357 : (0 < t353.length) = True := eq_true (by omega); (try rw [show ((0 : Int)).toNat = 0 from rfl] at hx357_0); (try rw [Addr.add_zero'] at hx357_0); have hn357_0 : ad357.block ≠ gb356 := Kd.own_blk (Kd.R_ne HO355.out BK356.out (by decide)); have hn357_1 : ad357.block ≠ gb356 := Kd.own_blk (Kd.R_ne HO355.out BK356.out (by decide)); have hn357_2 : ad357.block ≠ gb356 := Kd.own_blk (Kd.R_ne HO355.out BK356.out (by decide)); have hn357_3 : ad357.block ≠ gb356 := Kd.own_blk (Kd.R_ne HO355.out BK356.out (by decide)); have hn357_4 : ad357.block ≠ gb356 := Kd.own_blk (Kd.R_ne HO355.out BK356.out (by decide)); replace hx357_0 := (cell_far (p := ⟨gb356, 0, none⟩) (by first | (rw [add_block]; exact hn357_0) | (show (Addr.add _ _).block ≠ _; rw [add_block]; exact hn357_0) | exact hn357_0) (.int .i64 0)).trans hx357_0; replace hx357_0 := (cell_far (p := ⟨gb356, 1, none⟩) (by first | (rw [add_block]; exact hn357_1) | (show (Addr.add _ _).block ≠ _; rw [add_block]; exact hn357_1) | exact hn357_1) (.int .i64 0)).trans hx357_0; replace hx357_0 := (cell_far (p := ⟨gb356, 2, none⟩) (by first | (rw [add_block]; exact hn357_2) | (show (Addr.add _ _).block ≠ _; rw [add_block]; exact hn357_2) | exact hn357_2) (.int .i64 0)).trans hx357_0; replace hx357_0 := (cell_far (p := ⟨gb356, 3, none⟩) (by first | (rw [add_block]; exact hn357_3) | (show (Addr.add _ _).block ≠ _; rw [add_block]; exact hn357_3) | exact hn357_3) (.int .i64 0)).trans hx357_0; replace hx357_0 := (cell_far (p := ⟨gb356, 4, none⟩) (by first | (rw [add_block]; exact hn357_4) | (show (Addr.add _ _).block ≠ _; rw [add_block]; exact hn357_4) | exact hn357_4) (.int .i64 0)).trans hx357_0; clear hn357_0; clear hn357_1; clear hn357_2; clear hn357_3; clear hn357_4; replace p357 := eq_true p357; replace q357 := eq_true q357) | ((with_reducible refine gC 32 ?_); refine lA (some 32) Tryz.func32 (spec_l1Read.calls kj2 (rdOf ByteArray.empty t353 0) t358 t359 _ A14.out) ?_; intro w27 hb; replace HO_4 := Aside0.mk (Kd.R_below (by (with_reducible repeat (first | apply Kd.R_alloc | apply Kd.R_drewN | apply Kd.R_drew)); exact (Kd.R_mono (Kd.R_far (p := ⟨gb356, 4, none⟩) (Kd.R_far (p := ⟨gb356, 3, none⟩) (Kd.R_far (p := ⟨gb356, 2, none⟩) (Kd.R_far (p := ⟨gb356, 1, none⟩) (Kd.R_far (p := ⟨gb356, 0, none⟩) (Kd.R_types HO_4.out BK356.out (by decide)) (fun _ hk => hk.2) (.int .i64 0)) (fun _ hk => hk.2) (.int .i64 0)) (fun _ hk => hk.2) (.int .i64 0)) (fun _ hk => hk.2) (.int .i64 0)) (fun _ hk => hk.2) (.int .i64 0)) (fun _ h_ => h_.1))) hb); replace HO355 := Aside0.mk (Kd.R_below (by (with_reducible repeat (first | apply Kd.R_alloc | apply Kd.R_drewN | apply Kd.R_drew)); exact (Kd.R_mono (Kd.R_far (p := ⟨gb356, 4, none⟩) (Kd.R_far (p := ⟨gb356, 3, none⟩) (Kd.R_far (p := ⟨gb356, 2, none⟩) (Kd.R_far (p := ⟨gb356, 1, none⟩) (Kd.R_far (p := ⟨gb356, 0, none⟩) (Kd.R_types HO355.out BK356.out (by decide)) (fun _ hk => hk.2) (.int .i64 0)) (fun _ hk => hk.2) (.int .i64 0)) (fun _ hk => hk.2) (.int .i64 0)) (fun _ hk => hk.2) (.int .i64 0)) (fun _ hk => hk.2) (.int .i64 0)) (fun _ h_ => h_.1))) hb); replace BK348 := uQ BK348 hb #[.int .i64 0, .int .i64 0, .int .i64 0, .int .i64 0, .int .i64 0]; replace BK356 := uQ BK356 hb #[.int .i64 0, .int .i64 0, .int .i64 0, .int .i64 0, .int .i64 0]; replace HB := uB HB hb; (try clear hb); (try clear hk); have ⟨hcz28_0, hcz28_1, hcz28_2, hcz28_3, hcz28_4, hfz28_0⟩ := cz5 BK356; have p360 : 0 ≤ (1 : Int) := (by omega); have q360 : 1 < (t353.length : Int) := of_decide_eq_true asmB; obtain ⟨ad360, e360, hx360_0⟩ := Kd.at_string (Kd.R_reads' HO355.out).2.2 1 p360 q360; obtain rfl : ad357 = ad360 := (by injection e360); (try simp only [show (1 : Int).toNat = 1 from rfl, Nat.reduceMul, Nat.reduceEqDiff, Go.Addr.add, ↓reduceIte] at hx360_0); have qi360 : (1 < t353.length) = True := eq_true (by omega); (try rw [show ((1 : Int)).toNat = 1 from rfl] at hx360_0); have hn360_0 : ad357.block ≠ gb356 := Kd.own_blk (Kd.R_ne HO355.out BK356.out (by decide)); replace hx360_0 := (cell_far (p := ⟨gb356, 2, none⟩) (by first | (rw [add_block]; exact hn360_0) | (show (Addr.add _ _).block ≠ _; rw [add_block]; exact hn360_0) | exact hn360_0) (.int .i64 t358)).trans hx360_0; clear hn360_0; replace p360 := eq_true p360; replace q360 := eq_true q360) | ((with_reducible refine gC 32 ?_); refine lA (some 40) Tryz.func32 (spec_l1Read.calls kj2 (rdOf ByteArray.empty t353 1) t361 t362 _ A16.out) ?_; intro w29 hb; replace HO_4 := Aside0.mk (Kd.R_below (by (with_reducible repeat (first | apply Kd.R_alloc | apply Kd.R_drewN | apply Kd.R_drew)); exact (Kd.R_mono (Kd.R_far (p := ⟨gb356, 2, none⟩) (Kd.R_types HO_4.out BK356.out (by decide)) (fun _ hk => hk.2) (.int .i64 t358)) (fun _ h_ => h_.1))) hb); replace HO355 := Aside0.mk (Kd.R_below (by (with_reducible repeat (first | apply Kd.R_alloc | apply Kd.R_drewN | apply Kd.R_drew)); exact (Kd.R_mono (Kd.R_far (p := ⟨gb356, 2, none⟩) (Kd.R_types HO355.out BK356.out (by decide)) (fun _ hk => hk.2) (.int .i64 t358)) (fun _ h_ => h_.1))) hb); replace BK348 := uQ BK348 hb #[.int .i64 0, .int .i64 0, .int .i64 0, .int .i64 0, .int .i64 0]; replace BK356 := uQ BK356 hb #[.int .i64 0, .int .i64 0, .int .i64 t358, .int .i64 0, .int .i64 0]; replace HB := uB HB hb; (try clear hb); (try clear hk); have ⟨hcz30_0, hcz30_1, hcz30_2, hcz30_3, hcz30_4, hfz30_0⟩ := cz5 BK356; have p363 : 0 ≤ (3 : Int) := (by omega); have q363 : 3 < (t349.length : Int) := of_decide_eq_true asmB; obtain ⟨ad363, e363, hx363_0⟩ := Kd.at_string (Kd.R_reads' HO_4.out).2.2 3 p363 q363; obtain rfl : ad352 = ad363 := (by injection e363); (try simp only [show (3 : Int).toNat = 3 from rfl, Nat.reduceMul, Nat.reduceEqDiff, Go.Addr.add, ↓reduceIte] at hx363_0); have qi363 : (3 < t349.length) = True := eq_true (by omega); (try rw [show ((3 : Int)).toNat = 3 from rfl] at hx363_0); have hn363_0 : ad352.block ≠ gb356 := Kd.own_blk (Kd.R_ne HO_4.out BK356.out (by decide)); replace hx363_0 := (cell_far (p := ⟨gb356, 1, none⟩) (by first | (rw [add_block]; exact hn363_0) | (show (Addr.add _ _).block ≠ _; rw [add_block]; exact hn363_0) | exact hn363_0) (.int .i64 t361)).trans hx363_0; clear hn363_0; replace p363 := eq_true p363; replace q363 := eq_true q363) | ((with_reducible refine gC 32 ?_); refine lA (some 48) Tryz.func32 (spec_l1Read.calls kj2 (rdOf ByteArray.empty t349 3) t364 t365 _ A18.out) ?_; intro w31 hb; replace HO_4 := Aside0.mk (Kd.R_below (by (with_reducible repeat (first | apply Kd.R_alloc | apply Kd.R_drewN | apply Kd.R_drew)); exact (Kd.R_mono (Kd.R_far (p := ⟨gb356, 1, none⟩) (Kd.R_types HO_4.out BK356.out (by decide)) (fun _ hk => hk.2) (.int .i64 t361)) (fun _ h_ => h_.1))) hb); replace HO355 := Aside0.mk (Kd.R_below (by (with_reducible repeat (first | apply Kd.R_alloc | apply Kd.R_drewN | apply Kd.R_drew)); exact (Kd.R_mono (Kd.R_far (p := ⟨gb356, 1, none⟩) (Kd.R_types HO355.out BK356.out (by decide)) (fun _ hk => hk.2) (.int .i64 t361)) (fun _ h_ => h_.1))) hb); replace BK348 := uQ BK348 hb #[.int .i64 0, .int .i64 0, .int .i64 0, .int .i64 0, .int .i64 0]; replace BK356 := uQ BK356 hb #[.int .i64 0, .int .i64 t361, .int .i64 t358, .int .i64 0, .int .i64 0]; replace HB := uB HB hb; (try clear hb); (try clear hk); have ⟨hcz32_0, hcz32_1, hcz32_2, hcz32_3, hcz32_4, hfz32_0⟩ := cz5 BK356; have p366 : 0 ≤ (5 : Int) := (by omega); have q366 : 5 < (t349.length : Int) := of_decide_eq_true asmB; obtain ⟨ad366, e366, hx366_0⟩ := Kd.at_string (Kd.R_reads' HO_4.out).2.2 5 p366 q366; obtain rfl : ad352 = ad366 := (by injection e366); (try simp only [show (5 : Int).toNat = 5 from rfl, Nat.reduceMul, Nat.reduceEqDiff, Go.Addr.add, ↓reduceIte] at hx366_0); have qi366 : (5 < t349.length) = True := eq_true (by omega); (try rw [show ((5 : Int)).toNat = 5 from rfl] at hx366_0); have hn366_0 : ad352.block ≠ gb356 := Kd.own_blk (Kd.R_ne HO_4.out BK356.out (by decide)); replace hx366_0 := (cell_far (p := ⟨gb356, 3, none⟩) (by first | (rw [add_block]; exact hn366_0) | (show (Addr.add _ _).block ≠ _; rw [add_block]; exact hn366_0) | exact hn366_0) (.int .i64 t364)).trans hx366_0; clear hn366_0; replace p366 := eq_true p366; replace q366 := eq_true q366) | ((with_reducible refine gC 32 ?_); refine lA (some 56) Tryz.func32 (spec_l1Read.calls kj2 (rdOf ByteArray.empty t349 5) t367 t368 _ A20.out) ?_; intro w33 hb; replace HO_4 := Aside0.mk (Kd.R_below (by (with_reducible repeat (first | apply Kd.R_alloc | apply Kd.R_drewN | apply Kd.R_drew)); exact (Kd.R_mono (Kd.R_far (p := ⟨gb356, 3, none⟩) (Kd.R_types HO_4.out BK356.out (by decide)) (fun _ hk => hk.2) (.int .i64 t364)) (fun _ h_ => h_.1))) hb); replace HO355 := Aside0.mk (Kd.R_below (by (with_reducible repeat (first | apply Kd.R_alloc | apply Kd.R_drewN | apply Kd.R_drew)); exact (Kd.R_mono (Kd.R_far (p := ⟨gb356, 3, none⟩) (Kd.R_types HO355.out BK356.out (by decide)) (fun _ hk => hk.2) (.int .i64 t364)) (fun _ h_ => h_.1))) hb); replace BK348 := uQ BK348 hb #[.int .i64 0, .int .i64 0, .int .i64 0, .int .i64 0, .int .i64 0]; replace BK356 := uQ BK356 hb #[.int .i64 0, .int .i64 t361, .int .i64 t358, .int .i64 t364, .int .i64 0]; replace HB := uB HB hb; (try clear hb); (try clear hk); have ⟨hcz34_0, hcz34_1, hcz34_2, hcz34_3, hcz34_4, hfz34_0⟩ := cz5 BK356))
          (try simp only [Act.put, List.setIfInBounds_toArray, List.set_cons_zero, List.set_cons_succ])
          go_loopg [7] kj2 (fun kq v7 w' => ∃ (x7_2 x349000_2 x349001_2 x349002_2 x349003_2 x349004_2 x357000_2 : Int), v7 = .int .i64 x7_2 ∧ Aside0 (spec_ParseTrip.l0 kq a0 x7_2 x357000_2 t361 t358 t364 t367 = some (r1, r2, r3, r4, r5, r6)) ∧ Aside0 (kq ≤ kj2) ∧ Aside0 (w'.heap[gb348]? = some (.cells #[.int .i64 x349000_2, .int .i64 x349001_2, .int .i64 x349002_2, .int .i64 x349003_2, .int .i64 x349004_2] 25 (0, 0))) ∧ Aside0 (w'.heap[gb356]? = some (.cells #[.int .i64 x357000_2, .int .i64 t361, .int .i64 t358, .int .i64 t364, .int .i64 t367] 25 (0, 0))) ∧ Aside0 (Below w.heap.size w w'))
          case atStart => exact ⟨(0), (0), (0), (0), (0), (0), (0), rB, H', ⟨Nat.le_refl _⟩, ⟨by exact pW BK348⟩, ⟨by exact pW BK356⟩, (aB HB)⟩
          case round =>
           clear H'
           try clear c10
           try clear c10b0
           try clear c10b1
           try clear c12
           try clear c12b0
           try clear c12b1
           try clear c13
           try clear c13b0
           try clear c13b1
           try clear c15
           try clear c15b0
           try clear c15b1
           try clear c17
           try clear c17b0
           try clear c17b1
           try clear c19
           try clear c19b0
           try clear c19b1
           try clear hcz26_0
           try clear hcz26_1
           try clear hcz26_2
           try clear hcz26_3
           try clear hcz26_4
           try clear hcz28_0
           try clear hcz28_1
           try clear hcz28_2
           try clear hcz28_3
           try clear hcz28_4
           try clear hcz30_0
           try clear hcz30_1
           try clear hcz30_2
           try clear hcz30_3
           try clear hcz30_4
           try clear hcz32_0
           try clear hcz32_1
           try clear hcz32_2
           try clear hcz32_3
           try clear hcz32_4
           try clear hcz34_0
           try clear hcz34_1
           try clear hcz34_2
           try clear hcz34_3
           try clear hcz34_4
           try clear hfz26_0
           try clear hfz28_0
           try clear hfz30_0
           try clear hfz32_0
           try clear hfz34_0
           try clear hx352_0
           try clear hx357_0
           try clear hx360_0
           try clear hx363_0
           try clear hx366_0
           try clear p352
           try clear p357
           try clear p360
           try clear p363
           try clear p366
           try clear q352
           try clear q357
           try clear q360
           try clear q363
           try clear q366
           obtain ⟨x7_2, x349000_2, x349001_2, x349002_2, x349003_2, x349004_2, x357000_2, rfl, HA, HK2, BK348, BK356, HB⟩ := hrel
           cases gk with
           | zero => exact absurd HA.out (by simp [spec_ParseTrip.l0])
           | succ k2 =>
            have H := HA.out
            clear HA
            simp only [spec_ParseTrip.l0] at H
            replace H := ifD H
            rcases H with ⟨H, -, c35b0⟩ | ⟨H, -, c35b0⟩
            ·replace H := bA H
             obtain ⟨t369, A36, H⟩ := H
             rcases Bool.eq_false_or_eq_true t369 with rfl | rfl
             ·replace H := iT rfl H
              replace H := bA H
              obtain ⟨t370, A38, H⟩ := H
              replace H := ifI H
              rcases H with ⟨H, -, c39b0, c39b1⟩ | ⟨H, c39, c39b0, c39b1⟩
              ·simp only [Option.some.injEq, Prod.mk.injEq] at H
               obtain ⟨rfl, rfl, rfl, rfl, rfl, rfl⟩ := H
               have hnb40 := NB356_348.out
               have hnc40 := NB348_356.out
               have ⟨hcz41_0, hcz41_1, hcz41_2, hcz41_3, hcz41_4, hfz41_0⟩ := cz5 BK356
               go_wp2_with (first | ((with_reducible refine gC 26 ?_); refine lA (some 67) Tryz.func26 (spec_l21Good.calls k2 x7_2 t361 t358 t364 t367 true _ A36.out) ?_; intro w42 hb; replace BK348 := uQ BK348 hb #[.int .i64 x349000_2, .int .i64 x349001_2, .int .i64 x349002_2, .int .i64 x349003_2, .int .i64 x349004_2]; replace BK356 := uQ BK356 hb #[.int .i64 x7_2, .int .i64 t361, .int .i64 t358, .int .i64 t364, .int .i64 t367]; replace HB := uB HB hb; (try clear hb); (try clear hk); have ⟨hcz43_0, hcz43_1, hcz43_2, hcz43_3, hcz43_4, hfz43_0⟩ := cz5 BK356) | (go_at_call 27; (with_reducible refine (spec_l21Text.calls k2 x7_2 t361 t358 t364 t367 t370 _ A38.out).mono ?_); rintro e w44 ⟨rfl, hb⟩; replace BK348 := uK BK348 hb; replace BK356 := uK BK356 hb; replace HB := uB HB hb; (try clear hb); (try clear hk); have ⟨hcz45_0, hcz45_1, hcz45_2, hcz45_3, hcz45_4, hfz45_0⟩ := cz5 BK356; have ⟨hcz46_0, hcz46_1, hcz46_2, hcz46_3, hcz46_4, hfz46_0⟩ := cz5 BK348))
               refine bodyPost_ret (results_ct rfl _ _ gb348 25 #[.int .i64 x7_2, .int .i64 t361, .int .i64 t358, .int .i64 t364, .int .i64 t367] (0, 0) _ rfl (by exact pW BK348) Tryz.underlying25 rfl (by kernel_rfl)) rfl ?_
               exact ⟨eB, (bW HB)⟩
              ·have H' := Aside0.mk H
               clear H
               have hnb47 := NB356_348.out
               have hnc47 := NB348_356.out
               have ⟨hcz48_0, hcz48_1, hcz48_2, hcz48_3, hcz48_4, hfz48_0⟩ := cz5 BK356
               go_wp2_with (first | ((with_reducible refine gC 26 ?_); refine lA (some 67) Tryz.func26 (spec_l21Good.calls k2 x7_2 t361 t358 t364 t367 true _ A36.out) ?_; intro w49 hb; replace BK348 := uQ BK348 hb #[.int .i64 x349000_2, .int .i64 x349001_2, .int .i64 x349002_2, .int .i64 x349003_2, .int .i64 x349004_2]; replace BK356 := uQ BK356 hb #[.int .i64 x7_2, .int .i64 t361, .int .i64 t358, .int .i64 t364, .int .i64 t367]; replace HB := uB HB hb; (try clear hb); (try clear hk); have ⟨hcz50_0, hcz50_1, hcz50_2, hcz50_3, hcz50_4, hfz50_0⟩ := cz5 BK356) | (go_at_call 27; (with_reducible refine (spec_l21Text.calls k2 x7_2 t361 t358 t364 t367 t370 _ A38.out).mono ?_); rintro e w51 ⟨rfl, hb⟩; replace BK348 := uK BK348 hb; replace BK356 := uK BK356 hb; replace HB := uB HB hb; (try clear hb); (try clear hk)))
               go_roundg k2
               case measure => have := HJ2.out; have := HK2.out; omega
               case rel => exact ⟨(wrap64 (x7_2 + 1)), (x349000_2), (x349001_2), (x349002_2), (x349003_2), (x349004_2), (x7_2), rB, H', ⟨by have := HJ2.out; have := HK2.out; omega⟩, (aK BK348), (aK BK356), (aB HB)⟩
             ·replace H := iF (by decide) H
              have H' := Aside0.mk H
              clear H
              have hnb52 := NB356_348.out
              have hnc52 := NB348_356.out
              have ⟨hcz53_0, hcz53_1, hcz53_2, hcz53_3, hcz53_4, hfz53_0⟩ := cz5 BK356
              go_wp2_with (first | ((with_reducible refine gC 26 ?_); refine lA (some 67) Tryz.func26 (spec_l21Good.calls k2 x7_2 t361 t358 t364 t367 false _ A36.out) ?_; intro w54 hb; replace BK348 := uQ BK348 hb #[.int .i64 x349000_2, .int .i64 x349001_2, .int .i64 x349002_2, .int .i64 x349003_2, .int .i64 x349004_2]; replace BK356 := uQ BK356 hb #[.int .i64 x7_2, .int .i64 t361, .int .i64 t358, .int .i64 t364, .int .i64 t367]; replace HB := uB HB hb; (try clear hb); (try clear hk)))
              go_roundg k2
              case measure => have := HJ2.out; have := HK2.out; omega
              case rel => exact ⟨(wrap64 (x7_2 + 1)), (x349000_2), (x349001_2), (x349002_2), (x349003_2), (x349004_2), (x7_2), rB, H', ⟨by have := HJ2.out; have := HK2.out; omega⟩, (aK BK348), (aK BK356), (aB HB)⟩
            ·simp only [Option.some.injEq, Prod.mk.injEq] at H
             obtain ⟨rfl, rfl, rfl, rfl, rfl, rfl⟩ := H
             have hnb55 := NB348_356.out
             have hnc55 := NB356_348.out
             have ⟨hcz56_0, hcz56_1, hcz56_2, hcz56_3, hcz56_4, hfz56_0⟩ := cz5 BK348
             go_wp2
             refine bodyPost_ret (results_ct rfl _ _ gb348 25 #[.int .i64 0, .int .i64 0, .int .i64 0, .int .i64 0, .int .i64 0] (0, 0) _ rfl (by exact pW BK348) Tryz.underlying25 rfl (by kernel_rfl)) rfl ?_
             exact ⟨eB, (bW HB)⟩
         ·rw [if_neg c19] at H
          exact absurd H (by simp)
        ·rw [if_neg c17] at H
         exact absurd H (by simp)
       ·rw [if_neg c15] at H
        exact absurd H (by simp)
      ·rw [if_neg c13] at H
       exact absurd H (by simp)
     ·simp only [Option.some.injEq, Prod.mk.injEq] at H
      obtain ⟨rfl, rfl, rfl, rfl, rfl, rfl⟩ := H
      obtain ⟨Ao57, co57, eo57⟩ := Kd.R_slice HO_4.out
      subst eo57
      have p352 : 0 ≤ (1 : Int) := (by omega)
      have q352 : 1 < (t349.length : Int) := of_decide_eq_true asmB
      obtain ⟨ad352, e352, hx352_0⟩ := Kd.at_string (Kd.R_reads' HO_4.out).2.2 1 p352 q352
      cases e352
      (try simp only [show (1 : Int).toNat = 1 from rfl, Nat.reduceMul, Nat.reduceEqDiff, Go.Addr.add, ↓reduceIte] at hx352_0)
      have qi352 : (1 < t349.length) = True := eq_true (by omega)
      (try rw [show ((1 : Int)).toNat = 1 from rfl] at hx352_0)
      replace p352 := eq_true p352
      replace q352 := eq_true q352
      go_wp2_with (first | ((with_reducible refine gate_callee (f := 31) rfl ?_); refine goesL_ (some 22) rfl rfl Tryz.func31 (by kernel_rfl) rfl #[.string (rdOf ByteArray.empty t349 1), .int .u8 47] rfl argsB ?_; (with_reducible refine (spec_l1Split.calls kj2 (rdOf ByteArray.empty t349 1) 47 t353 _ A11.out).mono ?_); rintro e w58 ⟨v354, rfl, ho0, hb⟩; refine ⟨_, rfl, ?_⟩; have HO355 := Aside0.mk (Kd.R_lower (Kd.R_new' ho0 (Kd.R_lt (upR HO_4.out))) (below_size (bW HB))); replace HO_4 := Aside0.mk (Kd.R_elder' (upR HO_4.out) (Kd.R_base ho0) hb); replace BK348 := uK BK348 hb; replace HB := uB HB hb; (try clear hb); (try clear hk); (try clear ho0); obtain ⟨Ao59, co59, eo59⟩ := Kd.R_slice HO355.out; subst eo59; have ⟨hcz60_0, hcz60_1, hcz60_2, hcz60_3, hcz60_4, hfz60_0⟩ := cz5 BK348))
      refine bodyPost_ret (results_ct rfl _ _ gb348 25 #[.int .i64 0, .int .i64 0, .int .i64 0, .int .i64 0, .int .i64 0] (0, 0) _ rfl (by exact pW BK348) Tryz.underlying25 rfl (by kernel_rfl)) rfl ?_
      exact ⟨eB, (bW HB)⟩
    ·rw [if_neg c10] at H
     exact absurd H (by simp)

/-! ### spec_l1Cur_trips: function 33 -/
def spec_l1Cur_trips.l0 : Nat → List (S25) → Int → List Int → Int → Int → Option ((List (S25)) × Int × Int)
 | 0, _, _, _, _, _ => none
 | k + 1, x3, x4, x1000, x1001, x1002 => if x4 > 0 then ((spec_l1Cur_trip.f k x1000 x1001 x1002).bind fun bt377 => (if x3.length < 3518437208883 then (spec_l1Cur_trips.l0 k (x3 ++ [(⟨bt377.1, bt377.2.1, bt377.2.2.1, bt377.2.2.2.1, bt377.2.2.2.2.1⟩ : S25)]) (wrap64 (x4 - 1)) x1000 bt377.2.2.2.2.2.1 bt377.2.2.2.2.2.2) else (none))) else (some (x3, x1001, x1002))
def spec_l1Cur_trips.f (k : Nat) (s0_0 : List Int) (s0_1 s0_2 : Int) : Option ((List (S25)) × Int × Int) := (spec_l1Cur_pick.f s0_0 s0_1 s0_2 5).bind fun bt374 => (spec_l1Cur_trips.l0 k (([] : List (S25))) bt374.1 s0_0 bt374.2.1 bt374.2.2)
theorem spec_l1Cur_trips.mono_l : ∀ k, (∀ y0 y1 y2 y3 y4, LeO (spec_l1Cur_trips.l0 k y0 y1 y2 y3 y4) (spec_l1Cur_trips.l0 (k + 1) y0 y1 y2 y3 y4))
 | 0 => fun _ _ _ _ _ r h => by simp [spec_l1Cur_trips.l0] at h
 | k + 1 => by
  have ih0 := spec_l1Cur_trips.mono_l k
  ·intro y0 y1 y2 y3 y4
   unfold spec_l1Cur_trips.l0
   repeat' with_reducible first | apply ih0 | apply spec_l1Cur_trip.mono | exact LeO.refl _ | exact LeO.none _ | refine LeO.ite ?_ ?_ | refine LeO.bind ?_ (fun _ => ?_)
theorem spec_l1Cur_trips.mono : ∀ a0 a1 a2 k, LeO (spec_l1Cur_trips.f k a0 a1 a2) (spec_l1Cur_trips.f (k + 1) a0 a1 a2) := by
 intro a0 a1 a2 k
 have ih0 := spec_l1Cur_trips.mono_l k
 unfold spec_l1Cur_trips.f
 repeat' with_reducible first | apply ih0 | apply spec_l1Cur_trip.mono | exact LeO.refl _ | exact LeO.none _ | refine LeO.ite ?_ ?_ | refine LeO.bind ?_ (fun _ => ?_)
set_option maxHeartbeats 8000000 in
set_option maxRecDepth 100000 in
theorem spec_l1Cur_trips.calls (k g : Nat) (s0_0 : List Int) (s0_1 s0_2 : Int) (r1 : List (S25)) (r2 r3 : Int) (w0 w : World) (hI : IsS54 w0 w g s0_0 s0_1 s0_2) (hB : Below w0.heap.size w0 w) (h : spec_l1Cur_trips.f k s0_0 s0_1 s0_2 = some (r1, r2, r3)) :
  Calls Tryz.prog 33 #[.pointer (some ⟨g, 0, none⟩)] w fun e w' => ∃ v0_ : Value, e = .returned (v0_) ∧ Kd.R k25 25 w' w.heap.size (fun _ => True) v0_ r1 ∧ IsS54 w0 w' g s0_0 r2 r3 ∧ Below w0.heap.size w0 w' ∧ KeepBut w w' g none := by
 have HI0 := Aside0.mk hI
 have HK := Aside0.mk (KeepBut.refl w g none)
 have HL := Aside0.mk hB.size
 clear hI
 have HW0 := Aside0.mk hB.size
 have HB := Aside0.mk hB
 clear hB
 have H := h
 clear h
 unfold spec_l1Cur_trips.f at H
 obtain ⟨y371, hy371⟩ : ∃ y_ : List (S25), y_ = (([] : List (S25))) := ⟨_, rfl⟩
 replace H : ((spec_l1Cur_pick.f s0_0 s0_1 s0_2 5).bind fun bt374 => (spec_l1Cur_trips.l0 k y371 bt374.1 s0_0 bt374.2.1 bt374.2.2)) = some (r1, r2, r3) := by first | (rw [hy371]; with_reducible exact H) | (have H2_ := (Option.bind_some _ _).symm.trans H; rw [hy371]; with_reducible exact H2_) | (have H2_ := (Option.bind_some _ _).symm.trans H; with_reducible exact H2_) | with_reducible exact H | (rw [hy371]; exact H) | exact H
 have Ny371 := Aside0.mk hy371
 clear hy371
 replace H := Option.bind_eq_some_iff.mp H
 obtain ⟨⟨t374, t375, t376⟩, A20, H⟩ := H
 replace H : (spec_l1Cur_trips.l0 k y371 t374 s0_0 t375 t376) = some (r1, r2, r3) := H
 have A2 := Aside0.mk A20
 clear A20
 have H' := Aside0.mk H
 clear H
 go_enter Tryz.func33, Tryz.ntmps33
 go_wp2_with (first | ((with_reducible refine gate_dst (N := 5) rfl ?_); refine Kd.R_lit k25 _ 25 ?hg (N := 5) ?hd (xs := ([] : List (S25))) (inner := []) (ok := fun _ => True) (okp := fun _ => True) ?hr ?hp (fun _ hk => hk) trivial (Below.refl _ _) (Nat.le_refl _) (by simp) ?_; (case hd => rfl); (case hg => rfl); (case hr => first | (go_simp; done) | (go_simp; rfl)); (case hp => exact (Reps.none _ _)); intro v372 w3 ho4 hb hg_ hnew_; clear hg_ hnew_; (first | rw [← Ny371.out] at ho4 | (simp only [Int.reduceToNat] at ho4; rw [← Ny371.out] at ho4)); have HO373 := Aside0.mk (Kd.R_lower ho4 (keep_size (w := w) (g := g) (row := none) (by repeat (first | (with_reducible first | exact HK.out | apply KeepBut.set_ | apply keep_drewN | apply keep_drew | apply keep_alloc) | exact HK.out)))); replace HK := Aside0.mk (KeepBut.trans (by repeat (first | (with_reducible first | exact HK.out | apply KeepBut.set_ | apply keep_drewN | apply keep_drew | apply keep_alloc) | exact HK.out)) (KeepBut.of_below hb g none) (.inl rfl)); replace HB := Aside0.mk (below_step (by repeat (first | (with_reducible first | exact HB.out | apply below_alloc | apply pw_below_drewN | apply below_drew1 | refine below_set ?_ (IsS54.ge HI0.out)) | exact HB.out)) hb); replace HI0 := Aside0.mk (IsS54.below (by repeat (first | (with_reducible first | exact HI0.out | apply IsS54.alloc | apply IsS54.drewN | apply IsS54.drew | apply IsS54.set_1 | apply IsS54.set_2) | exact HI0.out)) hb); clear hb ho4) | ((with_reducible refine gate_callee (f := 49) rfl ?_); refine goesL_ (some 7) rfl rfl Tryz.func49 (by kernel_rfl) rfl #[.pointer (some ⟨g, 0, none⟩), .int .i64 5] rfl argsB ?_; (with_reducible refine (spec_l1Cur_pick.calls g s0_0 s0_1 s0_2 5 t374 t375 t376 w0 _ ?side1 ?side2 A2.out).mono ?_); (case side1 => repeat (first | (with_reducible first | exact HI0.out | apply IsS54.alloc | apply IsS54.drewN | apply IsS54.drew | apply IsS54.set_1 | apply IsS54.set_2) | exact HI0.out)); (case side2 => repeat (first | (with_reducible first | exact HB.out | apply below_alloc | apply pw_below_drewN | apply below_drew1 | refine below_set ?_ (IsS54.ge HI0.out)) | exact HB.out)); rintro e w5 ⟨rfl, hi, hb, hk⟩; refine ⟨_, rfl, ?_⟩; replace HO373 := Aside0.mk (Kd.R_mono (Kd.R_keep (IsS54.apart (show IsS54 w0 _ g s0_0 s0_1 s0_2 from by repeat (first | (with_reducible first | exact HI0.out | apply IsS54.alloc | apply IsS54.drewN | apply IsS54.drew | apply IsS54.set_1 | apply IsS54.set_2) | exact HI0.out)) (upR HO373.out) (by decide)) hk (fun _ h => h.2)) (fun _ h => h.1)); replace HK := Aside0.mk (KeepBut.trans (by repeat (first | (with_reducible first | exact HK.out | apply KeepBut.set_ | apply keep_drewN | apply keep_drew | apply keep_alloc) | exact HK.out)) hk (.inl rfl)); replace HB := Aside0.mk (hb); replace HI0 := Aside0.mk (hi); (try clear hb); (try clear hk); (try clear hi)))
 (try simp only [Act.put, List.setIfInBounds_toArray, List.set_cons_zero, List.set_cons_succ])
 go_loopg [3, 4] k (fun kq v3 v4 w' => ∃ (x3_1 : List (S25)) (x4_1 x1001_1 x1002_1 : Int), v4 = .int .i64 x4_1 ∧ Aside0 (spec_l1Cur_trips.l0 kq x3_1 x4_1 s0_0 x1001_1 x1002_1 = some (r1, r2, r3)) ∧ Aside0 (kq ≤ k) ∧ Aside0 (Kd.R k25 25 w' w.heap.size (fun _ => True) v3 x3_1) ∧ Aside0 (IsS54 w0 w' g s0_0 x1001_1 x1002_1) ∧ Aside0 (KeepBut w w' g none) ∧ Aside0 (Below w0.heap.size w0 w'))
 case atStart => exact ⟨(y371), (t374), (t375), (t376), rB, H', ⟨Nat.le_refl _⟩, ⟨upR HO373.out⟩, ⟨by repeat (first | (with_reducible first | exact HI0.out | apply IsS54.alloc | apply IsS54.drewN | apply IsS54.drew | apply IsS54.set_1 | apply IsS54.set_2) | exact HI0.out)⟩, ⟨by repeat (first | (with_reducible first | exact HK.out | apply KeepBut.set_ | apply keep_drewN | apply keep_drew | apply keep_alloc) | exact HK.out)⟩, ⟨by repeat (first | (with_reducible first | exact HB.out | apply below_alloc | apply pw_below_drewN | apply below_drew1 | refine below_set ?_ (IsS54.ge HI0.out)) | exact HB.out)⟩⟩
 case round =>
  clear H'
  obtain ⟨x3_1, x4_1, x1001_1, x1002_1, rfl, HA, HK1, HO_3, HI0, HK, HB⟩ := hrel
  cases gk with
  | zero => exact absurd HA.out (by simp [spec_l1Cur_trips.l0])
  | succ k1 =>
   have H := HA.out
   clear HA
   simp only [spec_l1Cur_trips.l0] at H
   replace H := ifD H
   rcases H with ⟨H, -, c6b0⟩ | ⟨H, -, c6b0⟩
   ·replace H := Option.bind_eq_some_iff.mp H
    obtain ⟨⟨t377, t378, t379, t380, t381, t382, t383⟩, A70, H⟩ := H
    replace H : (if x3_1.length < 3518437208883 then (spec_l1Cur_trips.l0 k1 (x3_1 ++ [(⟨t377, t378, t379, t380, t381⟩ : S25)]) (wrap64 (x4_1 - 1)) s0_0 t382 t383) else (none)) = some (r1, r2, r3) := H
    have A7 := Aside0.mk A70
    clear A70
    by_cases c8 : x3_1.length < 3518437208883
    ·rw [if_pos c8] at H
     have LMc8 := Aside0.mk c8
     clear c8
     obtain ⟨y384, hy384⟩ : ∃ y_ : List (S25), y_ = (x3_1 ++ [(⟨t377, t378, t379, t380, t381⟩ : S25)]) := ⟨_, rfl⟩
     replace H : (spec_l1Cur_trips.l0 k1 y384 (wrap64 (x4_1 - 1)) s0_0 t382 t383) = some (r1, r2, r3) := by first | (rw [hy384]; with_reducible exact H) | (have H2_ := (Option.bind_some _ _).symm.trans H; rw [hy384]; with_reducible exact H2_) | (have H2_ := (Option.bind_some _ _).symm.trans H; with_reducible exact H2_) | with_reducible exact H | (rw [hy384]; exact H) | exact H
     have Ny384 := Aside0.mk hy384
     clear hy384
     have H' := Aside0.mk H
     clear H
     go_wp2_with (first | ((with_reducible refine gate_callee (f := 28) rfl ?_); refine goesL_ (some 14) rfl rfl Tryz.func28 (by kernel_rfl) rfl #[.pointer (some ⟨g, 0, none⟩)] rfl argsB ?_; (with_reducible refine (spec_l1Cur_trip.calls k1 g s0_0 x1001_1 x1002_1 t377 t378 t379 t380 t381 t382 t383 w0 _ ?side1 ?side2 A7.out).mono ?_); (case side1 => repeat (first | (with_reducible first | exact HI0.out | apply IsS54.alloc | apply IsS54.drewN | apply IsS54.drew | apply IsS54.set_1 | apply IsS54.set_2) | exact HI0.out)); (case side2 => repeat (first | (with_reducible first | exact HB.out | apply below_alloc | apply pw_below_drewN | apply below_drew1 | refine below_set ?_ (IsS54.ge HI0.out)) | exact HB.out)); rintro e w9 ⟨rfl, hi, hb, hk⟩; refine ⟨_, rfl, ?_⟩; replace HO_3 := Aside0.mk (Kd.R_mono (Kd.R_keep (IsS54.apart (show IsS54 w0 _ g s0_0 x1001_1 x1002_1 from by repeat (first | (with_reducible first | exact HI0.out | apply IsS54.alloc | apply IsS54.drewN | apply IsS54.drew | apply IsS54.set_1 | apply IsS54.set_2) | exact HI0.out)) (upR HO_3.out) (by decide)) hk (fun _ h => h.2)) (fun _ h => h.1)); replace HK := Aside0.mk (KeepBut.trans (by repeat (first | (with_reducible first | exact HK.out | apply KeepBut.set_ | apply keep_drewN | apply keep_drew | apply keep_alloc) | exact HK.out)) hk (.inl rfl)); replace HB := Aside0.mk (hb); replace HI0 := Aside0.mk (hi); (try clear hb); (try clear hk); (try clear hi)) | ((with_reducible refine gate_builtin (b := .append) (xs := #[.tmp 12, .tmp 15]) rfl ?_); at_builtin; refine Kd.R_append k25 w.heap.size rfl (.tmp 12) (.tmp 15) 32 25 (.agg #[(.int .i64 0), (.int .i64 0), (.int .i64 0), (.int .i64 0), (.int .i64 0)]) 40 rfl Tryz.underlying32 info25 rfl (by decide) (by omega) u3 x3_1 (⟨t377, t378, t379, t380, t381⟩ : S25) [.int .i64 t377, .int .i64 t378, .int .i64 t379, .int .i64 t380, .int .i64 t381] (fun _ => True) (fun _ => False) rfl rfl ?aP (fun _ hk => hk.elim) ?aF ?aO (Below.refl _ _) ?aS ?aL ?_; (case aP => exact k25_mkM _ _ _ (⟨t377, t378, t379, t380, t381⟩ : S25)); (case aF => exact (fun _ _ => trivial)); (case aO => exact (upR HO_3.out)); (case aS => exact (keep_size (w := w) (g := g) (row := none) (by repeat (first | (with_reducible first | exact HK.out | apply KeepBut.set_ | apply keep_drewN | apply keep_drew | apply keep_alloc) | exact HK.out)))); (case aL => have := LMc8.out; omega); intro v385 w10 ho hb hg hat; rw [← Ny384.out] at ho; have HO386 := Aside0.mk (ho); replace HB := Aside0.mk (below_weaken (by repeat (first | (with_reducible first | exact HB.out | apply below_alloc | apply pw_below_drewN | apply below_drew1 | refine below_set ?_ (IsS54.ge HI0.out)) | exact HB.out)) HL.out hb); replace HI0 := Aside0.mk (IsS54.grown (by repeat (first | (with_reducible first | exact HI0.out | apply IsS54.alloc | apply IsS54.drewN | apply IsS54.drew | apply IsS54.set_1 | apply IsS54.set_2) | exact HI0.out)) hg (IsS54.own_ne HI0.out HO_3.out (by decide))); replace HK := Aside0.mk (KeepBut.trans (by repeat (first | (with_reducible first | exact HK.out | apply KeepBut.set_ | apply keep_drewN | apply keep_drew | apply keep_alloc) | exact HK.out)) (KeepBut.of_grown hg g) (Kd.R_base2 HO_3.out)); clear HO_3; clear ho hb hg hat))
     go_roundg k1
     case measure => have := HK1.out; omega
     case rel => exact ⟨(y384), (wrap64 (x4_1 - 1)), (t382), (t383), rB, H', ⟨by have := HK1.out; omega⟩, ⟨upR HO386.out⟩, ⟨by repeat (first | (with_reducible first | exact HI0.out | apply IsS54.alloc | apply IsS54.drewN | apply IsS54.drew | apply IsS54.set_1 | apply IsS54.set_2) | exact HI0.out)⟩, ⟨by repeat (first | (with_reducible first | exact HK.out | apply KeepBut.set_ | apply keep_drewN | apply keep_drew | apply keep_alloc) | exact HK.out)⟩, ⟨by repeat (first | (with_reducible first | exact HB.out | apply below_alloc | apply pw_below_drewN | apply below_drew1 | refine below_set ?_ (IsS54.ge HI0.out)) | exact HB.out)⟩⟩
    ·rw [if_neg c8] at H
     exact absurd H (by simp)
   ·simp only [Option.some.injEq, Prod.mk.injEq] at H
    obtain ⟨rfl, rfl, rfl⟩ := H
    go_wp2
    go_ret
    exact ⟨_, eB, upR HO_3.out, by repeat (first | (with_reducible first | exact HI0.out | apply IsS54.alloc | apply IsS54.drewN | apply IsS54.drew | apply IsS54.set_1 | apply IsS54.set_2) | exact HI0.out), by repeat (first | (with_reducible first | exact HB.out | apply below_alloc | apply pw_below_drewN | apply below_drew1 | refine below_set ?_ (IsS54.ge HI0.out)) | exact HB.out), by repeat (first | (with_reducible first | exact HK.out | apply KeepBut.set_ | apply keep_drewN | apply keep_drew | apply keep_alloc) | exact HK.out)⟩

/-! ### spec_DrawOverdueTrips: function 11 -/
def spec_DrawOverdueTrips.f (k : Nat) (l0 : List Int) : Option ((List (S25)) × Int) := (spec_l1Cur_trips.f k l0 0 0).bind fun bt388 => ((spec_l1Cur_among.f l0 bt388.2.1 bt388.2.2 (([0, 5, 20, 60, 101, 999, 1000, (-1)] : List Int))).bind fun bt396 => (some (bt388.1, bt396.1)))
theorem spec_DrawOverdueTrips.mono : ∀ a0 k, LeO (spec_DrawOverdueTrips.f k a0) (spec_DrawOverdueTrips.f (k + 1) a0) := by
 intro a0 k
 unfold spec_DrawOverdueTrips.f
 repeat' with_reducible first | apply spec_l1Cur_trips.mono | exact LeO.refl _ | exact LeO.none _ | refine LeO.ite ?_ ?_ | refine LeO.bind ?_ (fun _ => ?_)
set_option maxHeartbeats 8000000 in
set_option maxRecDepth 100000 in
theorem spec_DrawOverdueTrips.calls (k : Nat) (A0 : Option Addr) (c0 : Nat) (l0 : List Int) (r1 : List (S25)) (r2 : Int) (w : World) (hr0 : Kd.C (Kd.int .u8) w A0 l0.length l0) (hc0 : l0.length ≤ c0) (h : spec_DrawOverdueTrips.f k l0 = some (r1, r2)) :
  Calls Tryz.prog 11 #[.slice A0 l0.length c0] w fun e w' => ∃ v0_ : Value, e = .returned (.tuple #[v0_, .int .i64 r2]) ∧ Kd.R k25 25 w' w.heap.size (fun _ => True) v0_ r1 ∧ Below w.heap.size w w' := by
 have hu54 := Tryz.underlying54
 have HR0 := Aside0.mk hr0
 have HC0 := Aside0.mk hc0
 clear hr0 hc0
 have HB := Aside0.mk (Below.refl w.heap.size w)
 have H := h
 clear h
 unfold spec_DrawOverdueTrips.f at H
 replace H := Option.bind_eq_some_iff.mp H
 obtain ⟨⟨t388, t391, t392⟩, A20, H⟩ := H
 replace H : ((spec_l1Cur_among.f l0 t391 t392 (([0, 5, 20, 60, 101, 999, 1000, (-1)] : List Int))).bind fun bt396 => (some (t388, bt396.1))) = some (r1, r2) := H
 have A2 := Aside0.mk A20
 clear A20
 obtain ⟨y393, hy393⟩ : ∃ y_ : List Int, y_ = (([0, 5, 20, 60, 101, 999, 1000, (-1)] : List Int)) := ⟨_, rfl⟩
 replace H : ((spec_l1Cur_among.f l0 t391 t392 y393).bind fun bt396 => (some (t388, bt396.1))) = some (r1, r2) := by first | (rw [hy393]; with_reducible exact H) | (have H2_ := (Option.bind_some _ _).symm.trans H; rw [hy393]; with_reducible exact H2_) | (have H2_ := (Option.bind_some _ _).symm.trans H; with_reducible exact H2_) | with_reducible exact H | (rw [hy393]; exact H) | exact H
 have Ny393 := Aside0.mk hy393
 clear hy393
 replace H := Option.bind_eq_some_iff.mp H
 obtain ⟨⟨t396, t397, t398⟩, A30, H⟩ := H
 replace H : (some (t388, t396)) = some (r1, r2) := H
 have A3 := Aside0.mk A30
 clear A30
 simp only [Option.some.injEq, Prod.mk.injEq] at H
 obtain ⟨rfl, rfl⟩ := H
 go_enter Tryz.func11, Tryz.ntmps11
 go_wp2_with (first | ((with_reducible refine gD 7 ?_); refine bxE 7 54 #[.slice A0 l0.length c0, .int .i64 0, .int .u64 0] fun gb387 w4 hg hbox hb => ?_; have GE387 := gB HB hg; have HI387 := Aside0.mk ((⟨_, _, hbox, (by rw [hg]; exact (below_size (bW HB)) : w.heap.size ≤ gb387), HR0.out⟩ : IsS54 w w4 gb387 l0 0 0)); replace HB := uB HB hb; clear hb hbox hg) | ((with_reducible refine gate_callee (f := 33) rfl ?_); refine goesL_ (some 9) rfl rfl Tryz.func33 (by kernel_rfl) rfl #[.pointer (some ⟨gb387, 0, none⟩)] rfl argsB ?_; (with_reducible refine (spec_l1Cur_trips.calls k gb387 l0 0 0 t388 t391 t392 w _ ?side1 ?side2 A2.out).mono ?_); (case side1 => repeat (first | (with_reducible first | exact HI387.out | apply IsS54.alloc | apply IsS54.drewN | apply IsS54.drew | apply IsS54.set_1 | apply IsS54.set_2) | exact HI387.out)); (case side2 => repeat (first | (with_reducible first | exact HB.out | apply below_alloc | apply pw_below_drewN | apply below_drew1 | refine below_set ?_ (IsS54.ge HI387.out)) | exact HB.out)); rintro e w5 ⟨v389, rfl, ho0, hi, hb, hk⟩; refine ⟨_, rfl, ?_⟩; have HO390 := Aside0.mk (Kd.R_lower ho0 (below_size (by repeat (first | (with_reducible first | exact HB.out | apply below_alloc | apply pw_below_drewN | apply below_drew1 | refine below_set ?_ (IsS54.ge HI387.out)) | exact HB.out)))); replace HB := Aside0.mk (hb); replace HI387 := Aside0.mk (hi); (try clear hb); (try clear hk); (try clear hi); (try clear ho0)) | ((with_reducible refine gate_dst (N := 11) rfl ?_); refine Kd.R_lit (Kd.int .i64) _ 3 ?hg (N := 11) ?hd (xs := ([0, 5, 20, 60, 101, 999, 1000, (-1)] : List Int)) (inner := [.int .i64 0, .int .i64 5, .int .i64 20, .int .i64 60, .int .i64 101, .int .i64 999, .int .i64 1000, .int .i64 (-1)]) (ok := fun _ => True) (okp := fun _ => True) ?hr ?hp (fun _ hk => hk) trivial (Below.refl _ _) (Nat.le_refl _) (by simp) ?_; (case hd => rfl); (case hg => rfl); (case hr => first | (go_simp; done) | (go_simp; rfl)); (case hp => exact (Reps.one (show Kd.M (Kd.int .i64) _ _ _ 0 [.int .i64 0] from rfl) (Reps.one (show Kd.M (Kd.int .i64) _ _ _ 5 [.int .i64 5] from rfl) (Reps.one (show Kd.M (Kd.int .i64) _ _ _ 20 [.int .i64 20] from rfl) (Reps.one (show Kd.M (Kd.int .i64) _ _ _ 60 [.int .i64 60] from rfl) (Reps.one (show Kd.M (Kd.int .i64) _ _ _ 101 [.int .i64 101] from rfl) (Reps.one (show Kd.M (Kd.int .i64) _ _ _ 999 [.int .i64 999] from rfl) (Reps.one (show Kd.M (Kd.int .i64) _ _ _ 1000 [.int .i64 1000] from rfl) (Reps.one (show Kd.M (Kd.int .i64) _ _ _ (-1) [.int .i64 (-1)] from rfl) (Reps.none _ _)))))))))); intro v394 w6 ho7 hb hg_ hnew_; clear hg_ hnew_; (first | rw [← Ny393.out] at ho7 | (simp only [Int.reduceToNat] at ho7; rw [← Ny393.out] at ho7)); have HO395 := Aside0.mk (Kd.R_lower ho7 (below_size (by repeat (first | (with_reducible first | exact HB.out | apply below_alloc | apply pw_below_drewN | apply below_drew1 | refine below_set ?_ (IsS54.ge HI387.out)) | exact HB.out)))); replace HO390 := uR HO390 hb; replace HB := Aside0.mk (below_step (by repeat (first | (with_reducible first | exact HB.out | apply below_alloc | apply pw_below_drewN | apply below_drew1 | refine below_set ?_ (IsS54.ge HI387.out)) | exact HB.out)) hb); replace HI387 := Aside0.mk (IsS54.below (by repeat (first | (with_reducible first | exact HI387.out | apply IsS54.alloc | apply IsS54.drewN | apply IsS54.drew | apply IsS54.set_1 | apply IsS54.set_2) | exact HI387.out)) hb); clear hb ho7; obtain ⟨Ao8, co8, eo8⟩ := Kd.R_slice HO395.out; subst eo8) | ((with_reducible refine gate_callee (f := 34) rfl ?_); refine goesL_ (some 12) rfl rfl Tryz.func34 (by kernel_rfl) rfl #[.pointer (some ⟨gb387, 0, none⟩), .slice Ao8 y393.length co8] rfl argsB ?_; (with_reducible refine (spec_l1Cur_among.calls gb387 l0 t391 t392 _ _ y393 t396 t397 t398 w _ ?side1 ?side2 ?side3 ?side4 ?side5 A3.out).mono ?_); (case side1 => repeat (first | (with_reducible first | exact HI387.out | apply IsS54.alloc | apply IsS54.drewN | apply IsS54.drew | apply IsS54.set_1 | apply IsS54.set_2) | exact HI387.out)); (case side2 => repeat (first | (with_reducible first | exact HB.out | apply below_alloc | apply pw_below_drewN | apply below_drew1 | refine below_set ?_ (IsS54.ge HI387.out)) | exact HB.out)); (case side3 => repeat (first | exact (Kd.R_reads' HO395.out).2.2 | (with_reducible refine Kd.C_alloc ?_ _) | (with_reducible refine Kd.C_drewN ?_ _) | (with_reducible refine Kd.C_drew ?_))); (case side4 => exact (Kd.R_reads' HO395.out).2.1); (case side5 => exact far_slice (IsS54.own_ne HI387.out HO395.out (by decide))); rintro e w9 ⟨rfl, hi, hb, hk⟩; refine ⟨_, rfl, ?_⟩; replace HO390 := Aside0.mk (Kd.R_mono (Kd.R_keep (IsS54.apart (show IsS54 w _ gb387 l0 t391 t392 from by repeat (first | (with_reducible first | exact HI387.out | apply IsS54.alloc | apply IsS54.drewN | apply IsS54.drew | apply IsS54.set_1 | apply IsS54.set_2) | exact HI387.out)) (upR HO390.out) (by decide)) hk (fun _ h => h.2)) (fun _ h => h.1)); replace HO395 := Aside0.mk (Kd.R_mono (Kd.R_keep (IsS54.apart (show IsS54 w _ gb387 l0 t391 t392 from by repeat (first | (with_reducible first | exact HI387.out | apply IsS54.alloc | apply IsS54.drewN | apply IsS54.drew | apply IsS54.set_1 | apply IsS54.set_2) | exact HI387.out)) (upR HO395.out) (by decide)) hk (fun _ h => h.2)) (fun _ h => h.1)); replace HB := Aside0.mk (hb); replace HI387 := Aside0.mk (hi); (try clear hb); (try clear hk); (try clear hi)))
 go_ret2
 exact ⟨_, eB, upR HO390.out, by repeat (first | (with_reducible first | exact HB.out | apply below_alloc | apply pw_below_drewN | apply below_drew1 | refine below_set ?_ (IsS54.ge HI387.out)) | exact HB.out)⟩

-- NOT PRINTED: function 63 (impl_Trip_63)

-- NOT PRINTED: function 53 (impl_Trip_53)

/-! ### impl_areTrips: function 35 -/
-- reaches: impl.IsTrip
theorem getD_drop' {α : Type} (xs : List α) (i : Nat) (d : α) (h : i < xs.length) : xs.drop i = xs.getD i d :: xs.drop (i + 1) := by
 rw [List.drop_eq_getElem_cons h]
 simp [List.getD, List.getElem?_eq_getElem h]
theorem getD_mem' {α : Type} (xs : List α) (i : Nat) (d : α) (h : i < xs.length) : xs.getD i d ∈ xs := by
 rw [List.getD_eq_getElem?_getD, List.getElem?_eq_getElem h]
 exact List.getElem_mem h
def idxP25 (p : S25 → Bool) : List (S25) → Int → Int
 | [], _ => -1
 | x :: l, i => if p x = true then i else idxP25 p l (i + 1)
theorem idxP25_any (p : S25 → Bool) : ∀ (l : List (S25)) (i : Int), 0 ≤ i → decide (0 ≤ idxP25 p l i) = l.any p := by
 intro l
 induction l with
 | nil => intro i h; rfl
 | cons x l ih =>
  intro i h
  rw [idxP25, List.any_cons]
  by_cases c : p x = true
  ·rw [if_pos c, c, Bool.true_or]; exact decide_eq_true h
  ·rw [if_neg c, Bool.eq_false_iff.mpr c, Bool.false_or]; exact ih (i + 1) (by omega)

set_option maxHeartbeats 4000000 in
set_option maxRecDepth 100000 in
theorem IndexFunc_trips (p : S25 → Bool) (A0 : Option Addr) (c0 : Nat) (l0 : List (S25)) (w : World) (hr0 : Kd.C k25 w A0 l0.length l0) (hc0 : l0.length ≤ c0)
  (hp : ∀ (x : S25) (W : World), x ∈ l0 → Below w.heap.size w W → Calls Tryz.prog 54 #[.agg #[.int .i64 x.f0, .int .i64 x.f1, .int .i64 x.f2, .int .i64 x.f3, .int .i64 x.f4]] W fun e W' => e = .returned (.bool (p x)) ∧ Below W.heap.size W W') :
  Calls Tryz.prog 63 #[.slice A0 l0.length c0, .func (.func 54) #[] #[]] w fun e w' => e = .returned (.int .i64 (idxP25 p l0 0)) ∧ Below w.heap.size w w' := by
 have hu := Tryz.underlying25
 have hm := hr0.2.1
 go_enter Tryz.func63, Tryz.ntmps63
 go_wp2
 go_loopw [8] (fun v wr => ∃ i : Nat, i ≤ l0.length ∧ v = .int .i64 i ∧ idxP25 p l0 0 = idxP25 p (l0.drop i) i ∧ Below w.heap.size w wr) (fun v _ => l0.length - (intOf v).toNat)
 case atStart => exact ⟨0, by omega, rfl, by simp, Below.refl _ _⟩
 case round =>
  obtain ⟨i, hi, rfl, he, hb⟩ := hrel
  by_cases hlt : i < l0.length
  ·obtain ⟨ad, rfl, h0, h1, h2, h3, h4⟩ := at_T25 (Kd.C_below hr0 hb) (i : Int) (by omega) (by omega)
   have hx : rd_T25 l0 (i : Int) = l0.getD i z25 := by unfold rd_T25; rw [Int.toNat_natCast]
   have hmem := getD_mem' l0 i z25 hlt
   rw [hx] at h0 h1 h2 h3 h4
   rw [getD_drop' l0 i z25 hlt] at he
   generalize l0.getD i z25 = x at h0 h1 h2 h3 h4 he hx hmem
   clear hx
   rw [Int.toNat_natCast] at h0 h1 h2 h3 h4
   cases hpx : p x with
   | true =>
    have hq := hp x wr hmem hb
    rw [hpx] at hq
    have he' := Aside0.mk he
    have hb' := Aside0.mk hb
    have hpx' := Aside0.mk hpx
    clear he hb hp hpx hmem
    go_wp2_with (go_at_call 54; refine hq.mono ?_; rintro e w1 ⟨rfl, hb1⟩)
    go_ret
    refine ⟨?_, hb'.out.trans (hb1.mono hb'.out.size)⟩
    rw [he'.out, idxP25, if_pos hpx'.out]
    rfl
   | false =>
    have hq := hp x wr hmem hb
    rw [hpx] at hq
    have he' := Aside0.mk he
    have hb' := Aside0.mk hb
    have hpx' := Aside0.mk hpx
    have hp' := Aside0.mk hp
    clear he hb hp hpx hmem
    go_wp2_with (go_at_call 54; refine hq.mono ?_; rintro e w1 ⟨rfl, hb1⟩)
    go_roundw
    case rel => exact ⟨i + 1, by omega, by go_num, by rw [he'.out, idxP25, hpx'.out]; rfl, hb'.out.trans (hb1.mono hb'.out.size)⟩
    case measure => simp [intOf]; omega
  ·have hd : l0.drop i = [] := List.drop_eq_nil_of_le (by omega)
   rw [hd] at he
   have he' := Aside0.mk he
   have hb' := Aside0.mk hb
   clear he hb hp hd
   go_wp2
   go_ret
   exact ⟨by rw [he'.out, idxP25]; rfl, hb'.out⟩

set_option maxHeartbeats 4000000 in
theorem ContainsFunc_trips (p : S25 → Bool) (A0 : Option Addr) (c0 : Nat) (l0 : List (S25)) (w : World) (hr0 : Kd.C k25 w A0 l0.length l0) (hc0 : l0.length ≤ c0)
  (hp : ∀ (x : S25) (W : World), x ∈ l0 → Below w.heap.size w W → Calls Tryz.prog 54 #[.agg #[.int .i64 x.f0, .int .i64 x.f1, .int .i64 x.f2, .int .i64 x.f3, .int .i64 x.f4]] W fun e W' => e = .returned (.bool (p x)) ∧ Below W.heap.size W W') :
  Calls Tryz.prog 53 #[.slice A0 l0.length c0, .func (.func 54) #[] #[]] w fun e w' => e = .returned (.bool (l0.any p)) ∧ Below w.heap.size w w' := by
 have hcon := IndexFunc_trips p A0 c0 l0 w hr0 hc0 hp
 have ha := idxP25_any p l0 0 (by omega)
 generalize idxP25 p l0 0 = q at hcon ha
 generalize l0.any p = b at ha ⊢
 clear hp
 go_enter Tryz.func53, Tryz.ntmps53
 go_wp2_with (go_at_call 63; refine hcon.mono ?_; rintro e w1 ⟨rfl, hb1⟩)
 go_ret
 exact ⟨rfl, hb1⟩

theorem tripClosure (k : Nat) (x : S25) (b : Bool) (W : World) (h : impl_IsTrip.f k x.f0 x.f1 x.f2 x.f3 x.f4 = some b) :
  Calls Tryz.prog 54 #[.agg #[.int .i64 x.f0, .int .i64 x.f1, .int .i64 x.f2, .int .i64 x.f3, .int .i64 x.f4]] W fun e W' => e = .returned (.bool (!b)) ∧ Below W.heap.size W W' := by
 have hu := Tryz.underlying25
 have hcon := fun V => impl_IsTrip.calls k x.f0 x.f1 x.f2 x.f3 x.f4 b V h
 clear h
 go_enter Tryz.func54, Tryz.ntmps54
 go_wp2_with (go_at_call 20; refine (hcon _).mono ?_; rintro e w1 ⟨rfl, hb1⟩)
 go_ret
 exact ⟨by simp, ((Below.refl _ W).alloc (Nat.le_refl _) _).trans (hb1.mono (by simp))⟩
def impl_areTrips.f (k : Nat) (l0 : List (S25)) : Option (Bool) :=
 if l0.all (fun x => (impl_IsTrip.f k x.f0 x.f1 x.f2 x.f3 x.f4).isSome) = true then some (!(l0.any fun x => impl_IsTrip.f k x.f0 x.f1 x.f2 x.f3 x.f4 == some false)) else none
theorem impl_areTrips.mono : ∀ a0 k, LeO (impl_areTrips.f k a0) (impl_areTrips.f (k + 1) a0) := by
 intro l k r h
 unfold impl_areTrips.f at h ⊢
 split at h
 ·rename_i ha
  have he : ∀ x ∈ l, impl_IsTrip.f (k + 1) x.f0 x.f1 x.f2 x.f3 x.f4 = impl_IsTrip.f k x.f0 x.f1 x.f2 x.f3 x.f4 := by
   intro x hx
   obtain ⟨b, hb⟩ := Option.isSome_iff_exists.1 (List.all_eq_true.1 ha x hx)
   rw [hb]
   exact impl_IsTrip.mono _ _ _ _ _ k b hb
  have h1 : l.all (fun x => (impl_IsTrip.f (k + 1) x.f0 x.f1 x.f2 x.f3 x.f4).isSome) = true := by
   rw [List.all_eq_true] at ha ⊢
   intro x hx
   rw [he x hx]
   exact ha x hx
  rw [if_pos h1, ← h]
  congr 2
  rw [Bool.eq_iff_iff, List.any_eq_true, List.any_eq_true]
  constructor
  ·rintro ⟨x, hx, hq⟩; exact ⟨x, hx, by rw [← he x hx]; exact hq⟩
  ·rintro ⟨x, hx, hq⟩; exact ⟨x, hx, by rw [he x hx]; exact hq⟩
 ·cases h
set_option maxHeartbeats 4000000 in
theorem impl_areTrips.calls (k : Nat) (A0 : Option Addr) (c0 : Nat) (l0 : List (S25)) (r : Bool) (w : World) (hr0 : Kd.C k25 w A0 l0.length l0) (hc0 : l0.length ≤ c0) (h : impl_areTrips.f k l0 = some r) :
  Calls Tryz.prog 35 #[.slice A0 l0.length c0] w fun e w' => e = .returned (.bool r) ∧ Below w.heap.size w w' := by
 unfold impl_areTrips.f at h
 split at h
 ·rename_i ha
  have hcon := ContainsFunc_trips (fun x => impl_IsTrip.f k x.f0 x.f1 x.f2 x.f3 x.f4 == some false) A0 c0 l0 w hr0 hc0 (by
   intro x W hx _
   obtain ⟨b, hb⟩ := Option.isSome_iff_exists.1 (List.all_eq_true.1 ha x hx)
   have e : (impl_IsTrip.f k x.f0 x.f1 x.f2 x.f3 x.f4 == some false) = !b := by rw [hb]; cases b <;> rfl
   rw [e]
   exact tripClosure k x b W hb)
  generalize (l0.any fun x => impl_IsTrip.f k x.f0 x.f1 x.f2 x.f3 x.f4 == some false) = b at hcon h
  obtain rfl := Option.some.inj h
  clear h ha
  go_enter Tryz.func35, Tryz.ntmps35
  go_wp2_with (go_at_call 53; refine hcon.mono ?_; rintro e w1 ⟨rfl, hb1⟩)
  go_ret
  exact ⟨by simp, hb1⟩
 ·cases h

end Go.Proofs.YtmeaacbnjpgepaaGreatDoor.QFnTripLists
