/- Contracts of Go functions that FnLeads reaches: the call computes what the plain function says. No condition. -/
import Derived.Test.YtldgjibimolcdaaDoorQFnLeadsx0
import Derived.Test.YtldgjibimolcdaaDoorQFnLeadsx2
import Derived.Test.YtldgjibimolcdaaDoorQFnLeadsx3
import Derived.Test.YtldgjibimolcdaaDoorQFnLeadsx4
import Derived.Test.YtldgjibimolcdaaDoorQFnLeadsx5
namespace Go.Proofs.YtldgjibimolcdaaDoor.QFnLeads
open Go.RowKit Go.Proofs.YtldgjibimolcdaaDoorW.PrintWords Go.Proofs.YtldgjibimolcdaaDoorW.PrintLast Go.Proofs.YtldgjibimolcdaaDoorW.PrintMore
attribute [local go_sem] max2_int min2_int max_two min_two max_three min_three max_four min_four   -- for this text's walks alone
set_option linter.unusedVariables false
set_option linter.unusedSimpArgs false

/-! ### spec_ParseLead: function 9 -/
mutual
def spec_ParseLead.j0 : Nat → ByteArray → List ByteArray → Bool → Option (Int × Int × Int × Int × Int × Bool)
 | 0, _, _, _ => none
 | k + 1, x0, x4, x23 => if x23 = true then (some (0, 0, 0, 0, 0, false)) else (if 1 < (x4.length : Int) then ((spec_l1Read.f k (rdOf ByteArray.empty x4 1)).bind fun bt160 => (if 3 < (x4.length : Int) then (if 0 ≤ (wrap64 (((rdOf ByteArray.empty x4 3).size : Int) - 1)) then (if (wrap64 (((rdOf ByteArray.empty x4 3).size : Int) - 1)) ≤ ((rdOf ByteArray.empty x4 3).size : Int) then ((spec_l1Read.f k ((rdOf ByteArray.empty x4 3).extract 0 ((wrap64 (((rdOf ByteArray.empty x4 3).size : Int) - 1)) : Int).toNat)).bind fun bt164 => (if 5 < (x4.length : Int) then ((spec_l1Read.f k (rdOf ByteArray.empty x4 5)).bind fun bt167 => (if 7 < (x4.length : Int) then ((spec_l1Read.f k (rdOf ByteArray.empty x4 7)).bind fun bt170 => (spec_ParseLead.l0 k x0 0 bt160.1 bt164.1 bt167.1 bt170.1 0)) else (none))) else (none))) else (none)) else (none)) else (none))) else (none))
def spec_ParseLead.l0 : Nat → ByteArray → Int → Int → Int → Int → Int → Int → Option (Int × Int × Int × Int × Int × Bool)
 | 0, _, _, _, _, _, _, _ => none
 | k + 1, x0, x6, x159000, x159001, x159002, x159003, x159004 => if x6 < 4 then ((spec_l18One.f x159000 x159001 x159002 x159003 x6).bind fun t172 => (if t172 = true then ((spec_l18Text.f k x159000 x159001 x159002 x159003 x6).bind fun t173 => (if t173.toList = x0.toList then (some (x159000, x159001, x159002, x159003, x6, true)) else (spec_ParseLead.l0 k x0 (wrap64 (x6 + 1)) x159000 x159001 x159002 x159003 x6))) else (spec_ParseLead.l0 k x0 (wrap64 (x6 + 1)) x159000 x159001 x159002 x159003 x6))) else (some (0, 0, 0, 0, 0, false))
end
def spec_ParseLead.f (k : Nat) (a0 : ByteArray) : Option (Int × Int × Int × Int × Int × Bool) := (spec_l1Split.f k a0 32).bind fun t154 => (if (a0.size : Int) > 50 then (spec_ParseLead.j0 k a0 t154 true) else (if (t154.length : Int) = 9 then (if 3 < (t154.length : Int) then (spec_ParseLead.j0 k a0 t154 (decide (((rdOf ByteArray.empty t154 3).size : Int) < 2))) else (none)) else (spec_ParseLead.j0 k a0 t154 true)))
theorem spec_ParseLead.mono_l : ∀ k, (∀ y0 y1 y2, LeO (spec_ParseLead.j0 k y0 y1 y2) (spec_ParseLead.j0 (k + 1) y0 y1 y2)) ∧ (∀ y0 y1 y2 y3 y4 y5 y6, LeO (spec_ParseLead.l0 k y0 y1 y2 y3 y4 y5 y6) (spec_ParseLead.l0 (k + 1) y0 y1 y2 y3 y4 y5 y6))
 | 0 => ⟨fun _ _ _ r h => by simp [spec_ParseLead.j0] at h, fun _ _ _ _ _ _ _ r h => by simp [spec_ParseLead.l0] at h⟩
 | k + 1 => by
  obtain ⟨ih0, ih1⟩ := spec_ParseLead.mono_l k
  refine ⟨?_, ?_⟩
  ·intro y0 y1 y2
   unfold spec_ParseLead.j0
   repeat' with_reducible first | apply ih0 | apply ih1 | apply spec_l18Text.mono | apply spec_l1Read.mono | apply spec_l1Split.mono | exact LeO.refl _ | exact LeO.none _ | refine LeO.ite ?_ ?_ | refine LeO.bind ?_ (fun _ => ?_)
  ·intro y0 y1 y2 y3 y4 y5 y6
   unfold spec_ParseLead.l0
   repeat' with_reducible first | apply ih0 | apply ih1 | apply spec_l18Text.mono | apply spec_l1Read.mono | apply spec_l1Split.mono | exact LeO.refl _ | exact LeO.none _ | refine LeO.ite ?_ ?_ | refine LeO.bind ?_ (fun _ => ?_)
theorem spec_ParseLead.mono : ∀ a0 k, LeO (spec_ParseLead.f k a0) (spec_ParseLead.f (k + 1) a0) := by
 intro a0 k
 obtain ⟨ih0, ih1⟩ := spec_ParseLead.mono_l k
 unfold spec_ParseLead.f
 repeat' with_reducible first | apply ih0 | apply ih1 | apply spec_l18Text.mono | apply spec_l1Read.mono | apply spec_l1Split.mono | exact LeO.refl _ | exact LeO.none _ | refine LeO.ite ?_ ?_ | refine LeO.bind ?_ (fun _ => ?_)
def spec_ParseLead.T6 : Bool × List (List Nat × List Nat) := (true, [([], []), ([0], [0]), ([1], [1]), ([], []), ([3], [3]), ([4], [4]), ([5], [5]), ([6], [6]), ([2, 7], [2, 7]), ([8], [8]), ([9], [9]), ([10], [10]), ([10], [10]), ([0, 1, 2, 3, 4, 5, 6, 7, 8, 9, 10, 11], []), ([13, 11, 9, 0, 1, 2, 3, 4, 5, 6, 7, 8, 9, 10, 11], [11, 13])])
def spec_ParseLead.B6 : List Nat := [0, 1, 3, 0, 8, 24, 56, 120, 255, 511, 1023, 2047, 2047, 4095, 12287]
theorem spec_ParseLead.tab6 : rtab .any (opsOf Tryd.f9 6) = spec_ParseLead.T6 := by kernel_rfl
theorem spec_ParseLead.bits6 : waitsOk spec_ParseLead.T6.2 spec_ParseLead.B6 = true := by kernel_rfl
set_option maxHeartbeats 8000000 in
set_option maxRecDepth 100000 in
theorem spec_ParseLead.calls (k : Nat) (a0 : ByteArray) (r1 r2 r3 r4 r5 : Int) (r6 : Bool) (w : World) (h : spec_ParseLead.f k a0 = some (r1, r2, r3, r4, r5, r6)) :
  Calls Tryd.prog 9 #[.string a0] w fun e w' => e = .returned (.tuple #[.agg #[.int .i64 r1, .int .i64 r2, .int .i64 r3, .int .i64 r4, .int .i64 r5], .bool r6]) ∧ Below w.heap.size w w' := by
 have hu26 := Tryd.underlying26
 have HB := Aside0.mk (Below.refl w.heap.size w)
 have H := h
 clear h
 unfold spec_ParseLead.f at H
 replace H := bA H
 obtain ⟨t154, A2, H⟩ := H
 have HC3 := Aside0.mk H
 clear H
 go_enter Tryd.func9, Tryd.ntmps9
 go_upto_region 2 with (first | ((with_reducible refine gD 2 ?_); (try (refine gate_guard (by rfl) ?_; dsimp only)); refine bxE 2 26 #[.int .i64 0, .int .i64 0, .int .i64 0, .int .i64 0, .int .i64 0] fun gb153 w4 hg hbox hb => ?_; have BK153 := Aside0.mk hbox; have GE153 := gB HB hg; replace HB := uB HB hb; clear hb hbox hg) | ((with_reducible refine gate_callee (f := 27) rfl ?_); refine goesL_ (some 8) rfl rfl Tryd.func27 (by kernel_rfl) rfl #[.string a0, .int .u8 32] rfl argsB ?_; (with_reducible refine (spec_l1Split.calls k a0 32 t154 _ A2.out).mono ?_); rintro e w5 ⟨v155, rfl, ho0, hb⟩; refine ⟨_, rfl, ?_⟩; have HO156 := Aside0.mk (Kd.R_lower ho0 (below_size (bW HB))); replace BK153 := uK BK153 hb; replace HB := uB HB hb; (try clear hb); (try clear hk); (try clear ho0)))
 (try simp only [Act.put, List.setIfInBounds_toArray, List.set_cons_zero, List.set_cons_succ])
 go_cut [23] (fun v23 wc => ∃ (kq : Nat) (x23_2 : Bool), v23 = .bool x23_2 ∧ Aside0 (spec_ParseLead.j0 kq a0 t154 x23_2 = some (r1, r2, r3, r4, r5, r6)) ∧ Aside0 (kq ≤ k) ∧ Aside0 (Kd.R Kd.string 9 wc w.heap.size (fun _ => True) v155 t154) ∧ Aside0 (wc.heap[gb153]? = some (.cells #[.int .i64 0, .int .i64 0, .int .i64 0, .int .i64 0, .int .i64 0] 26 (0, 0))) ∧ Aside0 (Below w.heap.size w wc))
 case first =>
  have H := HC3.out
  clear HC3
  replace H := ifD H
  rcases H with ⟨H, c6, c6b0⟩ | ⟨H, c6, c6b0⟩
  ·have c6b1 : decide (50 < a0.size) = true := decide_eq_true (by omega)
   clear c6
   (first | rw [c6b0] | rw [c6b1] | (simp only [i64_w, i32_w]; rw [c6b0]) | skip)
   have H' := Aside0.mk H
   clear H
   go_wp2
   go_meet
   case rel => exact ⟨_, (true), rB, H', leB, ⟨upR HO156.out⟩, (aK BK153), (aB HB)⟩
  ·have c6b1 : decide (50 < a0.size) = false := decide_eq_false (by omega)
   clear c6
   (first | rw [c6b0] | rw [c6b1] | (simp only [i64_w, i32_w]; rw [c6b0]) | skip)
   replace H := ifI H
   rcases H with ⟨H, -, c7b0, c7b1⟩ | ⟨H, c7, c7b0, c7b1⟩
   ·by_cases c8 : 3 < (t154.length : Int)
    ·rw [if_pos c8] at H
     have c8b0 : decide (3 < (t154.length : Int)) = true := decide_eq_true c8
     have c8b1 : decide (3 < t154.length) = true := decide_eq_true (by omega)
     clear c8
     have H' := Aside0.mk H
     clear H
     obtain ⟨Ao9, co9, eo9⟩ := Kd.R_slice HO156.out
     subst eo9
     have p157 : 0 ≤ (3 : Int) := (by omega)
     have q157 : 3 < (t154.length : Int) := of_decide_eq_true asmB
     obtain ⟨ad157, e157, hx157_0⟩ := Kd.at_string (Kd.R_reads' HO156.out).2.2 3 p157 q157
     cases e157
     (try simp only [show (3 : Int).toNat = 3 from rfl, Nat.reduceMul, Nat.reduceEqDiff, Go.Addr.add, ↓reduceIte] at hx157_0)
     have qi157 : (3 < t154.length) = True := eq_true (by omega)
     (try rw [show ((3 : Int)).toNat = 3 from rfl] at hx157_0)
     replace p157 := eq_true p157
     replace q157 := eq_true q157
     go_wp2
     go_meet
     case rel => exact ⟨_, (decide (((rdOf ByteArray.empty t154 3).size : Int) < 2)), rB, H', leB, ⟨upR HO156.out⟩, (aK BK153), (aB HB)⟩
    ·rw [if_neg c8] at H
     exact absurd H (by simp)
   ·have H' := Aside0.mk H
    clear H
    obtain ⟨Ao10, co10, eo10⟩ := Kd.R_slice HO156.out
    subst eo10
    go_wp2
    go_meet
    case rel => exact ⟨_, (true), rB, H', leB, ⟨upR HO156.out⟩, (aK BK153), (aB HB)⟩
 case rest =>
  clear HC3
  obtain ⟨kq, x23_2, rfl, HA, HJ2, HO_4, BK153, HB⟩ := hcut
  cases kq with
  | zero => exact absurd HA.out (by simp [spec_ParseLead.j0])
  | succ kj2 =>
   have H := HA.out
   clear HA
   simp only [spec_ParseLead.j0] at H
   rcases Bool.eq_false_or_eq_true x23_2 with rfl | rfl
   ·replace H := iT rfl H
    simp only [Option.some.injEq, Prod.mk.injEq] at H
    obtain ⟨rfl, rfl, rfl, rfl, rfl, rfl⟩ := H
    have ⟨hcz12_0, hcz12_1, hcz12_2, hcz12_3, hcz12_4, hfz12_0⟩ := cz5 BK153
    go_wp2
    refine bodyPost_ret (results_ct rfl _ _ gb153 26 #[.int .i64 0, .int .i64 0, .int .i64 0, .int .i64 0, .int .i64 0] (0, 0) _ rfl (by exact pW BK153) Tryd.underlying26 rfl (by kernel_rfl)) rfl ?_
    exact ⟨eB, (bW HB)⟩
   ·replace H := iF (by decide) H
    by_cases c13 : 1 < (t154.length : Int)
    ·rw [if_pos c13] at H
     have c13b0 : decide (1 < (t154.length : Int)) = true := decide_eq_true c13
     have c13b1 : decide (1 < t154.length) = true := decide_eq_true (by omega)
     clear c13
     replace H := Option.bind_eq_some_iff.mp H
     obtain ⟨⟨t160, t161⟩, A140, H⟩ := H
     replace H : (if 3 < (t154.length : Int) then (if 0 ≤ (wrap64 (((rdOf ByteArray.empty t154 3).size : Int) - 1)) then (if (wrap64 (((rdOf ByteArray.empty t154 3).size : Int) - 1)) ≤ ((rdOf ByteArray.empty t154 3).size : Int) then ((spec_l1Read.f kj2 ((rdOf ByteArray.empty t154 3).extract 0 ((wrap64 (((rdOf ByteArray.empty t154 3).size : Int) - 1)) : Int).toNat)).bind fun bt164 => (if 5 < (t154.length : Int) then ((spec_l1Read.f kj2 (rdOf ByteArray.empty t154 5)).bind fun bt167 => (if 7 < (t154.length : Int) then ((spec_l1Read.f kj2 (rdOf ByteArray.empty t154 7)).bind fun bt170 => (spec_ParseLead.l0 kj2 a0 0 t160 bt164.1 bt167.1 bt170.1 0)) else (none))) else (none))) else (none)) else (none)) else (none)) = some (r1, r2, r3, r4, r5, r6) := H
     have A14 := Aside0.mk A140
     clear A140
     by_cases c15 : 3 < (t154.length : Int)
     ·rw [if_pos c15] at H
      have c15b0 : decide (3 < (t154.length : Int)) = true := decide_eq_true c15
      have c15b1 : decide (3 < t154.length) = true := decide_eq_true (by omega)
      clear c15
      obtain ⟨ji16, hji16⟩ : ∃ j_ : Int, (wrap64 (((rdOf ByteArray.empty t154 3).size : Int) - 1)) = j_ := ⟨_, rfl⟩
      replace H : (if 0 ≤ (ji16) then (if (ji16) ≤ ((rdOf ByteArray.empty t154 3).size : Int) then ((spec_l1Read.f kj2 ((rdOf ByteArray.empty t154 3).extract 0 ((ji16) : Int).toNat)).bind fun bt164 => (if 5 < (t154.length : Int) then ((spec_l1Read.f kj2 (rdOf ByteArray.empty t154 5)).bind fun bt167 => (if 7 < (t154.length : Int) then ((spec_l1Read.f kj2 (rdOf ByteArray.empty t154 7)).bind fun bt170 => (spec_ParseLead.l0 kj2 a0 0 t160 bt164.1 bt167.1 bt170.1 0)) else (none))) else (none))) else (none)) else (none)) = some (r1, r2, r3, r4, r5, r6) := by first | (rw [hji16] at H; exact H) | (simp only [hji16] at H ⊢; exact H)
      (try rw [hji16] at A14)
      have hji16w : (IntKind.i64.wrap (((rdOf ByteArray.empty t154 3).size : Int) - 1)) = ji16 := (i64_w _).trans hji16
      by_cases c17 : 0 ≤ (ji16)
      ·rw [if_pos c17] at H
       have c17b0 := eq_true c17
       have c17b1 : decide (0 ≤ (ji16)) = true := decide_eq_true c17
       clear c17
       by_cases c18 : (ji16) ≤ ((rdOf ByteArray.empty t154 3).size : Int)
       ·rw [if_pos c18] at H
        have c18b0 := eq_true c18
        have c18b1 : decide ((ji16) ≤ ((rdOf ByteArray.empty t154 3).size : Int)) = true := decide_eq_true c18
        clear c18
        replace H := Option.bind_eq_some_iff.mp H
        obtain ⟨⟨t164, t165⟩, A190, H⟩ := H
        replace H : (if 5 < (t154.length : Int) then ((spec_l1Read.f kj2 (rdOf ByteArray.empty t154 5)).bind fun bt167 => (if 7 < (t154.length : Int) then ((spec_l1Read.f kj2 (rdOf ByteArray.empty t154 7)).bind fun bt170 => (spec_ParseLead.l0 kj2 a0 0 t160 t164 bt167.1 bt170.1 0)) else (none))) else (none)) = some (r1, r2, r3, r4, r5, r6) := H
        have A19 := Aside0.mk A190
        clear A190
        by_cases c20 : 5 < (t154.length : Int)
        ·rw [if_pos c20] at H
         have c20b0 : decide (5 < (t154.length : Int)) = true := decide_eq_true c20
         have c20b1 : decide (5 < t154.length) = true := decide_eq_true (by omega)
         clear c20
         replace H := Option.bind_eq_some_iff.mp H
         obtain ⟨⟨t167, t168⟩, A210, H⟩ := H
         replace H : (if 7 < (t154.length : Int) then ((spec_l1Read.f kj2 (rdOf ByteArray.empty t154 7)).bind fun bt170 => (spec_ParseLead.l0 kj2 a0 0 t160 t164 t167 bt170.1 0)) else (none)) = some (r1, r2, r3, r4, r5, r6) := H
         have A21 := Aside0.mk A210
         clear A210
         by_cases c22 : 7 < (t154.length : Int)
         ·rw [if_pos c22] at H
          have c22b0 : decide (7 < (t154.length : Int)) = true := decide_eq_true c22
          have c22b1 : decide (7 < t154.length) = true := decide_eq_true (by omega)
          clear c22
          replace H := Option.bind_eq_some_iff.mp H
          obtain ⟨⟨t170, t171⟩, A230, H⟩ := H
          replace H : (spec_ParseLead.l0 kj2 a0 0 t160 t164 t167 t170 0) = some (r1, r2, r3, r4, r5, r6) := H
          have A23 := Aside0.mk A230
          clear A230
          have H' := Aside0.mk H
          clear H
          try go_wp2_with (first | ((with_reducible refine gD 5 ?_); (try (refine gate_guard (by rfl) ?_; dsimp only)); refine bxE 5 26 #[.int .i64 0, .int .i64 0, .int .i64 0, .int .i64 0, .int .i64 0] fun gb158 w24 hg hbox hb => ?_; have BK158 := Aside0.mk hbox; have GE158 := gB HB hg; have ⟨NB153_158, NB158_153⟩ := nB BK153 hg; replace HO_4 := uR HO_4 hb; replace BK153 := uK BK153 hb; replace HB := uB HB hb; clear hb hbox hg; have hnb25 := NB158_153.out; have hnc25 := NB153_158.out; have ⟨hcz26_0, hcz26_1, hcz26_2, hcz26_3, hcz26_4, hfz26_0⟩ := cz5 BK158; obtain ⟨Ao27, co27, eo27⟩ := Kd.R_slice HO_4.out; subst eo27; have p159 : 0 ≤ (1 : Int) := (by omega); have q159 : 1 < (t154.length : Int) := of_decide_eq_true asmB; obtain ⟨ad159, e159, hx159_0⟩ := Kd.at_string (Kd.R_reads' HO_4.out).2.2 1 p159 q159; cases e159; (try simp only [show (1 : Int).toNat = 1 from rfl, Nat.reduceMul, Nat.reduceEqDiff, Go.Addr.add, ↓reduceIte] at hx159_0); have qi159 : (1 < t154.length) = True := eq_true (by omega); (try rw [show ((1 : Int)).toNat = 1 from rfl] at hx159_0); have hn159_0 : ad159.block ≠ gb158 := Kd.own_blk (Kd.R_ne HO_4.out BK158.out (by decide)); have hn159_1 : ad159.block ≠ gb158 := Kd.own_blk (Kd.R_ne HO_4.out BK158.out (by decide)); have hn159_2 : ad159.block ≠ gb158 := Kd.own_blk (Kd.R_ne HO_4.out BK158.out (by decide)); have hn159_3 : ad159.block ≠ gb158 := Kd.own_blk (Kd.R_ne HO_4.out BK158.out (by decide)); have hn159_4 : ad159.block ≠ gb158 := Kd.own_blk (Kd.R_ne HO_4.out BK158.out (by decide)); replace hx159_0 := (cell_far (p := ⟨gb158, 0, none⟩) (by first | (rw [add_block]; exact hn159_0) | (show (Addr.add _ _).block ≠ _; rw [add_block]; exact hn159_0) | exact hn159_0) (.int .i64 0)).trans hx159_0; replace hx159_0 := (cell_far (p := ⟨gb158, 1, none⟩) (by first | (rw [add_block]; exact hn159_1) | (show (Addr.add _ _).block ≠ _; rw [add_block]; exact hn159_1) | exact hn159_1) (.int .i64 0)).trans hx159_0; replace hx159_0 := (cell_far (p := ⟨gb158, 2, none⟩) (by first | (rw [add_block]; exact hn159_2) | (show (Addr.add _ _).block ≠ _; rw [add_block]; exact hn159_2) | exact hn159_2) (.int .i64 0)).trans hx159_0; replace hx159_0 := (cell_far (p := ⟨gb158, 3, none⟩) (by first | (rw [add_block]; exact hn159_3) | (show (Addr.add _ _).block ≠ _; rw [add_block]; exact hn159_3) | exact hn159_3) (.int .i64 0)).trans hx159_0; replace hx159_0 := (cell_far (p := ⟨gb158, 4, none⟩) (by first | (rw [add_block]; exact hn159_4) | (show (Addr.add _ _).block ≠ _; rw [add_block]; exact hn159_4) | exact hn159_4) (.int .i64 0)).trans hx159_0; clear hn159_0; clear hn159_1; clear hn159_2; clear hn159_3; clear hn159_4; replace p159 := eq_true p159; replace q159 := eq_true q159) | ((with_reducible refine gC 28 ?_); refine lA (some 30) Tryd.func28 (spec_l1Read.calls kj2 (rdOf ByteArray.empty t154 1) t160 t161 _ A14.out) ?_; intro w28 hb; replace HO_4 := Aside0.mk (Kd.R_below (by (with_reducible repeat (first | apply Kd.R_alloc | apply Kd.R_drewN | apply Kd.R_drew)); exact (Kd.R_mono (Kd.R_far (p := ⟨gb158, 4, none⟩) (Kd.R_far (p := ⟨gb158, 3, none⟩) (Kd.R_far (p := ⟨gb158, 2, none⟩) (Kd.R_far (p := ⟨gb158, 1, none⟩) (Kd.R_far (p := ⟨gb158, 0, none⟩) (Kd.R_types HO_4.out BK158.out (by decide)) (fun _ hk => hk.2) (.int .i64 0)) (fun _ hk => hk.2) (.int .i64 0)) (fun _ hk => hk.2) (.int .i64 0)) (fun _ hk => hk.2) (.int .i64 0)) (fun _ hk => hk.2) (.int .i64 0)) (fun _ h_ => h_.1))) hb); replace BK153 := uQ BK153 hb #[.int .i64 0, .int .i64 0, .int .i64 0, .int .i64 0, .int .i64 0]; replace BK158 := uQ BK158 hb #[.int .i64 0, .int .i64 0, .int .i64 0, .int .i64 0, .int .i64 0]; replace HB := uB HB hb; (try clear hb); (try clear hk); have ⟨hcz29_0, hcz29_1, hcz29_2, hcz29_3, hcz29_4, hfz29_0⟩ := cz5 BK158))
          have n0_ : Aside0 (Kd.R Kd.string 9 (w28.setCell ⟨gb158, 0, none⟩ (.int .i64 t160)) w.heap.size (fun _ => True) (.slice (some ad159) t154.length co27) t154) := ⟨by (with_reducible repeat (first | apply Kd.R_alloc | apply Kd.R_drewN | apply Kd.R_drew)); exact Kd.R_mono (Kd.R_far (p := ⟨gb158, 0, none⟩) (Kd.R_types HO_4.out BK158.out (by decide)) (fun _ hk => hk.2) (.int .i64 t160)) (fun _ hk => trivial)⟩
          have n1_ : Aside0 ((w28.setCell ⟨gb158, 0, none⟩ (.int .i64 t160)).heap[gb153]? = some (.cells #[.int .i64 0, .int .i64 0, .int .i64 0, .int .i64 0, .int .i64 0] 26 (0, 0))) := ⟨by exact pW BK153⟩
          have n2_ : Aside0 ((w28.setCell ⟨gb158, 0, none⟩ (.int .i64 t160)).heap[gb158]? = some (.cells #[.int .i64 t160, .int .i64 0, .int .i64 0, .int .i64 0, .int .i64 0] 26 (0, 0))) := ⟨by exact pW BK158⟩
          have n3_ : Aside0 (Below w.heap.size w (w28.setCell ⟨gb158, 0, none⟩ (.int .i64 t160))) := (aB HB)
          (try clear HO_4)
          (try clear BK153)
          (try clear BK158)
          (try clear HB)
          generalize (w28.setCell ⟨gb158, 0, none⟩ (.int .i64 t160)) = w30 at n0_ n1_ n2_ n3_ ⊢
          have HO_4 := n0_
          have BK153 := n1_
          have BK158 := n2_
          have HB := n3_
          clear n0_ n1_ n2_ n3_
          replace HO_4 := Aside0.mk (Kd.R_drew HO_4.out)
          replace BK153 := dK BK153
          replace BK158 := dK BK158
          replace HB := Aside0.mk (below_drew1 HB.out)
          have p162 : 0 ≤ (3 : Int) := (by omega)
          have q162 : 3 < (t154.length : Int) := of_decide_eq_true asmB
          obtain ⟨ad162, e162, hx162_0⟩ := Kd.at_string (Kd.R_reads' HO_4.out).2.2 3 p162 q162
          obtain rfl : ad159 = ad162 := (by injection e162)
          (try simp only [show (3 : Int).toNat = 3 from rfl, Nat.reduceMul, Nat.reduceEqDiff, Go.Addr.add, ↓reduceIte] at hx162_0)
          have qi162 : (3 < t154.length) = True := eq_true (by omega)
          (try rw [show ((3 : Int)).toNat = 3 from rfl] at hx162_0)
          replace p162 := eq_true p162
          replace q162 := eq_true q162
          have p163 : 0 ≤ (3 : Int) := (by omega)
          have q163 : 3 < (t154.length : Int) := of_decide_eq_true asmB
          obtain ⟨ad163, e163, hx163_0⟩ := Kd.at_string (Kd.R_reads' HO_4.out).2.2 3 p163 q163
          obtain rfl : ad159 = ad163 := (by injection e163)
          (try simp only [show (3 : Int).toNat = 3 from rfl, Nat.reduceMul, Nat.reduceEqDiff, Go.Addr.add, ↓reduceIte] at hx163_0)
          have qi163 : (3 < t154.length) = True := eq_true (by omega)
          (try rw [show ((3 : Int)).toNat = 3 from rfl] at hx163_0)
          replace p163 := eq_true p163
          replace q163 := eq_true q163
          refine sA (n := 15) (S := fun w' => w'.cell? ⟨ad159.block, ad159.off + 3, none⟩ = some (.string (rdOf ByteArray.empty t154 3)) ∧ w'.cell? ⟨ad159.block, ad159.off + 3, none⟩ = some (.string (rdOf ByteArray.empty t154 3))) (ds := []) spec_ParseLead.tab6 spec_ParseLead.bits6 #[false, false, false, false, false, false, false, false, false, false, false, false, false, false, false] ⟨hx162_0, hx163_0⟩ fun hHeld HT_ HW_ => ?_
          generalize w30.drew = w31 at HO_4 BK153 BK158 HB hx162_0 hx163_0 hHeld ⊢
          refine pA 0 35 HT_ ?_
          refine pA 1 36 HT_ ?_
          refine pA 3 38 HT_ ?_
          refine pA 4 39 HT_ ?_
          refine tA 2 37 HT_ HW_ hHeld ?_
          refine tA 5 40 HT_ HW_ hHeld ?_
          refine pA 6 41 HT_ ?_
          refine pA 7 42 HT_ ?_
          refine pA 8 43 HT_ ?_
          refine oA 9 (some 44) HT_ fun K hK => ?_
          refine goes_ Tryd.func28 (by kernel_rfl) rfl #[.string ((rdOf ByteArray.empty t154 3).extract 0 ((ji16) : Int).toNat)] (by rfl) rfl rfl (by (try simp only [List.map_toArray, List.map_cons, List.map_nil]); first | done | (simp only [hji16]; rfl) | rfl | (simp only [List.length_drop, List.length_take]; rfl)) ?_
          with_reducible refine (spec_l1Read.calls kj2 ((rdOf ByteArray.empty t154 3).extract 0 ((ji16) : Int).toNat) t164 t165 _ A19.out).mono ?_
          rintro e w32 ⟨rfl, hb⟩
          have HS0_ := (hb.cell (World.block_lt_of_cell? _ _ (hHeld.1))).trans (hHeld.1)
          have HS1_ := (hb.cell (World.block_lt_of_cell? _ _ (hHeld.2))).trans (hHeld.2)
          refine ⟨_, rfl, ?_⟩
          replace HO_4 := uR HO_4 hb
          replace BK153 := uK BK153 hb
          replace BK158 := uK BK158 hb
          replace HB := uB HB hb
          (try clear hb)
          (try clear hk)
          refine hK.out _ _ ⟨HS0_, HS1_⟩ (fun hHeld => ?_)
          clear hK K
          refine nA ?_ (some 44)
          refine pA 10 34 HT_ ?_
          refine pA 11 45 HT_ ?_
          refine pA 12 46 HT_ ?_
          refine pA 13 47 HT_ ?_
          refine oA 14 none HT_ fun K hK => ?_
          have hs33 := ci BK158.out 1 0 rfl
          have hfs33 := blk_frozen BK158.out 1
          have hns33_0 := NB153_158.out
          have hms33_0 := NB158_153.out
          refine skip_ (w1 := ?_) (by rfl) rfl ?_ ?_
          rotate_left
          ·go_simp
           rfl
          refine hK.out _ _ ⟨((cell_far (p := ⟨gb158, _, none⟩) (by first | exact Kd.own_blk (Kd.R_ne HO_4.out BK158.out (by decide)) | (rw [add_block]; exact Kd.own_blk (Kd.R_ne HO_4.out BK158.out (by decide))) | (show (Addr.add _ _).block ≠ _; rw [add_block]; exact Kd.own_blk (Kd.R_ne HO_4.out BK158.out (by decide))) | (dsimp only; exact Kd.own_blk (Kd.R_ne HO_4.out BK158.out (by decide)))) _).trans (hHeld.1)), ((cell_far (p := ⟨gb158, _, none⟩) (by first | exact Kd.own_blk (Kd.R_ne HO_4.out BK158.out (by decide)) | (rw [add_block]; exact Kd.own_blk (Kd.R_ne HO_4.out BK158.out (by decide))) | (show (Addr.add _ _).block ≠ _; rw [add_block]; exact Kd.own_blk (Kd.R_ne HO_4.out BK158.out (by decide))) | (dsimp only; exact Kd.own_blk (Kd.R_ne HO_4.out BK158.out (by decide)))) _).trans (hHeld.2))⟩ (fun hHeld => ?_)
          clear hK K
          refine done_ (done_of HT_.out (by kernel_rfl)) ?_
          have p166 : 0 ≤ (5 : Int) := (by omega)
          have q166 : 5 < (t154.length : Int) := of_decide_eq_true asmB
          obtain ⟨ad166, e166, hx166_0⟩ := Kd.at_string (Kd.R_reads' HO_4.out).2.2 5 p166 q166
          obtain rfl : ad159 = ad166 := (by injection e166)
          (try simp only [show (5 : Int).toNat = 5 from rfl, Nat.reduceMul, Nat.reduceEqDiff, Go.Addr.add, ↓reduceIte] at hx166_0)
          have qi166 : (5 < t154.length) = True := eq_true (by omega)
          (try rw [show ((5 : Int)).toNat = 5 from rfl] at hx166_0)
          have hn166_0 : ad159.block ≠ gb158 := Kd.own_blk (Kd.R_ne HO_4.out BK158.out (by decide))
          replace hx166_0 := (cell_far (p := ⟨gb158, 1, none⟩) (by first | (rw [add_block]; exact hn166_0) | (show (Addr.add _ _).block ≠ _; rw [add_block]; exact hn166_0) | exact hn166_0) (.int .i64 t164)).trans hx166_0
          clear hn166_0
          replace p166 := eq_true p166
          replace q166 := eq_true q166
          try go_wp2_with (first | ((with_reducible refine gC 28 ?_); refine lA (some 52) Tryd.func28 (spec_l1Read.calls kj2 (rdOf ByteArray.empty t154 5) t167 t168 _ A21.out) ?_; intro w34 hb; replace HO_4 := Aside0.mk (Kd.R_below (by (with_reducible repeat (first | apply Kd.R_alloc | apply Kd.R_drewN | apply Kd.R_drew)); exact (Kd.R_mono (Kd.R_far (p := ⟨gb158, 1, none⟩) (Kd.R_types HO_4.out BK158.out (by decide)) (fun _ hk => hk.2) (.int .i64 t164)) (fun _ h_ => h_.1))) hb); replace BK153 := uQ BK153 hb #[.int .i64 0, .int .i64 0, .int .i64 0, .int .i64 0, .int .i64 0]; replace BK158 := uQ BK158 hb #[.int .i64 t160, .int .i64 t164, .int .i64 0, .int .i64 0, .int .i64 0]; replace HB := uB HB hb; (try clear hb); (try clear hk); have ⟨hcz35_0, hcz35_1, hcz35_2, hcz35_3, hcz35_4, hfz35_0⟩ := cz5 BK158; have p169 : 0 ≤ (7 : Int) := (by omega); have q169 : 7 < (t154.length : Int) := of_decide_eq_true asmB; obtain ⟨ad169, e169, hx169_0⟩ := Kd.at_string (Kd.R_reads' HO_4.out).2.2 7 p169 q169; obtain rfl : ad159 = ad169 := (by injection e169); (try simp only [show (7 : Int).toNat = 7 from rfl, Nat.reduceMul, Nat.reduceEqDiff, Go.Addr.add, ↓reduceIte] at hx169_0); have qi169 : (7 < t154.length) = True := eq_true (by omega); (try rw [show ((7 : Int)).toNat = 7 from rfl] at hx169_0); have hn169_0 : ad159.block ≠ gb158 := Kd.own_blk (Kd.R_ne HO_4.out BK158.out (by decide)); replace hx169_0 := (cell_far (p := ⟨gb158, 2, none⟩) (by first | (rw [add_block]; exact hn169_0) | (show (Addr.add _ _).block ≠ _; rw [add_block]; exact hn169_0) | exact hn169_0) (.int .i64 t167)).trans hx169_0; clear hn169_0; replace p169 := eq_true p169; replace q169 := eq_true q169) | ((with_reducible refine gC 28 ?_); refine lA (some 60) Tryd.func28 (spec_l1Read.calls kj2 (rdOf ByteArray.empty t154 7) t170 t171 _ A23.out) ?_; intro w36 hb; replace HO_4 := Aside0.mk (Kd.R_below (by (with_reducible repeat (first | apply Kd.R_alloc | apply Kd.R_drewN | apply Kd.R_drew)); exact (Kd.R_mono (Kd.R_far (p := ⟨gb158, 2, none⟩) (Kd.R_types HO_4.out BK158.out (by decide)) (fun _ hk => hk.2) (.int .i64 t167)) (fun _ h_ => h_.1))) hb); replace BK153 := uQ BK153 hb #[.int .i64 0, .int .i64 0, .int .i64 0, .int .i64 0, .int .i64 0]; replace BK158 := uQ BK158 hb #[.int .i64 t160, .int .i64 t164, .int .i64 t167, .int .i64 0, .int .i64 0]; replace HB := uB HB hb; (try clear hb); (try clear hk); have ⟨hcz37_0, hcz37_1, hcz37_2, hcz37_3, hcz37_4, hfz37_0⟩ := cz5 BK158))
          go_loopg [6] kj2 (fun kq v6 w' => ∃ (x6_2 x154000_2 x154001_2 x154002_2 x154003_2 x154004_2 x159004_2 : Int), v6 = .int .i64 x6_2 ∧ Aside0 (spec_ParseLead.l0 kq a0 x6_2 t160 t164 t167 t170 x159004_2 = some (r1, r2, r3, r4, r5, r6)) ∧ Aside0 (kq ≤ kj2) ∧ Aside0 (w'.heap[gb153]? = some (.cells #[.int .i64 x154000_2, .int .i64 x154001_2, .int .i64 x154002_2, .int .i64 x154003_2, .int .i64 x154004_2] 26 (0, 0))) ∧ Aside0 (w'.heap[gb158]? = some (.cells #[.int .i64 t160, .int .i64 t164, .int .i64 t167, .int .i64 t170, .int .i64 x159004_2] 26 (0, 0))) ∧ Aside0 (Below w.heap.size w w'))
          case atStart => exact ⟨(0), (0), (0), (0), (0), (0), (0), rB, H', ⟨Nat.le_refl _⟩, ⟨by exact pW BK153⟩, ⟨by exact pW BK158⟩, (aB HB)⟩
          case round =>
           clear H'
           try clear c13
           try clear c13b0
           try clear c13b1
           try clear c15
           try clear c15b0
           try clear c15b1
           try clear c17
           try clear c17b0
           try clear c17b1
           try clear c18
           try clear c18b0
           try clear c18b1
           try clear c20
           try clear c20b0
           try clear c20b1
           try clear c22
           try clear c22b0
           try clear c22b1
           try clear hcz26_0
           try clear hcz26_1
           try clear hcz26_2
           try clear hcz26_3
           try clear hcz26_4
           try clear hcz29_0
           try clear hcz29_1
           try clear hcz29_2
           try clear hcz29_3
           try clear hcz29_4
           try clear hcz35_0
           try clear hcz35_1
           try clear hcz35_2
           try clear hcz35_3
           try clear hcz35_4
           try clear hcz37_0
           try clear hcz37_1
           try clear hcz37_2
           try clear hcz37_3
           try clear hcz37_4
           try clear hfz26_0
           try clear hfz29_0
           try clear hfz35_0
           try clear hfz37_0
           try clear hx159_0
           try clear hx162_0
           try clear hx163_0
           try clear hx166_0
           try clear hx169_0
           try clear p159
           try clear p162
           try clear p163
           try clear p166
           try clear p169
           try clear q159
           try clear q162
           try clear q163
           try clear q166
           try clear q169
           obtain ⟨x6_2, x154000_2, x154001_2, x154002_2, x154003_2, x154004_2, x159004_2, rfl, HA, HK2, BK153, BK158, HB⟩ := hrel
           cases gk with
           | zero => exact absurd HA.out (by simp [spec_ParseLead.l0])
           | succ k2 =>
            have H := HA.out
            clear HA
            simp only [spec_ParseLead.l0] at H
            replace H := ifD H
            rcases H with ⟨H, -, c38b0⟩ | ⟨H, -, c38b0⟩
            ·replace H := bA H
             obtain ⟨t172, A39, H⟩ := H
             rcases Bool.eq_false_or_eq_true t172 with rfl | rfl
             ·replace H := iT rfl H
              replace H := bA H
              obtain ⟨t173, A41, H⟩ := H
              replace H := ifI H
              rcases H with ⟨H, -, c42b0, c42b1⟩ | ⟨H, c42, c42b0, c42b1⟩
              ·simp only [Option.some.injEq, Prod.mk.injEq] at H
               obtain ⟨rfl, rfl, rfl, rfl, rfl, rfl⟩ := H
               have ⟨hcz44_0, hcz44_1, hcz44_2, hcz44_3, hcz44_4, hfz44_0⟩ := cz5 BK158
               go_wp2_with (first | ((with_reducible refine gC 24 ?_); refine lA (some 71) Tryd.func24 (spec_l18One.calls t160 t164 t167 t170 x6_2 true _ A39.out) ?_; intro w45 hb; replace BK153 := uQ BK153 hb #[.int .i64 x154000_2, .int .i64 x154001_2, .int .i64 x154002_2, .int .i64 x154003_2, .int .i64 x154004_2]; replace BK158 := uQ BK158 hb #[.int .i64 t160, .int .i64 t164, .int .i64 t167, .int .i64 t170, .int .i64 x6_2]; replace HB := uB HB hb; (try clear hb); (try clear hk); have ⟨hcz46_0, hcz46_1, hcz46_2, hcz46_3, hcz46_4, hfz46_0⟩ := cz5 BK158) | (go_at_call 25; (with_reducible refine (spec_l18Text.calls k2 t160 t164 t167 t170 x6_2 t173 _ A41.out).mono ?_); rintro e w47 ⟨rfl, hb⟩; replace BK153 := uK BK153 hb; replace BK158 := uK BK158 hb; replace HB := uB HB hb; (try clear hb); (try clear hk); have ⟨hcz48_0, hcz48_1, hcz48_2, hcz48_3, hcz48_4, hfz48_0⟩ := cz5 BK158; have ⟨hcz49_0, hcz49_1, hcz49_2, hcz49_3, hcz49_4, hfz49_0⟩ := cz5 BK153))
               refine bodyPost_ret (results_ct rfl _ _ gb153 26 #[.int .i64 t160, .int .i64 t164, .int .i64 t167, .int .i64 t170, .int .i64 x6_2] (0, 0) _ rfl (by exact pW BK153) Tryd.underlying26 rfl (by kernel_rfl)) rfl ?_
               exact ⟨by first | rfl | (simp [errW_none, errW_some] <;> rfl) | (simp only [← hji16]; first | rfl | (simp [errW_none, errW_some] <;> rfl)) | (simp [*, errW_none, errW_some] <;> rfl), (bW HB)⟩
              ·have H' := Aside0.mk H
               clear H
               have ⟨hcz51_0, hcz51_1, hcz51_2, hcz51_3, hcz51_4, hfz51_0⟩ := cz5 BK158
               go_wp2_with (first | ((with_reducible refine gC 24 ?_); refine lA (some 71) Tryd.func24 (spec_l18One.calls t160 t164 t167 t170 x6_2 true _ A39.out) ?_; intro w52 hb; replace BK153 := uQ BK153 hb #[.int .i64 x154000_2, .int .i64 x154001_2, .int .i64 x154002_2, .int .i64 x154003_2, .int .i64 x154004_2]; replace BK158 := uQ BK158 hb #[.int .i64 t160, .int .i64 t164, .int .i64 t167, .int .i64 t170, .int .i64 x6_2]; replace HB := uB HB hb; (try clear hb); (try clear hk); have ⟨hcz53_0, hcz53_1, hcz53_2, hcz53_3, hcz53_4, hfz53_0⟩ := cz5 BK158) | (go_at_call 25; (with_reducible refine (spec_l18Text.calls k2 t160 t164 t167 t170 x6_2 t173 _ A41.out).mono ?_); rintro e w54 ⟨rfl, hb⟩; replace BK153 := uK BK153 hb; replace BK158 := uK BK158 hb; replace HB := uB HB hb; (try clear hb); (try clear hk)))
               go_roundg k2
               case measure => have := HJ2.out; have := HK2.out; omega
               case rel => exact ⟨(wrap64 (x6_2 + 1)), (x154000_2), (x154001_2), (x154002_2), (x154003_2), (x154004_2), (x6_2), rB, H', ⟨by have := HJ2.out; have := HK2.out; omega⟩, (aK BK153), (aK BK158), (aB HB)⟩
             ·replace H := iF (by decide) H
              have H' := Aside0.mk H
              clear H
              have ⟨hcz56_0, hcz56_1, hcz56_2, hcz56_3, hcz56_4, hfz56_0⟩ := cz5 BK158
              go_wp2_with (first | ((with_reducible refine gC 24 ?_); refine lA (some 71) Tryd.func24 (spec_l18One.calls t160 t164 t167 t170 x6_2 false _ A39.out) ?_; intro w57 hb; replace BK153 := uQ BK153 hb #[.int .i64 x154000_2, .int .i64 x154001_2, .int .i64 x154002_2, .int .i64 x154003_2, .int .i64 x154004_2]; replace BK158 := uQ BK158 hb #[.int .i64 t160, .int .i64 t164, .int .i64 t167, .int .i64 t170, .int .i64 x6_2]; replace HB := uB HB hb; (try clear hb); (try clear hk)))
              go_roundg k2
              case measure => have := HJ2.out; have := HK2.out; omega
              case rel => exact ⟨(wrap64 (x6_2 + 1)), (x154000_2), (x154001_2), (x154002_2), (x154003_2), (x154004_2), (x6_2), rB, H', ⟨by have := HJ2.out; have := HK2.out; omega⟩, (aK BK153), (aK BK158), (aB HB)⟩
            ·simp only [Option.some.injEq, Prod.mk.injEq] at H
             obtain ⟨rfl, rfl, rfl, rfl, rfl, rfl⟩ := H
             have ⟨hcz59_0, hcz59_1, hcz59_2, hcz59_3, hcz59_4, hfz59_0⟩ := cz5 BK153
             go_wp2
             refine bodyPost_ret (results_ct rfl _ _ gb153 26 #[.int .i64 0, .int .i64 0, .int .i64 0, .int .i64 0, .int .i64 0] (0, 0) _ rfl (by exact pW BK153) Tryd.underlying26 rfl (by kernel_rfl)) rfl ?_
             exact ⟨by first | rfl | (simp [errW_none, errW_some] <;> rfl) | (simp only [← hji16]; first | rfl | (simp [errW_none, errW_some] <;> rfl)) | (simp [*, errW_none, errW_some] <;> rfl), (bW HB)⟩
         ·rw [if_neg c22] at H
          exact absurd H (by simp)
        ·rw [if_neg c20] at H
         exact absurd H (by simp)
       ·rw [if_neg c18] at H
        exact absurd H (by simp)
      ·rw [if_neg c17] at H
       exact absurd H (by simp)
     ·rw [if_neg c15] at H
      exact absurd H (by simp)
    ·rw [if_neg c13] at H
     exact absurd H (by simp)

/-! ### strings_Split: function 29 -/
-- calls: none

def strings_Split.f (s sep : ByteArray) : Option (List ByteArray) := if s.size < 4294967281 ∧ 1 ≤ sep.size then some (Lib.splitB sep 0 (Lib.countB s sep) s) else none
theorem reps_strings_ (w : World) (base : Nat) (ok : Nat → Prop) : ∀ l : List ByteArray, Reps (Kd.string.M w base ok) 1 l (l.map Value.string) := by
 intro l
 refine ⟨by simp, fun j p hj => ?_⟩
 show ((l.map Value.string).drop (j * 1)).take 1 = [Value.string p]
 obtain ⟨hlt, rfl⟩ := List.getElem?_eq_some_iff.1 hj
 rw [Nat.mul_one, List.drop_eq_getElem_cons (by simpa using hlt)]
 simp
theorem strings_Split.calls (a0 a1 : ByteArray) (r : List ByteArray) (w : World) (h : strings_Split.f a0 a1 = some r) (hT : TabW w) :
  Calls Tryd.prog 29 #[.string a0, .string a1] w fun e w' => ∃ v0_ : Value, e = .returned (v0_) ∧ Kd.R Kd.string 9 w' w.heap.size (fun _ => True) v0_ r ∧ Below w.heap.size w w' := by
 obtain ⟨⟨h0, h1⟩, h⟩ := guard_some h
 obtain rfl := Option.some.inj h
 obtain ⟨m, hm⟩ := hT.2.2.1
 have hle := Lib.countB_le a1 h1 a0.size a0 (Nat.le_refl _)
 have hlen := Lib.splitB_all a1 h1 0 _ a0 rfl
 refine (Any.strings_Split Tryd.lays146 (by kernel_rfl) a0 a1 m w h0 hm h1).mono ?_
 rintro e w' ⟨rfl, hw⟩
 generalize hL : Lib.splitB a1 0 (Lib.countB a0 a1) a0 = L at hw hlen
 have hw' : w' = w.alloc (.cells (L.map Value.string).toArray 9) := hw
 subst hw'
 refine ⟨_, rfl, ?_, below_alloc (Below.refl _ _) _⟩
 refine ⟨fun _ _ => trivial, L.map Value.string, ⟨by rw [List.length_map]; exact (Nat.mul_one _).symm, .inr ⟨w.heap.size, Lib.countB a0 a1 + 1, (L.map Value.string).toArray, by rw [hlen], Nat.le_refl _, by simpa using heap_alloc_new w _, by rw [hlen]; exact Nat.le_refl _, by unfold maxLen; omega, by rw [List.size_toArray, List.length_map, hlen]; exact (Nat.mul_one _).symm, by rw [List.toList_toArray]; exact List.take_of_length_le (by rw [List.length_map]; exact Nat.le_of_eq (Nat.mul_one _).symm)⟩⟩, reps_strings_ _ _ _ _⟩

/-! ### impl_ParseInt: function 51 -/
-- calls: none
-- reaches: impl.decimal
-- reaches: impl.within
def parI (s : ByteArray) : Int × Bool := match Lib.atoiAll s.data.toList with
 | .ok v => if (⟨(Lib.itoa v).toArray⟩ : ByteArray).toList = s.toList then (if -999999 ≤ v ∧ v ≤ 999999 then (v, true) else (0, false)) else (0, false)
 | _ => (0, false)
def impl_ParseInt.f (a0 : ByteArray) : Option (Int × Bool) := if a0.size ≤ 281474976710656 then some (parI a0) else none
set_option maxHeartbeats 4000000 in
set_option maxRecDepth 100000 in
theorem impl_ParseInt.calls (a0 : ByteArray) (r1 : Int) (r2 : Bool) (w : World) (h : impl_ParseInt.f a0 = some (r1, r2)) (hTW : TabW w) :
  Calls Tryd.prog 51 #[.string a0] w fun e w' => e = .returned (.tuple #[.int .i64 r1, .bool r2]) ∧ Below w.heap.size w w' := by
 obtain ⟨hs, h⟩ := guard_some h
 have HR := Option.some.inj h
 clear h
 unfold parI at HR
 have bad : (∃ (x : Int) (t : TypeId) (p : Value), Calls Tryd.prog 59 #[.string a0] w fun e w' => (∃ q, e = .returned (.tuple #[.int .i64 x, .iface t (.pointer q)])) ∧ Below w.heap.size w w') → (r1, r2) = ((0 : Int), false) → Calls Tryd.prog 51 #[.string a0] w fun e w' => e = .returned (.tuple #[.int .i64 r1, .bool r2]) ∧ Below w.heap.size w w' := by
  rintro ⟨x, t, p, hcon⟩ hr
  obtain ⟨rfl, rfl⟩ := Prod.mk.inj hr
  clear hTW hs HR hr
  go_enter Tryd.func51, Tryd.ntmps51
  go_wp2_with (go_at_call 59; refine hcon.mono ?_; rintro e w1 ⟨⟨q, rfl⟩, hb⟩; have HB := Aside0.mk hb; clear hb)
  go_ret2
  exact ⟨rfl, HB.out⟩
 rcases hA : Lib.atoiAll a0.data.toList with v | _ | _
 rotate_left
 ·skip
  rw [hA] at HR
  obtain ⟨ev, hv, hev⟩ := hTW.2.2.2.1
  refine bad ⟨0, Tryd.lays172_ren.t 168, .nilIface, (Any.strconv_Atoi_syntax Tryd.lays172 a0 (by omega) hA ev w hv hev).mono ?_⟩ HR.symm
  rintro e w' ⟨N, rfl, _, _, hb⟩
  exact ⟨⟨_, rfl⟩, hb⟩
 ·skip
  rw [hA] at HR
  obtain ⟨ev, hv, hev⟩ := hTW.2.2.2.2
  refine bad ⟨Lib.atoiSat a0.data.toList, Tryd.lays172_ren.t 168, .nilIface, (Any.strconv_Atoi_range Tryd.lays172 a0 (by omega) hA ev w hv hev).mono ?_⟩ HR.symm
  rintro e w' ⟨N, rfl, _, _, hb⟩
  exact ⟨⟨_, rfl⟩, hb⟩
 ·skip
  rw [hA] at HR
  dsimp only at HR
  obtain ⟨b0, b1⟩ := Lib.atoiAll_bounds hA
  have hcon : Calls Tryd.prog 59 #[.string a0] w fun e w' => e = .returned (.tuple #[.int .i64 v, .nilIface]) ∧ Below w.heap.size w w' := by
   refine (Any.strconv_Atoi_ok Tryd.lays172 a0 (by omega) v hA w).mono ?_
   rintro e w' ⟨rfl, hw⟩
   refine ⟨rfl, ?_⟩
   rcases hw with rfl | ⟨t, rfl⟩
   ·exact Below.refl _ _
   ·exact Lib.bytesWorld_below _ _ _
  have hdec : impl_decimal.f v = some (⟨(Lib.itoa v).toArray⟩ : ByteArray) := by
   unfold impl_decimal.f
   rw [if_pos ⟨b0, b1⟩]
  have A1 := Aside0.mk hcon
  have A2 := Aside0.mk hdec
  clear hcon hdec hA bad hs
  generalize (⟨(Lib.itoa v).toArray⟩ : ByteArray) = t at A2 HR
  have hin : impl_within.f v (-999999) 999999 = some (decide (-999999 ≤ v ∧ v ≤ 999999)) := by
   unfold impl_within.f
   by_cases h : v ≥ -999999 <;> simp [h] <;> omega
  have A3 := Aside0.mk hin
  clear hin
  by_cases c1 : t.toList = a0.toList
  ·rw [if_pos c1] at HR
   have c1b0 : (t.toList == a0.toList) = true := beq_iff_eq.mpr c1
   have c1b1 : (t.toList != a0.toList) = false := bne_eq_false_iff_eq.mpr c1
   clear c1
   by_cases c2 : -999999 ≤ v ∧ v ≤ 999999
   ·rw [if_pos c2] at HR
    obtain ⟨rfl, rfl⟩ := Prod.mk.inj HR
    rw [decide_eq_true c2] at A3
    clear HR c2 b0 b1
    go_enter Tryd.func51, Tryd.ntmps51
    go_wp2_with (first | (go_at_call 59; refine A1.out.mono ?_; rintro e w1 ⟨rfl, hb⟩; have HB := Aside0.mk hb; clear hb) | (go_at_call 49; refine (impl_decimal.calls _ _ _ A2.out (TabW.up HB hTW)).mono ?_; rintro e w2 ⟨rfl, hb⟩; have HB2 := Aside0.mk (below_step HB.out hb); clear hb HB; have HB := HB2; clear HB2) | (go_at_call 53; refine (impl_within.calls _ _ _ _ _ A3.out).mono ?_; rintro e w3 ⟨rfl, hd⟩; have hb := hd.below; clear hd; have HB2 := Aside0.mk (below_step HB.out hb); clear hb HB; have HB := HB2; clear HB2))
    go_ret2
    exact ⟨rfl, HB.out⟩
   ·rw [if_neg c2] at HR
    obtain ⟨rfl, rfl⟩ := Prod.mk.inj HR
    rw [decide_eq_false c2] at A3
    clear HR c2 b0 b1
    go_enter Tryd.func51, Tryd.ntmps51
    go_wp2_with (first | (go_at_call 59; refine A1.out.mono ?_; rintro e w1 ⟨rfl, hb⟩; have HB := Aside0.mk hb; clear hb) | (go_at_call 49; refine (impl_decimal.calls _ _ _ A2.out (TabW.up HB hTW)).mono ?_; rintro e w2 ⟨rfl, hb⟩; have HB2 := Aside0.mk (below_step HB.out hb); clear hb HB; have HB := HB2; clear HB2) | (go_at_call 53; refine (impl_within.calls _ _ _ _ _ A3.out).mono ?_; rintro e w3 ⟨rfl, hd⟩; have hb := hd.below; clear hd; have HB2 := Aside0.mk (below_step HB.out hb); clear hb HB; have HB := HB2; clear HB2))
    go_ret2
    exact ⟨rfl, HB.out⟩
  ·rw [if_neg c1] at HR
   obtain ⟨rfl, rfl⟩ := Prod.mk.inj HR
   have c1b0 : (t.toList == a0.toList) = false := beq_eq_false_iff_ne.mpr c1
   have c1b1 : (t.toList != a0.toList) = true := bne_iff_ne.mpr c1
   clear HR c1 b0 b1
   go_enter Tryd.func51, Tryd.ntmps51
   go_wp2_with (first | (go_at_call 59; refine A1.out.mono ?_; rintro e w1 ⟨rfl, hb⟩; have HB := Aside0.mk hb; clear hb) | (go_at_call 49; refine (impl_decimal.calls _ _ _ A2.out (TabW.up HB hTW)).mono ?_; rintro e w2 ⟨rfl, hb⟩; have HB2 := Aside0.mk (below_step HB.out hb); clear hb HB; have HB := HB2; clear HB2))
   go_ret2
   exact ⟨rfl, HB.out⟩

end Go.Proofs.YtldgjibimolcdaaDoor.QFnLeads
