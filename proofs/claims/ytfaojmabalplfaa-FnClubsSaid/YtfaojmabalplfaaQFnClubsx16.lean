/- Contracts of Go functions that FnClubs reaches: the call computes what the plain function says. No condition. -/
import Derived.Test.YtfaojmabalplfaaQFnClubsx0
import Derived.Test.YtfaojmabalplfaaQFnClubsx4
import Derived.Test.YtfaojmabalplfaaQFnClubsx5
import Derived.Test.YtfaojmabalplfaaQFnClubsx6
import Derived.Test.YtfaojmabalplfaaQFnClubsx9
import Derived.Test.YtfaojmabalplfaaQFnClubsx10
import Derived.Test.YtfaojmabalplfaaQFnClubsx14
import Derived.Test.YtfaojmabalplfaaQFnClubsx15
namespace Go.Proofs.Ytfaojmabalplfaa.QFnClubs
open Go.RowKit Go.Proofs.YtfaojmabalplfaaW.PrintWords Go.Proofs.YtfaojmabalplfaaW.PrintLast Go.Proofs.YtfaojmabalplfaaW.PrintMore
attribute [local go_sem] max2_int min2_int max_two min_two max_three min_three max_four min_four   -- for this text's walks alone
set_option linter.unusedVariables false
set_option linter.unusedSimpArgs false

/-! ### laws_FnClubs: function 13 -/
mutual
def laws_FnClubs.j0 : Nat → List Int → List (S70) → List (S70) → List (S70) → Bool → Bool → Option (Bool)
 | 0, _, _, _, _, _, _ => none
 | k + 1, x0, x3, x4, x5, x6, x59 => if x59 = true then (some false) else ((impl_SharedLegs.f k x3 x4).bind fun bt605 => ((spec_SharedLegs.f k x3 x4).bind fun bt609 => (if (bt605.2 != bt609.2) = true then (laws_FnClubs.j1 k x0 x3 x4 x5 x6 bt605.1 true) else ((laws_vPairs.f k bt605.1 bt609.1).bind fun t613 => (laws_FnClubs.j1 k x0 x3 x4 x5 x6 bt605.1 (!t613))))))
def laws_FnClubs.j1 : Nat → List Int → List (S70) → List (S70) → List (S70) → Bool → List (S64) → Bool → Option (Bool)
 | 0, _, _, _, _, _, _, _ => none
 | k + 1, x0, x3, x4, x5, x6, x9, x80 => if x80 = true then (some false) else (if x6 = true then (laws_FnClubs.l0 k x0 x3 x4 x5 x9 (([] : List Int)) 0) else (laws_FnClubs.j4 k x0))
def laws_FnClubs.j4 : Nat → List Int → Option (Bool)
 | 0, _ => none
 | k + 1, x0 => (spec_DrawConflictLegs.f k x0).bind fun bt633 => ((impl_ConflictLegs.f k bt633.1 bt633.2.1 bt633.2.2.1 bt633.2.2.2).bind fun bt641 => ((spec_ConflictLegs.f k bt633.1 bt633.2.1 bt633.2.2.1 bt633.2.2.2).bind fun bt645 => (if (bt641.2 != bt645.2) = true then (laws_FnClubs.j5 k bt633.1 bt633.2.1 bt633.2.2.1 bt633.2.2.2 bt641.1 bt641.2 true) else ((laws_vPairs.f k bt641.1 bt645.1).bind fun t649 => (laws_FnClubs.j5 k bt633.1 bt633.2.1 bt633.2.2.1 bt633.2.2.2 bt641.1 bt641.2 (!t649))))))
def laws_FnClubs.j5 : Nat → List (S70) → List (S70) → Int → Int → List (S64) → Bool → Bool → Option (Bool)
 | 0, _, _, _, _, _, _, _ => none
 | k + 1, x17, x18, x19, x20, x21, x22, x170 => if x170 = true then (some false) else (if x22 = true then ((impl_ConflictLegs.f k x17 x18 (wrap64 (x19 + 1)) (wrap64 (x20 + 1))).bind fun bt650 => ((impl_SharedLegs.f k x17 x18).bind fun bt654 => (if bt650.2 = true then (if bt654.2 = true then (if (bt650.1.length : Int) > (x21.length : Int) then (laws_FnClubs.j6 k x17 x18 x19 x20 x21 true) else (laws_FnClubs.j6 k x17 x18 x19 x20 x21 (decide ((x21.length : Int) > (bt654.1.length : Int))))) else (laws_FnClubs.j6 k x17 x18 x19 x20 x21 true)) else (laws_FnClubs.j6 k x17 x18 x19 x20 x21 true)))) else (some true))
def laws_FnClubs.j6 : Nat → List (S70) → List (S70) → Int → Int → List (S64) → Bool → Option (Bool)
 | 0, _, _, _, _, _, _ => none
 | k + 1, x17, x18, x19, x20, x21, x207 => if x207 = true then (some false) else (laws_FnClubs.l1 k x17 x18 x19 x20 x21 0)
def laws_FnClubs.l1 : Nat → List (S70) → List (S70) → Int → Int → List (S64) → Int → Option (Bool)
 | 0, _, _, _, _, _, _ => none
 | k + 1, x17, x18, x19, x20, x21, x29 => if x29 < (x21.length : Int) then (if 0 ≤ x29 then (if 0 ≤ ((rd_T64 x21 x29).f0) then (if ((rd_T64 x21 x29).f0) < (x17.length : Int) then (if 0 ≤ ((rd_T64 x21 x29).f1) then (if ((rd_T64 x21 x29).f1) < (x18.length : Int) then ((impl_DoAgree.f ((rd_T70 x17 ((rd_T64 x21 x29).f0)).f0) ((rd_T70 x17 ((rd_T64 x21 x29).f0)).f1) ((rd_T70 x17 ((rd_T64 x21 x29).f0)).f2) ((rd_T70 x17 ((rd_T64 x21 x29).f0)).f3) ((rd_T70 x17 ((rd_T64 x21 x29).f0)).f4) ((rd_T70 x18 ((rd_T64 x21 x29).f1)).f0) ((rd_T70 x18 ((rd_T64 x21 x29).f1)).f1) ((rd_T70 x18 ((rd_T64 x21 x29).f1)).f2) ((rd_T70 x18 ((rd_T64 x21 x29).f1)).f3) ((rd_T70 x18 ((rd_T64 x21 x29).f1)).f4) x19 x20).bind fun bt662 => (if bt662.2 = true then (if bt662.1 = true then (some false) else (laws_FnClubs.l1 k x17 x18 x19 x20 x21 (wrap64 (x29 + 1)))) else (some false))) else (none)) else (none)) else (none)) else (none)) else (none)) else (some true)
def laws_FnClubs.l0 : Nat → List Int → List (S70) → List (S70) → List (S70) → List (S64) → List Int → Int → Option (Bool)
 | 0, _, _, _, _, _, _, _ => none
 | k + 1, x0, x3, x4, x5, x9, x13, x14 => if x14 < (x9.length : Int) then (if 0 ≤ x14 then ((laws_vHas.f k x13 ((rd_T64 x9 x14).f1)).bind fun t618 => (if t618 = true then (laws_FnClubs.l0 k x0 x3 x4 x5 x9 x13 (wrap64 (x14 + 1))) else (if x13.length < 17592186044416 then (laws_FnClubs.l0 k x0 x3 x4 x5 x9 (x13 ++ [(rd_T64 x9 x14).f1]) (wrap64 (x14 + 1))) else (none)))) else (none)) else (if (x5.length : Int) = (wrap64 ((wrap64 ((x3.length : Int) + (x4.length : Int))) - (x13.length : Int))) then (if 0 ≤ (x3.length : Int) then (if (x3.length : Int) ≤ (x5.length : Int) then ((laws_vLegs.f k (x5.take ((x3.length : Int) : Int).toNat) x3).bind fun t627 => (laws_FnClubs.j3 k x0 x4 x5 (!t627))) else (none)) else (none)) else (laws_FnClubs.j3 k x0 x4 x5 true))
def laws_FnClubs.j3 : Nat → List Int → List (S70) → List (S70) → Bool → Option (Bool)
 | 0, _, _, _, _ => none
 | k + 1, x0, x4, x5, x124 => if x124 = true then (some false) else ((impl_MergeLegs.f k x5 x4).bind fun bt628 => (if bt628.2 = true then ((laws_vLegs.f k bt628.1 x5).bind fun t632 => (if t632 = true then (laws_FnClubs.j4 k x0) else (some false))) else (some false)))
end
def laws_FnClubs.f (k : Nat) (l0 : List Int) : Option (Bool) := (laws_vBig.f l0).bind fun t589 => (if t589 = true then (some true) else ((spec_DrawMergeLegs.f k l0).bind fun bt590 => ((impl_MergeLegs.f k bt590.1 bt590.2).bind fun bt596 => ((spec_MergeLegs.f k bt590.1 bt590.2).bind fun bt600 => (if (bt596.2 != bt600.2) = true then (laws_FnClubs.j0 k l0 bt590.1 bt590.2 bt596.1 bt596.2 true) else ((laws_vLegs.f k bt596.1 bt600.1).bind fun t604 => (laws_FnClubs.j0 k l0 bt590.1 bt590.2 bt596.1 bt596.2 (!t604))))))))
theorem laws_FnClubs.mono_l : ∀ k, (∀ y0 y1 y2 y3 y4 y5, LeO (laws_FnClubs.j0 k y0 y1 y2 y3 y4 y5) (laws_FnClubs.j0 (k + 1) y0 y1 y2 y3 y4 y5)) ∧ (∀ y0 y1 y2 y3 y4 y5 y6, LeO (laws_FnClubs.j1 k y0 y1 y2 y3 y4 y5 y6) (laws_FnClubs.j1 (k + 1) y0 y1 y2 y3 y4 y5 y6)) ∧ (∀ y0, LeO (laws_FnClubs.j4 k y0) (laws_FnClubs.j4 (k + 1) y0)) ∧ (∀ y0 y1 y2 y3 y4 y5 y6, LeO (laws_FnClubs.j5 k y0 y1 y2 y3 y4 y5 y6) (laws_FnClubs.j5 (k + 1) y0 y1 y2 y3 y4 y5 y6)) ∧ (∀ y0 y1 y2 y3 y4 y5, LeO (laws_FnClubs.j6 k y0 y1 y2 y3 y4 y5) (laws_FnClubs.j6 (k + 1) y0 y1 y2 y3 y4 y5)) ∧ (∀ y0 y1 y2 y3 y4 y5, LeO (laws_FnClubs.l1 k y0 y1 y2 y3 y4 y5) (laws_FnClubs.l1 (k + 1) y0 y1 y2 y3 y4 y5)) ∧ (∀ y0 y1 y2 y3 y4 y5 y6, LeO (laws_FnClubs.l0 k y0 y1 y2 y3 y4 y5 y6) (laws_FnClubs.l0 (k + 1) y0 y1 y2 y3 y4 y5 y6)) ∧ (∀ y0 y1 y2 y3, LeO (laws_FnClubs.j3 k y0 y1 y2 y3) (laws_FnClubs.j3 (k + 1) y0 y1 y2 y3))
 | 0 => ⟨fun _ _ _ _ _ _ r h => by simp [laws_FnClubs.j0] at h, fun _ _ _ _ _ _ _ r h => by simp [laws_FnClubs.j1] at h, fun _ r h => by simp [laws_FnClubs.j4] at h, fun _ _ _ _ _ _ _ r h => by simp [laws_FnClubs.j5] at h, fun _ _ _ _ _ _ r h => by simp [laws_FnClubs.j6] at h, fun _ _ _ _ _ _ r h => by simp [laws_FnClubs.l1] at h, fun _ _ _ _ _ _ _ r h => by simp [laws_FnClubs.l0] at h, fun _ _ _ _ r h => by simp [laws_FnClubs.j3] at h⟩
 | k + 1 => by
  obtain ⟨ih0, ih1, ih2, ih3, ih4, ih5, ih6, ih7⟩ := laws_FnClubs.mono_l k
  refine ⟨?_, ?_, ?_, ?_, ?_, ?_, ?_, ?_⟩
  ·intro y0 y1 y2 y3 y4 y5
   unfold laws_FnClubs.j0
   repeat' with_reducible first | apply ih0 | apply ih1 | apply ih2 | apply ih3 | apply ih4 | apply ih5 | apply ih6 | apply ih7 | apply impl_ConflictLegs.mono | apply impl_MergeLegs.mono | apply impl_SharedLegs.mono | apply laws_vHas.mono | apply laws_vLegs.mono | apply laws_vPairs.mono | apply spec_ConflictLegs.mono | apply spec_DrawConflictLegs.mono | apply spec_DrawMergeLegs.mono | apply spec_MergeLegs.mono | apply spec_SharedLegs.mono | exact LeO.refl _ | exact LeO.none _ | refine LeO.ite ?_ ?_ | refine LeO.bind ?_ (fun _ => ?_)
  ·intro y0 y1 y2 y3 y4 y5 y6
   unfold laws_FnClubs.j1
   repeat' with_reducible first | apply ih0 | apply ih1 | apply ih2 | apply ih3 | apply ih4 | apply ih5 | apply ih6 | apply ih7 | apply impl_ConflictLegs.mono | apply impl_MergeLegs.mono | apply impl_SharedLegs.mono | apply laws_vHas.mono | apply laws_vLegs.mono | apply laws_vPairs.mono | apply spec_ConflictLegs.mono | apply spec_DrawConflictLegs.mono | apply spec_DrawMergeLegs.mono | apply spec_MergeLegs.mono | apply spec_SharedLegs.mono | exact LeO.refl _ | exact LeO.none _ | refine LeO.ite ?_ ?_ | refine LeO.bind ?_ (fun _ => ?_)
  ·intro y0
   unfold laws_FnClubs.j4
   repeat' with_reducible first | apply ih0 | apply ih1 | apply ih2 | apply ih3 | apply ih4 | apply ih5 | apply ih6 | apply ih7 | apply impl_ConflictLegs.mono | apply impl_MergeLegs.mono | apply impl_SharedLegs.mono | apply laws_vHas.mono | apply laws_vLegs.mono | apply laws_vPairs.mono | apply spec_ConflictLegs.mono | apply spec_DrawConflictLegs.mono | apply spec_DrawMergeLegs.mono | apply spec_MergeLegs.mono | apply spec_SharedLegs.mono | exact LeO.refl _ | exact LeO.none _ | refine LeO.ite ?_ ?_ | refine LeO.bind ?_ (fun _ => ?_)
  ·intro y0 y1 y2 y3 y4 y5 y6
   unfold laws_FnClubs.j5
   repeat' with_reducible first | apply ih0 | apply ih1 | apply ih2 | apply ih3 | apply ih4 | apply ih5 | apply ih6 | apply ih7 | apply impl_ConflictLegs.mono | apply impl_MergeLegs.mono | apply impl_SharedLegs.mono | apply laws_vHas.mono | apply laws_vLegs.mono | apply laws_vPairs.mono | apply spec_ConflictLegs.mono | apply spec_DrawConflictLegs.mono | apply spec_DrawMergeLegs.mono | apply spec_MergeLegs.mono | apply spec_SharedLegs.mono | exact LeO.refl _ | exact LeO.none _ | refine LeO.ite ?_ ?_ | refine LeO.bind ?_ (fun _ => ?_)
  ·intro y0 y1 y2 y3 y4 y5
   unfold laws_FnClubs.j6
   repeat' with_reducible first | apply ih0 | apply ih1 | apply ih2 | apply ih3 | apply ih4 | apply ih5 | apply ih6 | apply ih7 | apply impl_ConflictLegs.mono | apply impl_MergeLegs.mono | apply impl_SharedLegs.mono | apply laws_vHas.mono | apply laws_vLegs.mono | apply laws_vPairs.mono | apply spec_ConflictLegs.mono | apply spec_DrawConflictLegs.mono | apply spec_DrawMergeLegs.mono | apply spec_MergeLegs.mono | apply spec_SharedLegs.mono | exact LeO.refl _ | exact LeO.none _ | refine LeO.ite ?_ ?_ | refine LeO.bind ?_ (fun _ => ?_)
  ·intro y0 y1 y2 y3 y4 y5
   unfold laws_FnClubs.l1
   repeat' with_reducible first | apply ih0 | apply ih1 | apply ih2 | apply ih3 | apply ih4 | apply ih5 | apply ih6 | apply ih7 | apply impl_ConflictLegs.mono | apply impl_MergeLegs.mono | apply impl_SharedLegs.mono | apply laws_vHas.mono | apply laws_vLegs.mono | apply laws_vPairs.mono | apply spec_ConflictLegs.mono | apply spec_DrawConflictLegs.mono | apply spec_DrawMergeLegs.mono | apply spec_MergeLegs.mono | apply spec_SharedLegs.mono | exact LeO.refl _ | exact LeO.none _ | refine LeO.ite ?_ ?_ | refine LeO.bind ?_ (fun _ => ?_)
  ·intro y0 y1 y2 y3 y4 y5 y6
   unfold laws_FnClubs.l0
   repeat' with_reducible first | apply ih0 | apply ih1 | apply ih2 | apply ih3 | apply ih4 | apply ih5 | apply ih6 | apply ih7 | apply impl_ConflictLegs.mono | apply impl_MergeLegs.mono | apply impl_SharedLegs.mono | apply laws_vHas.mono | apply laws_vLegs.mono | apply laws_vPairs.mono | apply spec_ConflictLegs.mono | apply spec_DrawConflictLegs.mono | apply spec_DrawMergeLegs.mono | apply spec_MergeLegs.mono | apply spec_SharedLegs.mono | exact LeO.refl _ | exact LeO.none _ | refine LeO.ite ?_ ?_ | refine LeO.bind ?_ (fun _ => ?_)
  ·intro y0 y1 y2 y3
   unfold laws_FnClubs.j3
   repeat' with_reducible first | apply ih0 | apply ih1 | apply ih2 | apply ih3 | apply ih4 | apply ih5 | apply ih6 | apply ih7 | apply impl_ConflictLegs.mono | apply impl_MergeLegs.mono | apply impl_SharedLegs.mono | apply laws_vHas.mono | apply laws_vLegs.mono | apply laws_vPairs.mono | apply spec_ConflictLegs.mono | apply spec_DrawConflictLegs.mono | apply spec_DrawMergeLegs.mono | apply spec_MergeLegs.mono | apply spec_SharedLegs.mono | exact LeO.refl _ | exact LeO.none _ | refine LeO.ite ?_ ?_ | refine LeO.bind ?_ (fun _ => ?_)
theorem laws_FnClubs.mono : ∀ a0 k, LeO (laws_FnClubs.f k a0) (laws_FnClubs.f (k + 1) a0) := by
 intro a0 k
 obtain ⟨ih0, ih1, ih2, ih3, ih4, ih5, ih6, ih7⟩ := laws_FnClubs.mono_l k
 unfold laws_FnClubs.f
 repeat' with_reducible first | apply ih0 | apply ih1 | apply ih2 | apply ih3 | apply ih4 | apply ih5 | apply ih6 | apply ih7 | apply impl_ConflictLegs.mono | apply impl_MergeLegs.mono | apply impl_SharedLegs.mono | apply laws_vHas.mono | apply laws_vLegs.mono | apply laws_vPairs.mono | apply spec_ConflictLegs.mono | apply spec_DrawConflictLegs.mono | apply spec_DrawMergeLegs.mono | apply spec_MergeLegs.mono | apply spec_SharedLegs.mono | exact LeO.refl _ | exact LeO.none _ | refine LeO.ite ?_ ?_ | refine LeO.bind ?_ (fun _ => ?_)
def laws_FnClubs.T37 : Bool × List (List Nat × List Nat) := (true, [([], []), ([], []), ([], []), ([1, 2], [1, 2]), ([3], [3]), ([4], [4]), ([0, 5], [0, 5]), ([6], [6]), ([], []), ([], []), ([], []), ([9, 10], [9, 10]), ([11], [11]), ([12], [12]), ([8, 13], [8, 13]), ([14], [14]), ([], []), ([], []), ([7, 15, 16, 17], [7, 15, 16, 17]), ([18], [18]), ([19], [19]), ([19], [19]), ([20, 18, 0, 1, 2, 3, 4, 5, 6, 7, 8, 9, 10, 11, 12, 13, 14, 15, 16, 17, 18, 19, 20], [20]), ([21, 22, 0, 1, 2, 3, 4, 5, 6, 7, 8, 9, 10, 11, 12, 13, 14, 15, 16, 17, 18, 19, 20, 21, 22], [21])])
def laws_FnClubs.B37 : List Nat := [0, 0, 0, 6, 14, 30, 63, 127, 0, 0, 0, 1536, 3584, 7680, 16128, 32512, 0, 0, 262143, 524287, 1048575, 1048575, 2097151, 8388607]
theorem laws_FnClubs.tab37 : rtab .any (opsOf Try.f13 37) = laws_FnClubs.T37 := by kernel_rfl
theorem laws_FnClubs.bits37 : waitsOk laws_FnClubs.T37.2 laws_FnClubs.B37 = true := by kernel_rfl
set_option maxHeartbeats 8000000 in
set_option maxRecDepth 100000 in
theorem laws_FnClubs.calls (k : Nat) (A0 : Option Addr) (c0 : Nat) (l0 : List Int) (r : Bool) (w : World) (hr0 : Kd.C (Kd.int .u8) w A0 l0.length l0) (hc0 : l0.length ≤ c0) (h : laws_FnClubs.f k l0 = some r) (hT : r = true) :
  Calls Try.prog 13 #[.slice A0 l0.length c0] w fun e w' => e = .returned (.bool r) ∧ Below w.heap.size w w' := by
 have hu70 := Try.underlying70
 have HR0 := Aside0.mk hr0
 have HC0 := Aside0.mk hc0
 clear hr0 hc0
 have HB := Aside0.mk (Below.refl w.heap.size w)
 have H := h
 clear h
 unfold laws_FnClubs.f at H
 replace H := bA H
 obtain ⟨t589, A2, H⟩ := H
 rcases Bool.eq_false_or_eq_true t589 with rfl | rfl
 ·replace H := iT rfl H
  obtain rfl := (Option.some.inj H)
  go_enter Try.func13, Try.ntmps13
  go_wp2_with (first | ((with_reducible refine gC 44 ?_); refine lA (some 33) Try.func44 (laws_vBig.calls _ _ l0 true _ ?side1 ?side2 A2.out) ?_; (case side1 => repeat (first | exact HR0.out | (with_reducible refine Kd.C_alloc ?_ _) | (with_reducible refine Kd.C_drewN ?_ _) | (with_reducible refine Kd.C_drew ?_))); (case side2 => exact HC0.out); rintro _ ⟨nd, rfl⟩))
  go_ret
  exact ⟨eB, (bW HB)⟩
 ·replace H := iF (by decide) H
  replace H := Option.bind_eq_some_iff.mp H
  obtain ⟨⟨t590, t591⟩, A40, H⟩ := H
  replace H : ((impl_MergeLegs.f k t590 t591).bind fun bt596 => ((spec_MergeLegs.f k t590 t591).bind fun bt600 => (if (bt596.2 != bt600.2) = true then (laws_FnClubs.j0 k l0 t590 t591 bt596.1 bt596.2 true) else ((laws_vLegs.f k bt596.1 bt600.1).bind fun t604 => (laws_FnClubs.j0 k l0 t590 t591 bt596.1 bt596.2 (!t604)))))) = some r := H
  have A4 := Aside0.mk A40
  clear A40
  replace H := Option.bind_eq_some_iff.mp H
  obtain ⟨⟨t596, t597⟩, A50, H⟩ := H
  replace H : ((spec_MergeLegs.f k t590 t591).bind fun bt600 => (if (t597 != bt600.2) = true then (laws_FnClubs.j0 k l0 t590 t591 t596 t597 true) else ((laws_vLegs.f k t596 bt600.1).bind fun t604 => (laws_FnClubs.j0 k l0 t590 t591 t596 t597 (!t604))))) = some r := H
  have A5 := Aside0.mk A50
  clear A50
  replace H := Option.bind_eq_some_iff.mp H
  obtain ⟨⟨t600, t601⟩, A60, H⟩ := H
  replace H : (if (t597 != t601) = true then (laws_FnClubs.j0 k l0 t590 t591 t596 t597 true) else ((laws_vLegs.f k t596 t600).bind fun t604 => (laws_FnClubs.j0 k l0 t590 t591 t596 t597 (!t604)))) = some r := H
  have A6 := Aside0.mk A60
  clear A60
  have HC7 := Aside0.mk H
  clear H
  go_enter Try.func13, Try.ntmps13
  go_upto_region 6 with (first | ((with_reducible refine gC 44 ?_); refine lA (some 33) Try.func44 (laws_vBig.calls _ _ l0 false _ ?side1 ?side2 A2.out) ?_; (case side1 => repeat (first | exact HR0.out | (with_reducible refine Kd.C_alloc ?_ _) | (with_reducible refine Kd.C_drewN ?_ _) | (with_reducible refine Kd.C_drew ?_))); (case side2 => exact HC0.out); rintro _ ⟨nd, rfl⟩) | ((with_reducible refine gate_callee (f := 51) rfl ?_); refine goesL_ (some 36) rfl rfl Try.func51 (by kernel_rfl) rfl #[.slice A0 l0.length c0] rfl argsB ?_; (with_reducible refine (spec_DrawMergeLegs.calls k _ _ l0 t590 t591 _ ?side1 ?side2 A4.out).mono ?_); (case side1 => repeat (first | exact HR0.out | (with_reducible refine Kd.C_alloc ?_ _) | (with_reducible refine Kd.C_drewN ?_ _) | (with_reducible refine Kd.C_drew ?_))); (case side2 => exact HC0.out); rintro e w8 ⟨v592, v594, rfl, ho0, ho1, hb⟩; refine ⟨_, rfl, ?_⟩; have HO593 := Aside0.mk (Kd.R_lower ho0 (below_size (bW HB))); have HO595 := Aside0.mk (Kd.R_lower ho1 (below_size (bW HB))); replace HB := uB HB hb; (try clear hb); (try clear hk); (try clear ho0); (try clear ho1); obtain ⟨Ao9, co9, eo9⟩ := Kd.R_slice HO593.out; subst eo9; obtain ⟨Ao10, co10, eo10⟩ := Kd.R_slice HO595.out; subst eo10) | ((with_reducible refine gate_callee (f := 34) rfl ?_); refine goesL_ (some 42) rfl rfl Try.func34 (by kernel_rfl) rfl #[.slice Ao9 t590.length co9, .slice Ao10 t591.length co10] rfl argsB ?_; (with_reducible refine (impl_MergeLegs.calls k _ _ t590 _ _ t591 t596 t597 _ ?side1 ?side2 ?side3 ?side4 A5.out).mono ?_); (case side1 => repeat (first | exact (Kd.R_reads' HO593.out).2.2 | (with_reducible refine Kd.C_alloc ?_ _) | (with_reducible refine Kd.C_drewN ?_ _) | (with_reducible refine Kd.C_drew ?_))); (case side2 => exact (Kd.R_reads' HO593.out).2.1); (case side3 => repeat (first | exact (Kd.R_reads' HO595.out).2.2 | (with_reducible refine Kd.C_alloc ?_ _) | (with_reducible refine Kd.C_drewN ?_ _) | (with_reducible refine Kd.C_drew ?_))); (case side4 => exact (Kd.R_reads' HO595.out).2.1); rintro e w11 ⟨v598, rfl, ho0, hb⟩; refine ⟨_, rfl, ?_⟩; have HO599 := Aside0.mk (Kd.R_lower (Kd.R_new' (Kd.R_new' ho0 (Kd.R_lt (upR HO593.out))) (Kd.R_lt (upR HO595.out))) (below_size (bW HB))); replace HO593 := Aside0.mk (Kd.R_elder' (upR HO593.out) (Kd.R_base ho0) hb); replace HO595 := Aside0.mk (Kd.R_elder' (upR HO595.out) (Kd.R_base ho0) hb); replace HB := uB HB hb; (try clear hb); (try clear hk); (try clear ho0)) | ((with_reducible refine gate_callee (f := 33) rfl ?_); refine goesL_ (some 48) rfl rfl Try.func33 (by kernel_rfl) rfl #[.slice Ao9 t590.length co9, .slice Ao10 t591.length co10] rfl argsB ?_; (with_reducible refine (spec_MergeLegs.calls k _ _ t590 _ _ t591 t600 t601 _ ?side1 ?side2 ?side3 ?side4 A6.out).mono ?_); (case side1 => repeat (first | exact (Kd.R_reads' HO593.out).2.2 | (with_reducible refine Kd.C_alloc ?_ _) | (with_reducible refine Kd.C_drewN ?_ _) | (with_reducible refine Kd.C_drew ?_))); (case side2 => exact (Kd.R_reads' HO593.out).2.1); (case side3 => repeat (first | exact (Kd.R_reads' HO595.out).2.2 | (with_reducible refine Kd.C_alloc ?_ _) | (with_reducible refine Kd.C_drewN ?_ _) | (with_reducible refine Kd.C_drew ?_))); (case side4 => exact (Kd.R_reads' HO595.out).2.1); rintro e w12 ⟨v602, rfl, ho0, hb⟩; refine ⟨_, rfl, ?_⟩; have HO603 := Aside0.mk (Kd.R_lower (Kd.R_new' (Kd.R_new' (Kd.R_new' ho0 (Kd.R_lt (upR HO593.out))) (Kd.R_lt (upR HO595.out))) (Kd.R_lt (upR HO599.out))) (below_size (bW HB))); replace HO593 := Aside0.mk (Kd.R_elder' (upR HO593.out) (Kd.R_base ho0) hb); replace HO595 := Aside0.mk (Kd.R_elder' (upR HO595.out) (Kd.R_base ho0) hb); replace HO599 := Aside0.mk (Kd.R_elder' (upR HO599.out) (Kd.R_base ho0) hb); replace HB := uB HB hb; (try clear hb); (try clear hk); (try clear ho0)))
  (try simp only [Act.put, List.setIfInBounds_toArray, List.set_cons_zero, List.set_cons_succ])
  go_cut [59] (fun v59 wc => ∃ (kq : Nat) (x59_6 : Bool), v59 = .bool x59_6 ∧ Aside0 (laws_FnClubs.j0 kq l0 t590 t591 t596 t597 x59_6 = some r) ∧ Aside0 (kq ≤ k) ∧ Aside0 (Kd.R k70 70 wc w.heap.size (fun k_ => some k_ ≠ ((.slice Ao10 t591.length co10) : Value).ownBlock ∧ some k_ ≠ (v598 : Value).ownBlock) (.slice Ao9 t590.length co9) t590) ∧ Aside0 (Kd.R k70 70 wc w.heap.size (fun k_ => some k_ ≠ ((.slice Ao9 t590.length co9) : Value).ownBlock ∧ some k_ ≠ (v598 : Value).ownBlock) (.slice Ao10 t591.length co10) t591) ∧ Aside0 (Kd.R k70 70 wc w.heap.size (fun k_ => some k_ ≠ ((.slice Ao9 t590.length co9) : Value).ownBlock ∧ some k_ ≠ ((.slice Ao10 t591.length co10) : Value).ownBlock) v598 t596) ∧ Aside0 (Below w.heap.size w wc))
  case first =>
   have H := HC7.out
   clear HC7
   by_cases c13 : (t597 != t601) = true
   ·rw [if_pos c13] at H
    have c13b0 : (t597 != t601) = true := c13
    (try (have c13b1 : decide (t597 = t601) = false := by simpa using c13))
    (try (have c13b2 : (t597 == t601) = false := by simpa using c13))
    (try (have c13b3 : ¬ (t597 = t601) := by simpa using c13))
    clear c13
    (first | rw [c13b0] | (simp only [i64_w, i32_w]; rw [c13b0]) | skip)
    have H' := Aside0.mk H
    clear H
    go_wp2
    go_meet
    case rel => exact ⟨_, (true), rB, H', leB, ⟨by (with_reducible repeat (first | apply Kd.R_alloc | apply Kd.R_drewN | apply Kd.R_drew)); exact Kd.R_mono HO593.out (fun _ hk => ⟨hk.1.1, hk.1.2⟩)⟩, ⟨by (with_reducible repeat (first | apply Kd.R_alloc | apply Kd.R_drewN | apply Kd.R_drew)); exact Kd.R_mono HO595.out (fun _ hk => ⟨hk.1.1, hk.1.2⟩)⟩, ⟨by (with_reducible repeat (first | apply Kd.R_alloc | apply Kd.R_drewN | apply Kd.R_drew)); exact Kd.R_mono HO599.out (fun _ hk => ⟨hk.1.1.2, hk.1.2⟩)⟩, (aB HB)⟩
   ·rw [if_neg c13] at H
    have c13b0 : (t597 != t601) = false := by simpa using c13
    (try (have c13b1 : decide (t597 = t601) = true := by simpa using c13))
    (try (have c13b2 : (t597 == t601) = true := by simpa using c13))
    clear c13
    (first | rw [c13b0] | (simp only [i64_w, i32_w]; rw [c13b0]) | skip)
    replace H := bA H
    obtain ⟨t604, A14, H⟩ := H
    have H' := Aside0.mk H
    clear H
    obtain ⟨Ao15, co15, eo15⟩ := Kd.R_slice HO599.out
    subst eo15
    obtain ⟨Ao16, co16, eo16⟩ := Kd.R_slice HO603.out
    subst eo16
    go_wp2_with (first | (go_at_call 46; (with_reducible refine (laws_vLegs.calls k _ _ t596 _ _ t600 t604 _ ?side1 ?side2 ?side3 ?side4 A14.out).mono ?_); (case side1 => repeat (first | exact (Kd.R_reads' HO599.out).2.2 | (with_reducible refine Kd.C_alloc ?_ _) | (with_reducible refine Kd.C_drewN ?_ _) | (with_reducible refine Kd.C_drew ?_))); (case side2 => exact (Kd.R_reads' HO599.out).2.1); (case side3 => repeat (first | exact (Kd.R_reads' HO603.out).2.2 | (with_reducible refine Kd.C_alloc ?_ _) | (with_reducible refine Kd.C_drewN ?_ _) | (with_reducible refine Kd.C_drew ?_))); (case side4 => exact (Kd.R_reads' HO603.out).2.1); rintro e w' ⟨rfl, ⟨nd, rfl⟩⟩))
    go_meet
    case rel => exact ⟨_, (!t604), rB, H', leB, ⟨by (with_reducible repeat (first | apply Kd.R_alloc | apply Kd.R_drewN | apply Kd.R_drew)); exact Kd.R_mono HO593.out (fun _ hk => ⟨hk.1.1, hk.1.2⟩)⟩, ⟨by (with_reducible repeat (first | apply Kd.R_alloc | apply Kd.R_drewN | apply Kd.R_drew)); exact Kd.R_mono HO595.out (fun _ hk => ⟨hk.1.1, hk.1.2⟩)⟩, ⟨by (with_reducible repeat (first | apply Kd.R_alloc | apply Kd.R_drewN | apply Kd.R_drew)); exact Kd.R_mono HO599.out (fun _ hk => ⟨hk.1.1.2, hk.1.2⟩)⟩, (aB HB)⟩
  case rest =>
   apply Classical.byContradiction
   intro hn_
   letI h_ : (0 : Nat) = 1 := (hn_ (by
    clear hn_
    clear HC7
    obtain ⟨kq, x59_6, rfl, HA, HJ6, HO_3, HO_4, HO_5, HB⟩ := hcut
    cases kq with
    | zero => exact absurd HA.out (by simp [laws_FnClubs.j0])
    | succ kj6 =>
     have H := HA.out
     clear HA
     simp only [laws_FnClubs.j0] at H
     rcases Bool.eq_false_or_eq_true x59_6 with rfl | rfl
     ·replace H := iT rfl H
      exact absurd (Option.some.inj H) (by rw [hT]; decide)
     ·replace H := iF (by decide) H
      replace H := Option.bind_eq_some_iff.mp H
      obtain ⟨⟨t605, t606⟩, A180, H⟩ := H
      replace H : ((spec_SharedLegs.f kj6 t590 t591).bind fun bt609 => (if (t606 != bt609.2) = true then (laws_FnClubs.j1 kj6 l0 t590 t591 t596 t597 t605 true) else ((laws_vPairs.f kj6 t605 bt609.1).bind fun t613 => (laws_FnClubs.j1 kj6 l0 t590 t591 t596 t597 t605 (!t613))))) = some r := H
      have A18 := Aside0.mk A180
      clear A180
      replace H := Option.bind_eq_some_iff.mp H
      obtain ⟨⟨t609, t610⟩, A190, H⟩ := H
      replace H : (if (t606 != t610) = true then (laws_FnClubs.j1 kj6 l0 t590 t591 t596 t597 t605 true) else ((laws_vPairs.f kj6 t605 t609).bind fun t613 => (laws_FnClubs.j1 kj6 l0 t590 t591 t596 t597 t605 (!t613)))) = some r := H
      have A19 := Aside0.mk A190
      clear A190
      have HC20 := Aside0.mk H
      clear H
      go_upto_region 10 with (first | ((with_reducible refine gate_callee (f := 27) rfl ?_); refine goesL_ (some 63) rfl rfl Try.func27 (by kernel_rfl) rfl #[.slice Ao9 t590.length co9, .slice Ao10 t591.length co10] rfl argsB ?_; (with_reducible refine (impl_SharedLegs.calls kj6 _ _ t590 _ _ t591 t605 t606 _ ?side1 ?side2 ?side3 ?side4 A18.out).mono ?_); (case side1 => repeat (first | exact (Kd.R_reads' HO_3.out).2.2 | (with_reducible refine Kd.C_alloc ?_ _) | (with_reducible refine Kd.C_drewN ?_ _) | (with_reducible refine Kd.C_drew ?_))); (case side2 => exact (Kd.R_reads' HO_3.out).2.1); (case side3 => repeat (first | exact (Kd.R_reads' HO_4.out).2.2 | (with_reducible refine Kd.C_alloc ?_ _) | (with_reducible refine Kd.C_drewN ?_ _) | (with_reducible refine Kd.C_drew ?_))); (case side4 => exact (Kd.R_reads' HO_4.out).2.1); rintro e w21 ⟨v607, rfl, ho0, hb⟩; refine ⟨_, rfl, ?_⟩; have HO608 := Aside0.mk (Kd.R_lower ho0 (below_size (bW HB))); replace HO_3 := uR HO_3 hb; replace HO_4 := uR HO_4 hb; replace HO_5 := uR HO_5 hb; replace HB := uB HB hb; (try clear hb); (try clear hk); (try clear ho0)) | ((with_reducible refine gate_callee (f := 25) rfl ?_); refine goesL_ (some 69) rfl rfl Try.func25 (by kernel_rfl) rfl #[.slice Ao9 t590.length co9, .slice Ao10 t591.length co10] rfl argsB ?_; (with_reducible refine (spec_SharedLegs.calls kj6 _ _ t590 _ _ t591 t609 t610 _ ?side1 ?side2 ?side3 ?side4 A19.out).mono ?_); (case side1 => repeat (first | exact (Kd.R_reads' HO_3.out).2.2 | (with_reducible refine Kd.C_alloc ?_ _) | (with_reducible refine Kd.C_drewN ?_ _) | (with_reducible refine Kd.C_drew ?_))); (case side2 => exact (Kd.R_reads' HO_3.out).2.1); (case side3 => repeat (first | exact (Kd.R_reads' HO_4.out).2.2 | (with_reducible refine Kd.C_alloc ?_ _) | (with_reducible refine Kd.C_drewN ?_ _) | (with_reducible refine Kd.C_drew ?_))); (case side4 => exact (Kd.R_reads' HO_4.out).2.1); rintro e w22 ⟨v611, rfl, ho0, hb⟩; refine ⟨_, rfl, ?_⟩; have HO612 := Aside0.mk (Kd.R_lower (Kd.R_new' ho0 (Kd.R_lt (upR HO608.out))) (below_size (bW HB))); replace HO_3 := uR HO_3 hb; replace HO_4 := uR HO_4 hb; replace HO_5 := uR HO_5 hb; replace HO608 := Aside0.mk (Kd.R_elder' (upR HO608.out) (Kd.R_base ho0) hb); replace HB := uB HB hb; (try clear hb); (try clear hk); (try clear ho0)))
      (try simp only [Act.put, List.setIfInBounds_toArray, List.set_cons_zero, List.set_cons_succ])
      go_cut [80] (fun v80 wc => ∃ (kq : Nat) (x80_19 : Bool), v80 = .bool x80_19 ∧ Aside0 (laws_FnClubs.j1 kq l0 t590 t591 t596 t597 t605 x80_19 = some r) ∧ Aside0 (kq ≤ kj6) ∧ Aside0 (Kd.R k70 70 wc w.heap.size (fun k_ => some k_ ≠ ((.slice Ao10 t591.length co10) : Value).ownBlock ∧ some k_ ≠ (v598 : Value).ownBlock) (.slice Ao9 t590.length co9) t590) ∧ Aside0 (Kd.R k70 70 wc w.heap.size (fun k_ => some k_ ≠ ((.slice Ao9 t590.length co9) : Value).ownBlock ∧ some k_ ≠ (v598 : Value).ownBlock) (.slice Ao10 t591.length co10) t591) ∧ Aside0 (Kd.R k70 70 wc w.heap.size (fun k_ => some k_ ≠ ((.slice Ao9 t590.length co9) : Value).ownBlock ∧ some k_ ≠ ((.slice Ao10 t591.length co10) : Value).ownBlock) v598 t596) ∧ Aside0 (Kd.R k64 64 wc w.heap.size (fun _ => True) v607 t605) ∧ Aside0 (Below w.heap.size w wc))
      case first =>
       have H := HC20.out
       clear HC20
       by_cases c23 : (t606 != t610) = true
       ·rw [if_pos c23] at H
        have c23b0 : (t606 != t610) = true := c23
        (try (have c23b1 : decide (t606 = t610) = false := by simpa using c23))
        (try (have c23b2 : (t606 == t610) = false := by simpa using c23))
        (try (have c23b3 : ¬ (t606 = t610) := by simpa using c23))
        clear c23
        (first | rw [c23b0] | (simp only [i64_w, i32_w]; rw [c23b0]) | skip)
        have H' := Aside0.mk H
        clear H
        go_wp2
        go_meet
        case rel => exact ⟨_, (true), rB, H', ⟨by have := HJ6.out; first | omega | exact Nat.le_refl _⟩, ⟨upR HO_3.out⟩, ⟨upR HO_4.out⟩, ⟨upR HO_5.out⟩, ⟨by (with_reducible repeat (first | apply Kd.R_alloc | apply Kd.R_drewN | apply Kd.R_drew)); exact Kd.R_mono HO608.out (fun _ hk => trivial)⟩, (aB HB)⟩
       ·rw [if_neg c23] at H
        have c23b0 : (t606 != t610) = false := by simpa using c23
        (try (have c23b1 : decide (t606 = t610) = true := by simpa using c23))
        (try (have c23b2 : (t606 == t610) = true := by simpa using c23))
        clear c23
        (first | rw [c23b0] | (simp only [i64_w, i32_w]; rw [c23b0]) | skip)
        replace H := bA H
        obtain ⟨t613, A24, H⟩ := H
        have H' := Aside0.mk H
        clear H
        obtain ⟨Ao25, co25, eo25⟩ := Kd.R_slice HO608.out
        subst eo25
        obtain ⟨Ao26, co26, eo26⟩ := Kd.R_slice HO612.out
        subst eo26
        go_wp2_with (first | (go_at_call 52; (with_reducible refine (laws_vPairs.calls kj6 _ _ t605 _ _ t609 t613 _ ?side1 ?side2 ?side3 ?side4 A24.out).mono ?_); (case side1 => repeat (first | exact (Kd.R_reads' HO608.out).2.2 | (with_reducible refine Kd.C_alloc ?_ _) | (with_reducible refine Kd.C_drewN ?_ _) | (with_reducible refine Kd.C_drew ?_))); (case side2 => exact (Kd.R_reads' HO608.out).2.1); (case side3 => repeat (first | exact (Kd.R_reads' HO612.out).2.2 | (with_reducible refine Kd.C_alloc ?_ _) | (with_reducible refine Kd.C_drewN ?_ _) | (with_reducible refine Kd.C_drew ?_))); (case side4 => exact (Kd.R_reads' HO612.out).2.1); rintro e w' ⟨rfl, ⟨nd, rfl⟩⟩))
        go_meet
        case rel => exact ⟨_, (!t613), rB, H', ⟨by have := HJ6.out; first | omega | exact Nat.le_refl _⟩, ⟨upR HO_3.out⟩, ⟨upR HO_4.out⟩, ⟨upR HO_5.out⟩, ⟨by (with_reducible repeat (first | apply Kd.R_alloc | apply Kd.R_drewN | apply Kd.R_drew)); exact Kd.R_mono HO608.out (fun _ hk => trivial)⟩, (aB HB)⟩
      case rest =>
       apply Classical.byContradiction
       intro hn_
       letI h_ : (0 : Nat) = 1 := (hn_ (by
        clear hn_
        clear HC20
        obtain ⟨kq, x80_19, rfl, HA, HJ19, HO_3, HO_4, HO_5, HO_9, HB⟩ := hcut
        cases kq with
        | zero => exact absurd HA.out (by simp [laws_FnClubs.j1])
        | succ kj19 =>
         have H := HA.out
         clear HA
         simp only [laws_FnClubs.j1] at H
         rcases Bool.eq_false_or_eq_true x80_19 with rfl | rfl
         ·replace H := iT rfl H
          exact absurd (Option.some.inj H) (by rw [hT]; decide)
         ·replace H := iF (by decide) H
          have HC28 := Aside0.mk H
          clear H
          go_upto_if 81 with (fail)
          go_cut [] (fun wc => ∃ (kq : Nat), Aside0 (laws_FnClubs.j4 kq l0 = some r) ∧ Aside0 (kq ≤ kj19) ∧ Aside0 (Below w.heap.size w wc))
          case first =>
           have H := HC28.out
           clear HC28
           rcases Bool.eq_false_or_eq_true t597 with rfl | rfl
           ·replace H := iT rfl H
            obtain ⟨y614, hy614⟩ : ∃ y_ : List Int, y_ = (([] : List Int)) := ⟨_, rfl⟩
            replace H : (laws_FnClubs.l0 kj19 l0 t590 t591 t596 t605 y614 0) = some r := by first | (rw [hy614]; with_reducible exact H) | (have H2_ := (Option.bind_some _ _).symm.trans H; rw [hy614]; with_reducible exact H2_) | (have H2_ := (Option.bind_some _ _).symm.trans H; with_reducible exact H2_) | with_reducible exact H | (rw [hy614]; exact H) | exact H
            have Ny614 := Aside0.mk hy614
            clear hy614
            have H' := Aside0.mk H
            clear H
            go_wp2_with (first | ((with_reducible refine gate_dst (N := 82) rfl ?_); (try (refine gate_guard (by rfl) ?_; dsimp only)); refine Kd.R_lit (Kd.int .i64) _ 3 ?hg (N := 82) ?hd (xs := ([] : List Int)) (inner := []) (ok := fun _ => True) (okp := fun _ => True) ?hr ?hp (fun _ hk => hk) trivial (Below.refl _ _) (Nat.le_refl _) (by simp) ?_; (case hd => rfl); (case hg => rfl); (case hr => first | (go_simp; done) | (go_simp; rfl)); (case hp => exact (Reps.none _ _)); intro v615 w30 ho31 hb hg_ hnew_; clear hg_ hnew_; (first | rw [← Ny614.out] at ho31 | (simp only [Int.reduceToNat] at ho31; rw [← Ny614.out] at ho31)); have HO616 := Aside0.mk (Kd.R_lower ho31 (below_size (bW HB))); replace HO_3 := uR HO_3 hb; replace HO_4 := uR HO_4 hb; replace HO_5 := uR HO_5 hb; replace HO_9 := uR HO_9 hb; replace HB := uB HB hb; clear hb ho31))
            (try simp only [Act.put, List.setIfInBounds_toArray, List.set_cons_zero, List.set_cons_succ])
            go_loopg [13, 14] kj19 (fun kq v13 v14 w' => ∃ (x13_3 : List Int) (x14_3 : Int), v14 = .int .i64 x14_3 ∧ Aside0 (laws_FnClubs.l0 kq l0 t590 t591 t596 t605 x13_3 x14_3 = some r) ∧ Aside0 (kq ≤ kj19) ∧ Aside0 (Kd.R k70 70 w' w.heap.size (fun k_ => some k_ ≠ ((.slice Ao10 t591.length co10) : Value).ownBlock ∧ some k_ ≠ (v598 : Value).ownBlock) (.slice Ao9 t590.length co9) t590) ∧ Aside0 (Kd.R k70 70 w' w.heap.size (fun k_ => some k_ ≠ ((.slice Ao9 t590.length co9) : Value).ownBlock ∧ some k_ ≠ (v598 : Value).ownBlock) (.slice Ao10 t591.length co10) t591) ∧ Aside0 (Kd.R k70 70 w' w.heap.size (fun k_ => some k_ ≠ ((.slice Ao9 t590.length co9) : Value).ownBlock ∧ some k_ ≠ ((.slice Ao10 t591.length co10) : Value).ownBlock) v598 t596) ∧ Aside0 (Kd.R k64 64 w' w.heap.size (fun _ => True) v607 t605) ∧ Aside0 (Kd.R (Kd.int .i64) 3 w' w.heap.size (fun _ => True) v13 x13_3) ∧ Aside0 (Below w.heap.size w w'))
            case atStart => exact ⟨(y614), (0), rB, H', ⟨Nat.le_refl _⟩, ⟨upR HO_3.out⟩, ⟨upR HO_4.out⟩, ⟨upR HO_5.out⟩, ⟨upR HO_9.out⟩, ⟨upR HO616.out⟩, (aB HB)⟩
            case round =>
             apply Classical.byContradiction
             intro hn_
             letI h_ : (0 : Nat) = 1 := (hn_ (by
              clear hn_
              clear H'
              obtain ⟨x13_3, x14_3, rfl, HA, HK3, HO_3, HO_4, HO_5, HO_9, HO_13, HB⟩ := hrel
              cases gk with
              | zero => exact absurd HA.out (by simp [laws_FnClubs.l0])
              | succ k3 =>
               have H := HA.out
               clear HA
               simp only [laws_FnClubs.l0] at H
               replace H := ifD H
               rcases H with ⟨H, -, c32b0⟩ | ⟨H, -, c32b0⟩
               ·(first | rw [c32b0] | (simp only [i64_w, i32_w]; rw [c32b0]) | skip)
                by_cases c33 : 0 ≤ x14_3
                ·rw [if_pos c33] at H
                 have c33b0 : decide (0 ≤ x14_3) = true := decide_eq_true c33
                 clear c33
                 replace H := bA H
                 obtain ⟨t618, A34, H⟩ := H
                 rcases Bool.eq_false_or_eq_true t618 with rfl | rfl
                 ·replace H := iT rfl H
                  have H' := Aside0.mk H
                  clear H
                  obtain ⟨Ao36, co36, eo36⟩ := Kd.R_slice HO_9.out
                  subst eo36
                  have p617 : 0 ≤ (x14_3 : Int) := of_decide_eq_true asmB
                  have q617 : x14_3 < (t605.length : Int) := of_decide_eq_true asmB
                  obtain ⟨ad617, e617, hx617_0, hx617_1⟩ := at_T64 (Kd.R_reads' HO_9.out).2.2 x14_3 p617 q617
                  cases e617
                  replace p617 := eq_true p617
                  replace q617 := eq_true q617
                  obtain ⟨Ao37, co37, eo37⟩ := Kd.R_slice HO_13.out
                  subst eo37
                  go_wp2_with (first | ((with_reducible refine gC 53 ?_); refine lA (some 95) Try.func53 (laws_vHas.calls k3 _ _ x13_3 ((rd_T64 t605 x14_3).f1) true _ ?side1 ?side2 A34.out) ?_; (case side1 => repeat (first | exact (Kd.R_reads' HO_13.out).2.2 | (with_reducible refine Kd.C_alloc ?_ _) | (with_reducible refine Kd.C_drewN ?_ _) | (with_reducible refine Kd.C_drew ?_))); (case side2 => exact (Kd.R_reads' HO_13.out).2.1); rintro _ ⟨nd, rfl⟩))
                  go_roundg k3
                  case measure => have := HJ6.out; have := HJ19.out; have := HK3.out; omega
                  case rel => exact ⟨(x13_3), (wrap64 (x14_3 + 1)), rB, H', ⟨by have := HJ6.out; have := HJ19.out; have := HK3.out; omega⟩, ⟨upR HO_3.out⟩, ⟨upR HO_4.out⟩, ⟨upR HO_5.out⟩, ⟨upR HO_9.out⟩, ⟨upR HO_13.out⟩, (aB HB)⟩
                 ·replace H := iF (by decide) H
                  by_cases c38 : x13_3.length < 17592186044416
                  ·rw [if_pos c38] at H
                   have LMc38 := Aside0.mk c38
                   clear c38
                   obtain ⟨y620, hy620⟩ : ∃ y_ : List Int, y_ = (x13_3 ++ [(rd_T64 t605 x14_3).f1]) := ⟨_, rfl⟩
                   replace H : (laws_FnClubs.l0 k3 l0 t590 t591 t596 t605 y620 (wrap64 (x14_3 + 1))) = some r := by first | (rw [hy620]; with_reducible exact H) | (have H2_ := (Option.bind_some _ _).symm.trans H; rw [hy620]; with_reducible exact H2_) | (have H2_ := (Option.bind_some _ _).symm.trans H; with_reducible exact H2_) | with_reducible exact H | (rw [hy620]; exact H) | exact H
                   have Ny620 := Aside0.mk hy620
                   clear hy620
                   have H' := Aside0.mk H
                   clear H
                   obtain ⟨Ao39, co39, eo39⟩ := Kd.R_slice HO_9.out
                   subst eo39
                   have p617 : 0 ≤ (x14_3 : Int) := of_decide_eq_true asmB
                   have q617 : x14_3 < (t605.length : Int) := of_decide_eq_true asmB
                   obtain ⟨ad617, e617, hx617_0, hx617_1⟩ := at_T64 (Kd.R_reads' HO_9.out).2.2 x14_3 p617 q617
                   cases e617
                   replace p617 := eq_true p617
                   replace q617 := eq_true q617
                   obtain ⟨Ao40, co40, eo40⟩ := Kd.R_slice HO_13.out
                   subst eo40
                   go_wp2_with (first | ((with_reducible refine gC 53 ?_); refine lA (some 95) Try.func53 (laws_vHas.calls k3 _ _ x13_3 ((rd_T64 t605 x14_3).f1) false _ ?side1 ?side2 A34.out) ?_; (case side1 => repeat (first | exact (Kd.R_reads' HO_13.out).2.2 | (with_reducible refine Kd.C_alloc ?_ _) | (with_reducible refine Kd.C_drewN ?_ _) | (with_reducible refine Kd.C_drew ?_))); (case side2 => exact (Kd.R_reads' HO_13.out).2.1); rintro _ ⟨nd, rfl⟩; have p619 : 0 ≤ (x14_3 : Int) := of_decide_eq_true asmB; have q619 : x14_3 < (t605.length : Int) := of_decide_eq_true asmB; obtain ⟨ad619, e619, hx619_0, hx619_1⟩ := at_T64 (Kd.R_reads' HO_9.out).2.2 x14_3 p619 q619; obtain rfl : ad617 = ad619 := (by injection e619); replace p619 := eq_true p619; replace q619 := eq_true q619) | ((with_reducible refine gate_builtin (b := .append) (xs := #[.tmp 97, .tmp 103]) rfl ?_); (try (refine gate_guard (by rfl) ?_; dsimp only)); at_builtin; refine Kd.R_append (Kd.int .i64) (w0 := w) w.heap.size rfl (.tmp 97) (.tmp 103) 22 3 (.int .i64 0) 8 rfl Try.underlying22 info3 rfl (by decide) (by omega) (.slice Ao40 x13_3.length co40) x13_3 ((rd_T64 t605 x14_3).f1) [.int .i64 ((rd_T64 t605 x14_3).f1)] (fun _ => True) (fun _ => False) rfl rfl ?aP (fun _ hk => hk.elim) ?aF ?aO ?aB ?aS ?aL ?_; (case aP => exact rfl); (case aB => exact (bW HB)); (case aF => exact (fun _ _ => trivial)); (case aO => exact (upR HO_13.out)); (case aS => exact (below_size (bW HB))); (case aL => have := LMc38.out; omega); intro v621 w41 ho hb hg hat; rw [← Ny620.out] at ho; have HO622 := Aside0.mk (ho); replace HO_3 := Aside0.mk (Kd.R_over' (upR HO_3.out) (Kd.R_typed (upR HO_13.out)) (by decide) hg); replace HO_4 := Aside0.mk (Kd.R_over' (upR HO_4.out) (Kd.R_typed (upR HO_13.out)) (by decide) hg); replace HO_5 := Aside0.mk (Kd.R_over' (upR HO_5.out) (Kd.R_typed (upR HO_13.out)) (by decide) hg); replace HO_9 := Aside0.mk (Kd.R_over' (upR HO_9.out) (Kd.R_typed (upR HO_13.out)) (by decide) hg); replace HB := Aside0.mk (hb); clear HO_13; clear ho hb hg hat))
                   go_roundg k3
                   case measure => have := HJ6.out; have := HJ19.out; have := HK3.out; omega
                   case rel => exact ⟨(y620), (wrap64 (x14_3 + 1)), rB, H', ⟨by have := HJ6.out; have := HJ19.out; have := HK3.out; omega⟩, ⟨upR HO_3.out⟩, ⟨upR HO_4.out⟩, ⟨upR HO_5.out⟩, ⟨upR HO_9.out⟩, ⟨upR HO622.out⟩, (aB HB)⟩
                  ·rw [if_neg c38] at H
                   exact absurd H (by simp)
                ·rw [if_neg c33] at H
                 exact absurd H (by simp)
               ·(first | rw [c32b0] | (simp only [i64_w, i32_w]; rw [c32b0]) | skip)
                have HC42 := Aside0.mk H
                clear H
                obtain ⟨Ao43, co43, eo43⟩ := Kd.R_slice HO_9.out
                subst eo43
                go_upto_region 19 with (fail)
                go_cut [124] (fun v124 wc => ∃ (kq : Nat) (x124_41 : Bool), v124 = .bool x124_41 ∧ Aside0 (laws_FnClubs.j3 kq l0 t591 t596 x124_41 = some r) ∧ Aside0 (kq ≤ k3) ∧ Aside0 (Kd.R k70 70 wc w.heap.size (fun k_ => some k_ ≠ (v598 : Value).ownBlock) (.slice Ao10 t591.length co10) t591) ∧ Aside0 (Kd.R k70 70 wc w.heap.size (fun k_ => some k_ ≠ ((.slice Ao10 t591.length co10) : Value).ownBlock) v598 t596) ∧ Aside0 (Below w.heap.size w wc))
                case first =>
                 have H := HC42.out
                 clear HC42
                 replace H := ifI H
                 rcases H with ⟨H, -, c44b0, c44b1⟩ | ⟨H, c44, c44b0, c44b1⟩
                 ·(first | rw [c44b0] | (simp only [i64_w, i32_w]; rw [c44b0]) | skip)
                  by_cases c45 : 0 ≤ (t590.length : Int)
                  ·rw [if_pos c45] at H
                   have c45b0 := eq_true c45
                   have c45b1 : decide (0 ≤ (t590.length : Int)) = true := decide_eq_true c45
                   clear c45
                   by_cases c46 : (t590.length : Int) ≤ (t596.length : Int)
                   ·rw [if_pos c46] at H
                    have c46b0 := eq_true c46
                    have c46b1 : decide ((t590.length : Int) ≤ (t596.length : Int)) = true := decide_eq_true c46
                    clear c46
                    obtain ⟨y623, hy623⟩ : ∃ y_ : List (S70), y_ = (t596.take ((t590.length : Int) : Int).toNat) := ⟨_, rfl⟩
                    replace H : ((laws_vLegs.f k3 y623 t590).bind fun t627 => (laws_FnClubs.j3 k3 l0 t591 t596 (!t627))) = some r := by first | (rw [hy623]; with_reducible exact H) | (have H2_ := (Option.bind_some _ _).symm.trans H; rw [hy623]; with_reducible exact H2_) | (have H2_ := (Option.bind_some _ _).symm.trans H; with_reducible exact H2_) | with_reducible exact H | (rw [hy623]; exact H) | exact H
                    have Ny623 := Aside0.mk hy623
                    clear hy623
                    replace H := bA H
                    obtain ⟨t627, A47, H⟩ := H
                    have H' := Aside0.mk H
                    clear H
                    obtain ⟨Ao48, co48, eo48⟩ := Kd.R_slice HO_5.out
                    subst eo48
                    obtain ⟨Ao49, co49, eo49⟩ := Kd.R_slice HO_13.out
                    subst eo49
                    have q50 : ((t590.length : Int) : Int) ≤ ((t596.length : Int) : Int) := of_decide_eq_true asmB
                    obtain ⟨i050, hi050, _, hsz50, _⟩ := info_parts info70
                    have hroom50 : t596.length ≤ co48 := (Kd.R_reads' HO_5.out).2.1
                    have hC50 : Kd.C k70 _ Ao48 t596.length t596 := (Kd.R_reads' HO_5.out).2.2
                    have hcut50 := cut_to (P := Try.prog) 35 70 .i64 Try.underlying35 hi050 Ao48 t596.length co48 (t590.length : Int) (of_decide_eq_true asmB) q50 hroom50
                    have hr50 := Kd.C_take (m := ((t590.length : Int) : Int).toNat) hC50 (by omega)
                    have hy50 : y623.length = ((t590.length : Int) : Int).toNat := (by rw [Ny623.out, List.length_take]; omega)
                    rw [← Ny623.out] at hr50
                    rw [← hy50] at hcut50
                    have HR626 := Aside0.mk hr50
                    have HC626 := Aside0.mk (show y623.length ≤ co48 from by omega)
                    clear hr50 hC50 hroom50 hi050 hsz50
                    have KY50 := Aside0.mk hy50
                    clear hy50
                    have KL50 := Aside0.mk (show ((t590.length : Int) : Int).toNat ≤ t596.length from by omega)
                    replace q50 := eq_true q50
                    go_wp2_with (first | (go_at_call 46; (with_reducible refine (laws_vLegs.calls k3 _ _ y623 _ _ t590 t627 _ ?side1 ?side2 ?side3 ?side4 A47.out).mono ?_); (case side1 => repeat (first | exact (by repeat (first | (with_reducible exact HR626.out) | (with_reducible refine Kd.C_alloc ?_ _) | (with_reducible refine Kd.C_drewN ?_ _) | (with_reducible refine Kd.C_drew ?_) | exact HR626.out)) | (with_reducible refine Kd.C_alloc ?_ _) | (with_reducible refine Kd.C_drewN ?_ _) | (with_reducible refine Kd.C_drew ?_))); (case side2 => exact HC626.out); (case side3 => repeat (first | exact (Kd.R_reads' HO_3.out).2.2 | (with_reducible refine Kd.C_alloc ?_ _) | (with_reducible refine Kd.C_drewN ?_ _) | (with_reducible refine Kd.C_drew ?_))); (case side4 => exact (Kd.R_reads' HO_3.out).2.1); rintro e w' ⟨rfl, ⟨nd, rfl⟩⟩))
                    go_meet
                    case rel => exact ⟨_, (!t627), rB, H', ⟨by have := HJ6.out; have := HJ19.out; have := HK3.out; first | omega | exact Nat.le_refl _⟩, ⟨by (with_reducible repeat (first | apply Kd.R_alloc | apply Kd.R_drewN | apply Kd.R_drew)); exact Kd.R_mono HO_4.out (fun _ hk => hk.2)⟩, ⟨by (with_reducible repeat (first | apply Kd.R_alloc | apply Kd.R_drewN | apply Kd.R_drew)); exact Kd.R_mono HO_5.out (fun _ hk => hk.2)⟩, (aB HB)⟩
                   ·rw [if_neg c46] at H
                    exact absurd H (by simp)
                  ·rw [if_neg c45] at H
                   exact absurd H (by simp)
                 ·(first | rw [c44b0] | (simp only [i64_w, i32_w]; rw [c44b0]) | skip)
                  have H' := Aside0.mk H
                  clear H
                  obtain ⟨Ao51, co51, eo51⟩ := Kd.R_slice HO_5.out
                  subst eo51
                  obtain ⟨Ao52, co52, eo52⟩ := Kd.R_slice HO_13.out
                  subst eo52
                  go_wp2
                  go_meet
                  case rel => exact ⟨_, (true), rB, H', ⟨by have := HJ6.out; have := HJ19.out; have := HK3.out; first | omega | exact Nat.le_refl _⟩, ⟨by (with_reducible repeat (first | apply Kd.R_alloc | apply Kd.R_drewN | apply Kd.R_drew)); exact Kd.R_mono HO_4.out (fun _ hk => hk.2)⟩, ⟨by (with_reducible repeat (first | apply Kd.R_alloc | apply Kd.R_drewN | apply Kd.R_drew)); exact Kd.R_mono HO_5.out (fun _ hk => hk.2)⟩, (aB HB)⟩
                case rest =>
                 apply Classical.byContradiction
                 intro hn_
                 letI h_ : (0 : Nat) = 1 := (hn_ (by
                  clear hn_
                  clear HC42
                  try clear c32b0
                  obtain ⟨kq, x124_41, rfl, HA, HJ41, HO_4, HO_5, HB⟩ := hcut
                  cases kq with
                  | zero => exact absurd HA.out (by simp [laws_FnClubs.j3])
                  | succ kj41 =>
                   have H := HA.out
                   clear HA
                   simp only [laws_FnClubs.j3] at H
                   rcases Bool.eq_false_or_eq_true x124_41 with rfl | rfl
                   ·replace H := iT rfl H
                    exact absurd (Option.some.inj H) (by rw [hT]; decide)
                   ·replace H := iF (by decide) H
                    replace H := Option.bind_eq_some_iff.mp H
                    obtain ⟨⟨t628, t629⟩, A540, H⟩ := H
                    replace H : (if t629 = true then ((laws_vLegs.f kj41 t628 t596).bind fun t632 => (if t632 = true then (laws_FnClubs.j4 kj41 l0) else (some false))) else (some false)) = some r := H
                    have A54 := Aside0.mk A540
                    clear A540
                    rcases Bool.eq_false_or_eq_true t629 with rfl | rfl
                    ·replace H := iT rfl H
                     replace H := bA H
                     obtain ⟨t632, A56, H⟩ := H
                     rcases Bool.eq_false_or_eq_true t632 with rfl | rfl
                     ·replace H := iT rfl H
                      have H' := Aside0.mk H
                      clear H
                      obtain ⟨Ao58, co58, eo58⟩ := Kd.R_slice HO_5.out
                      subst eo58
                      go_wp2_with (first | ((with_reducible refine gate_callee (f := 34) rfl ?_); refine goesL_ (some 128) rfl rfl Try.func34 (by kernel_rfl) rfl #[.slice Ao58 t596.length co58, .slice Ao10 t591.length co10] rfl argsB ?_; (with_reducible refine (impl_MergeLegs.calls kj41 _ _ t596 _ _ t591 t628 true _ ?side1 ?side2 ?side3 ?side4 A54.out).mono ?_); (case side1 => repeat (first | exact (Kd.R_reads' HO_5.out).2.2 | (with_reducible refine Kd.C_alloc ?_ _) | (with_reducible refine Kd.C_drewN ?_ _) | (with_reducible refine Kd.C_drew ?_))); (case side2 => exact (Kd.R_reads' HO_5.out).2.1); (case side3 => repeat (first | exact (Kd.R_reads' HO_4.out).2.2 | (with_reducible refine Kd.C_alloc ?_ _) | (with_reducible refine Kd.C_drewN ?_ _) | (with_reducible refine Kd.C_drew ?_))); (case side4 => exact (Kd.R_reads' HO_4.out).2.1); rintro e w59 ⟨v630, rfl, ho0, hb⟩; refine ⟨_, rfl, ?_⟩; have HO631 := Aside0.mk (Kd.R_lower (Kd.R_new' (Kd.R_new' ho0 (Kd.R_lt (upR HO_4.out))) (Kd.R_lt (upR HO_5.out))) (below_size (bW HB))); replace HO_4 := Aside0.mk (Kd.R_elder' (upR HO_4.out) (Kd.R_base ho0) hb); replace HO_5 := Aside0.mk (Kd.R_elder' (upR HO_5.out) (Kd.R_base ho0) hb); replace HB := uB HB hb; (try clear hb); (try clear hk); (try clear ho0); obtain ⟨Ao60, co60, eo60⟩ := Kd.R_slice HO631.out; subst eo60) | (go_at_call 46; (with_reducible refine (laws_vLegs.calls kj41 _ _ t628 _ _ t596 true _ ?side1 ?side2 ?side3 ?side4 A56.out).mono ?_); (case side1 => repeat (first | exact (Kd.R_reads' HO631.out).2.2 | (with_reducible refine Kd.C_alloc ?_ _) | (with_reducible refine Kd.C_drewN ?_ _) | (with_reducible refine Kd.C_drew ?_))); (case side2 => exact (Kd.R_reads' HO631.out).2.1); (case side3 => repeat (first | exact (Kd.R_reads' HO_5.out).2.2 | (with_reducible refine Kd.C_alloc ?_ _) | (with_reducible refine Kd.C_drewN ?_ _) | (with_reducible refine Kd.C_drew ?_))); (case side4 => exact (Kd.R_reads' HO_5.out).2.1); rintro e w' ⟨rfl, ⟨nd, rfl⟩⟩))
                      go_meet
                      case rel => exact ⟨_, H', ⟨by have := HJ6.out; have := HJ19.out; have := HK3.out; have := HJ41.out; first | omega | exact Nat.le_refl _⟩, (aB HB)⟩
                     ·replace H := iF (by decide) H
                      exact absurd (Option.some.inj H) (by rw [hT]; decide)
                    ·replace H := iF (by decide) H
                     exact absurd (Option.some.inj H) (by rw [hT]; decide)
                  )).elim
                 omega
              )).elim
             omega
           ·replace H := iF (by decide) H
            have H' := Aside0.mk H
            clear H
            go_wp2
            go_meet
            case rel => exact ⟨_, H', ⟨by have := HJ6.out; have := HJ19.out; first | omega | exact Nat.le_refl _⟩, (aB HB)⟩
          case rest =>
           apply Classical.byContradiction
           intro hn_
           letI h_ : (0 : Nat) = 1 := (hn_ (by
            clear hn_
            clear HC28
            obtain ⟨kq, HA, HJ27, HB⟩ := hcut
            cases kq with
            | zero => exact absurd HA.out (by simp [laws_FnClubs.j4])
            | succ kj27 =>
             have H := HA.out
             clear HA
             simp only [laws_FnClubs.j4] at H
             replace H := Option.bind_eq_some_iff.mp H
             obtain ⟨⟨t633, t634, t635, t636⟩, A660, H⟩ := H
             replace H : ((impl_ConflictLegs.f kj27 t633 t634 t635 t636).bind fun bt641 => ((spec_ConflictLegs.f kj27 t633 t634 t635 t636).bind fun bt645 => (if (bt641.2 != bt645.2) = true then (laws_FnClubs.j5 kj27 t633 t634 t635 t636 bt641.1 bt641.2 true) else ((laws_vPairs.f kj27 bt641.1 bt645.1).bind fun t649 => (laws_FnClubs.j5 kj27 t633 t634 t635 t636 bt641.1 bt641.2 (!t649)))))) = some r := H
             have A66 := Aside0.mk A660
             clear A660
             replace H := Option.bind_eq_some_iff.mp H
             obtain ⟨⟨t641, t642⟩, A670, H⟩ := H
             replace H : ((spec_ConflictLegs.f kj27 t633 t634 t635 t636).bind fun bt645 => (if (t642 != bt645.2) = true then (laws_FnClubs.j5 kj27 t633 t634 t635 t636 t641 t642 true) else ((laws_vPairs.f kj27 t641 bt645.1).bind fun t649 => (laws_FnClubs.j5 kj27 t633 t634 t635 t636 t641 t642 (!t649))))) = some r := H
             have A67 := Aside0.mk A670
             clear A670
             replace H := Option.bind_eq_some_iff.mp H
             obtain ⟨⟨t645, t646⟩, A680, H⟩ := H
             replace H : (if (t642 != t646) = true then (laws_FnClubs.j5 kj27 t633 t634 t635 t636 t641 t642 true) else ((laws_vPairs.f kj27 t641 t645).bind fun t649 => (laws_FnClubs.j5 kj27 t633 t634 t635 t636 t641 t642 (!t649)))) = some r := H
             have A68 := Aside0.mk A680
             clear A680
             have HC69 := Aside0.mk H
             clear H
             go_upto_region 27 with (first | ((with_reducible refine gate_callee (f := 54) rfl ?_); refine goesL_ (some 141) rfl rfl Try.func54 (by kernel_rfl) rfl #[.slice A0 l0.length c0] rfl argsB ?_; (with_reducible refine (spec_DrawConflictLegs.calls kj27 _ _ l0 t633 t634 t635 t636 _ ?side1 ?side2 A66.out).mono ?_); (case side1 => repeat (first | exact (Kd.C_below HR0.out HB.out) | (with_reducible refine Kd.C_alloc ?_ _) | (with_reducible refine Kd.C_drewN ?_ _) | (with_reducible refine Kd.C_drew ?_))); (case side2 => exact HC0.out); rintro e w70 ⟨v637, v639, rfl, ho0, ho1, hb⟩; refine ⟨_, rfl, ?_⟩; have HO638 := Aside0.mk (Kd.R_lower ho0 (below_size (bW HB))); have HO640 := Aside0.mk (Kd.R_lower ho1 (below_size (bW HB))); replace HB := uB HB hb; (try clear hb); (try clear hk); (try clear ho0); (try clear ho1); obtain ⟨Ao71, co71, eo71⟩ := Kd.R_slice HO638.out; subst eo71; obtain ⟨Ao72, co72, eo72⟩ := Kd.R_slice HO640.out; subst eo72) | ((with_reducible refine gate_callee (f := 39) rfl ?_); refine goesL_ (some 151) rfl rfl Try.func39 (by kernel_rfl) rfl #[.slice Ao71 t633.length co71, .slice Ao72 t634.length co72, .int .i64 t635, .int .i64 t636] rfl argsB ?_; (with_reducible refine (impl_ConflictLegs.calls kj27 _ _ t633 _ _ t634 t635 t636 t641 t642 _ ?side1 ?side2 ?side3 ?side4 A67.out).mono ?_); (case side1 => repeat (first | exact (Kd.R_reads' HO638.out).2.2 | (with_reducible refine Kd.C_alloc ?_ _) | (with_reducible refine Kd.C_drewN ?_ _) | (with_reducible refine Kd.C_drew ?_))); (case side2 => exact (Kd.R_reads' HO638.out).2.1); (case side3 => repeat (first | exact (Kd.R_reads' HO640.out).2.2 | (with_reducible refine Kd.C_alloc ?_ _) | (with_reducible refine Kd.C_drewN ?_ _) | (with_reducible refine Kd.C_drew ?_))); (case side4 => exact (Kd.R_reads' HO640.out).2.1); rintro e w73 ⟨v643, rfl, ho0, hb⟩; refine ⟨_, rfl, ?_⟩; have HO644 := Aside0.mk (Kd.R_lower ho0 (below_size (bW HB))); replace HO638 := uR HO638 hb; replace HO640 := uR HO640 hb; replace HB := uB HB hb; (try clear hb); (try clear hk); (try clear ho0)) | ((with_reducible refine gate_callee (f := 38) rfl ?_); refine goesL_ (some 159) rfl rfl Try.func38 (by kernel_rfl) rfl #[.slice Ao71 t633.length co71, .slice Ao72 t634.length co72, .int .i64 t635, .int .i64 t636] rfl argsB ?_; (with_reducible refine (spec_ConflictLegs.calls kj27 _ _ t633 _ _ t634 t635 t636 t645 t646 _ ?side1 ?side2 ?side3 ?side4 A68.out).mono ?_); (case side1 => repeat (first | exact (Kd.R_reads' HO638.out).2.2 | (with_reducible refine Kd.C_alloc ?_ _) | (with_reducible refine Kd.C_drewN ?_ _) | (with_reducible refine Kd.C_drew ?_))); (case side2 => exact (Kd.R_reads' HO638.out).2.1); (case side3 => repeat (first | exact (Kd.R_reads' HO640.out).2.2 | (with_reducible refine Kd.C_alloc ?_ _) | (with_reducible refine Kd.C_drewN ?_ _) | (with_reducible refine Kd.C_drew ?_))); (case side4 => exact (Kd.R_reads' HO640.out).2.1); rintro e w74 ⟨v647, rfl, ho0, hb⟩; refine ⟨_, rfl, ?_⟩; have HO648 := Aside0.mk (Kd.R_lower (Kd.R_new' ho0 (Kd.R_lt (upR HO644.out))) (below_size (bW HB))); replace HO638 := uR HO638 hb; replace HO640 := uR HO640 hb; replace HO644 := Aside0.mk (Kd.R_elder' (upR HO644.out) (Kd.R_base ho0) hb); replace HB := uB HB hb; (try clear hb); (try clear hk); (try clear ho0)))
             (try simp only [Act.put, List.setIfInBounds_toArray, List.set_cons_zero, List.set_cons_succ])
             go_cut [170] (fun v170 wc => ∃ (kq : Nat) (x170_68 : Bool), v170 = .bool x170_68 ∧ Aside0 (laws_FnClubs.j5 kq t633 t634 t635 t636 t641 t642 x170_68 = some r) ∧ Aside0 (kq ≤ kj27) ∧ Aside0 (Kd.R k70 70 wc w.heap.size (fun k_ => some k_ ≠ ((.slice Ao72 t634.length co72) : Value).ownBlock) (.slice Ao71 t633.length co71) t633) ∧ Aside0 (Kd.R k70 70 wc w.heap.size (fun k_ => some k_ ≠ ((.slice Ao71 t633.length co71) : Value).ownBlock) (.slice Ao72 t634.length co72) t634) ∧ Aside0 (Kd.R k64 64 wc w.heap.size (fun _ => True) v643 t641) ∧ Aside0 (Below w.heap.size w wc))
             case first =>
              have H := HC69.out
              clear HC69
              by_cases c75 : (t642 != t646) = true
              ·rw [if_pos c75] at H
               have c75b0 : (t642 != t646) = true := c75
               (try (have c75b1 : decide (t642 = t646) = false := by simpa using c75))
               (try (have c75b2 : (t642 == t646) = false := by simpa using c75))
               (try (have c75b3 : ¬ (t642 = t646) := by simpa using c75))
               clear c75
               (first | rw [c75b0] | (simp only [i64_w, i32_w]; rw [c75b0]) | skip)
               have H' := Aside0.mk H
               clear H
               go_wp2
               go_meet
               case rel => exact ⟨_, (true), rB, H', ⟨by have := HJ6.out; have := HJ19.out; have := HJ27.out; first | omega | exact Nat.le_refl _⟩, ⟨upR HO638.out⟩, ⟨upR HO640.out⟩, ⟨by (with_reducible repeat (first | apply Kd.R_alloc | apply Kd.R_drewN | apply Kd.R_drew)); exact Kd.R_mono HO644.out (fun _ hk => trivial)⟩, (aB HB)⟩
              ·rw [if_neg c75] at H
               have c75b0 : (t642 != t646) = false := by simpa using c75
               (try (have c75b1 : decide (t642 = t646) = true := by simpa using c75))
               (try (have c75b2 : (t642 == t646) = true := by simpa using c75))
               clear c75
               (first | rw [c75b0] | (simp only [i64_w, i32_w]; rw [c75b0]) | skip)
               replace H := bA H
               obtain ⟨t649, A76, H⟩ := H
               have H' := Aside0.mk H
               clear H
               obtain ⟨Ao77, co77, eo77⟩ := Kd.R_slice HO644.out
               subst eo77
               obtain ⟨Ao78, co78, eo78⟩ := Kd.R_slice HO648.out
               subst eo78
               go_wp2_with (first | (go_at_call 52; (with_reducible refine (laws_vPairs.calls kj27 _ _ t641 _ _ t645 t649 _ ?side1 ?side2 ?side3 ?side4 A76.out).mono ?_); (case side1 => repeat (first | exact (Kd.R_reads' HO644.out).2.2 | (with_reducible refine Kd.C_alloc ?_ _) | (with_reducible refine Kd.C_drewN ?_ _) | (with_reducible refine Kd.C_drew ?_))); (case side2 => exact (Kd.R_reads' HO644.out).2.1); (case side3 => repeat (first | exact (Kd.R_reads' HO648.out).2.2 | (with_reducible refine Kd.C_alloc ?_ _) | (with_reducible refine Kd.C_drewN ?_ _) | (with_reducible refine Kd.C_drew ?_))); (case side4 => exact (Kd.R_reads' HO648.out).2.1); rintro e w' ⟨rfl, ⟨nd, rfl⟩⟩))
               go_meet
               case rel => exact ⟨_, (!t649), rB, H', ⟨by have := HJ6.out; have := HJ19.out; have := HJ27.out; first | omega | exact Nat.le_refl _⟩, ⟨upR HO638.out⟩, ⟨upR HO640.out⟩, ⟨by (with_reducible repeat (first | apply Kd.R_alloc | apply Kd.R_drewN | apply Kd.R_drew)); exact Kd.R_mono HO644.out (fun _ hk => trivial)⟩, (aB HB)⟩
             case rest =>
              apply Classical.byContradiction
              intro hn_
              letI h_ : (0 : Nat) = 1 := (hn_ (by
               clear hn_
               clear HC69
               obtain ⟨kq, x170_68, rfl, HA, HJ68, HO_17, HO_18, HO_21, HB⟩ := hcut
               cases kq with
               | zero => exact absurd HA.out (by simp [laws_FnClubs.j5])
               | succ kj68 =>
                have H := HA.out
                clear HA
                simp only [laws_FnClubs.j5] at H
                rcases Bool.eq_false_or_eq_true x170_68 with rfl | rfl
                ·replace H := iT rfl H
                 exact absurd (Option.some.inj H) (by rw [hT]; decide)
                ·replace H := iF (by decide) H
                 rcases Bool.eq_false_or_eq_true t642 with rfl | rfl
                 ·replace H := iT rfl H
                  replace H := Option.bind_eq_some_iff.mp H
                  obtain ⟨⟨t650, t651⟩, A810, H⟩ := H
                  replace H : ((impl_SharedLegs.f kj68 t633 t634).bind fun bt654 => (if t651 = true then (if bt654.2 = true then (if (t650.length : Int) > (t641.length : Int) then (laws_FnClubs.j6 kj68 t633 t634 t635 t636 t641 true) else (laws_FnClubs.j6 kj68 t633 t634 t635 t636 t641 (decide ((t641.length : Int) > (bt654.1.length : Int))))) else (laws_FnClubs.j6 kj68 t633 t634 t635 t636 t641 true)) else (laws_FnClubs.j6 kj68 t633 t634 t635 t636 t641 true))) = some r := H
                  have A81 := Aside0.mk A810
                  clear A810
                  replace H := Option.bind_eq_some_iff.mp H
                  obtain ⟨⟨t654, t655⟩, A820, H⟩ := H
                  replace H : (if t651 = true then (if t655 = true then (if (t650.length : Int) > (t641.length : Int) then (laws_FnClubs.j6 kj68 t633 t634 t635 t636 t641 true) else (laws_FnClubs.j6 kj68 t633 t634 t635 t636 t641 (decide ((t641.length : Int) > (t654.length : Int))))) else (laws_FnClubs.j6 kj68 t633 t634 t635 t636 t641 true)) else (laws_FnClubs.j6 kj68 t633 t634 t635 t636 t641 true)) = some r := H
                  have A82 := Aside0.mk A820
                  clear A820
                  have HC83 := Aside0.mk H
                  clear H
                  go_upto_region 32 with (first | ((with_reducible refine gate_callee (f := 39) rfl ?_); refine goesL_ (some 179) rfl rfl Try.func39 (by kernel_rfl) rfl #[.slice Ao71 t633.length co71, .slice Ao72 t634.length co72, .int .i64 (wrap64 (t635 + 1)), .int .i64 (wrap64 (t636 + 1))] rfl argsB ?_; (with_reducible refine (impl_ConflictLegs.calls kj68 _ _ t633 _ _ t634 (wrap64 (t635 + 1)) (wrap64 (t636 + 1)) t650 t651 _ ?side1 ?side2 ?side3 ?side4 A81.out).mono ?_); (case side1 => repeat (first | exact (Kd.R_reads' HO_17.out).2.2 | (with_reducible refine Kd.C_alloc ?_ _) | (with_reducible refine Kd.C_drewN ?_ _) | (with_reducible refine Kd.C_drew ?_))); (case side2 => exact (Kd.R_reads' HO_17.out).2.1); (case side3 => repeat (first | exact (Kd.R_reads' HO_18.out).2.2 | (with_reducible refine Kd.C_alloc ?_ _) | (with_reducible refine Kd.C_drewN ?_ _) | (with_reducible refine Kd.C_drew ?_))); (case side4 => exact (Kd.R_reads' HO_18.out).2.1); rintro e w84 ⟨v652, rfl, ho0, hb⟩; refine ⟨_, rfl, ?_⟩; have HO653 := Aside0.mk (Kd.R_lower (Kd.R_new' ho0 (Kd.R_lt (upR HO_21.out))) (below_size (bW HB))); replace HO_17 := uR HO_17 hb; replace HO_18 := uR HO_18 hb; replace HO_21 := Aside0.mk (Kd.R_elder' (upR HO_21.out) (Kd.R_base ho0) hb); replace HB := uB HB hb; (try clear hb); (try clear hk); (try clear ho0)) | ((with_reducible refine gate_callee (f := 27) rfl ?_); refine goesL_ (some 185) rfl rfl Try.func27 (by kernel_rfl) rfl #[.slice Ao71 t633.length co71, .slice Ao72 t634.length co72] rfl argsB ?_; (with_reducible refine (impl_SharedLegs.calls kj68 _ _ t633 _ _ t634 t654 t655 _ ?side1 ?side2 ?side3 ?side4 A82.out).mono ?_); (case side1 => repeat (first | exact (Kd.R_reads' HO_17.out).2.2 | (with_reducible refine Kd.C_alloc ?_ _) | (with_reducible refine Kd.C_drewN ?_ _) | (with_reducible refine Kd.C_drew ?_))); (case side2 => exact (Kd.R_reads' HO_17.out).2.1); (case side3 => repeat (first | exact (Kd.R_reads' HO_18.out).2.2 | (with_reducible refine Kd.C_alloc ?_ _) | (with_reducible refine Kd.C_drewN ?_ _) | (with_reducible refine Kd.C_drew ?_))); (case side4 => exact (Kd.R_reads' HO_18.out).2.1); rintro e w85 ⟨v656, rfl, ho0, hb⟩; refine ⟨_, rfl, ?_⟩; have HO657 := Aside0.mk (Kd.R_lower (Kd.R_new' (Kd.R_new' ho0 (Kd.R_lt (upR HO_21.out))) (Kd.R_lt (upR HO653.out))) (below_size (bW HB))); replace HO_17 := uR HO_17 hb; replace HO_18 := uR HO_18 hb; replace HO_21 := Aside0.mk (Kd.R_elder' (upR HO_21.out) (Kd.R_base ho0) hb); replace HO653 := Aside0.mk (Kd.R_elder' (upR HO653.out) (Kd.R_base ho0) hb); replace HB := uB HB hb; (try clear hb); (try clear hk); (try clear ho0)))
                  (try simp only [Act.put, List.setIfInBounds_toArray, List.set_cons_zero, List.set_cons_succ])
                  go_cut [207] (fun v207 wc => ∃ (kq : Nat) (x207_82 : Bool), v207 = .bool x207_82 ∧ Aside0 (laws_FnClubs.j6 kq t633 t634 t635 t636 t641 x207_82 = some r) ∧ Aside0 (kq ≤ kj68) ∧ Aside0 (Kd.R k70 70 wc w.heap.size (fun k_ => some k_ ≠ ((.slice Ao72 t634.length co72) : Value).ownBlock) (.slice Ao71 t633.length co71) t633) ∧ Aside0 (Kd.R k70 70 wc w.heap.size (fun k_ => some k_ ≠ ((.slice Ao71 t633.length co71) : Value).ownBlock) (.slice Ao72 t634.length co72) t634) ∧ Aside0 (Kd.R k64 64 wc w.heap.size (fun _ => True) v643 t641) ∧ Aside0 (Below w.heap.size w wc))
                  case first =>
                   have H := HC83.out
                   clear HC83
                   rcases Bool.eq_false_or_eq_true t651 with rfl | rfl
                   ·replace H := iT rfl H
                    rcases Bool.eq_false_or_eq_true t655 with rfl | rfl
                    ·replace H := iT rfl H
                     replace H := ifD H
                     rcases H with ⟨H, c88, c88b0⟩ | ⟨H, c88, c88b0⟩
                     ·have c88b1 : decide (t641.length < t650.length) = true := decide_eq_true (Int.ofNat_lt.mp c88)
                      clear c88
                      (first | rw [c88b0] | rw [c88b1] | (simp only [i64_w, i32_w]; rw [c88b0]) | skip)
                      have H' := Aside0.mk H
                      clear H
                      obtain ⟨Ao89, co89, eo89⟩ := Kd.R_slice HO653.out
                      subst eo89
                      obtain ⟨Ao90, co90, eo90⟩ := Kd.R_slice HO_21.out
                      subst eo90
                      go_wp2
                      go_meet
                      case rel => exact ⟨_, (true), rB, H', ⟨by have := HJ6.out; have := HJ19.out; have := HJ27.out; have := HJ68.out; first | omega | exact Nat.le_refl _⟩, ⟨upR HO_17.out⟩, ⟨upR HO_18.out⟩, ⟨by (with_reducible repeat (first | apply Kd.R_alloc | apply Kd.R_drewN | apply Kd.R_drew)); exact Kd.R_mono HO_21.out (fun _ hk => trivial)⟩, (aB HB)⟩
                     ·have c88b1 : decide (t641.length < t650.length) = false := decide_eq_false (fun h => c88 (Int.ofNat_lt.mpr h))
                      clear c88
                      (first | rw [c88b0] | rw [c88b1] | (simp only [i64_w, i32_w]; rw [c88b0]) | skip)
                      have H' := Aside0.mk H
                      clear H
                      obtain ⟨Ao91, co91, eo91⟩ := Kd.R_slice HO653.out
                      subst eo91
                      obtain ⟨Ao92, co92, eo92⟩ := Kd.R_slice HO_21.out
                      subst eo92
                      obtain ⟨Ao93, co93, eo93⟩ := Kd.R_slice HO657.out
                      subst eo93
                      go_wp2
                      go_meet
                      case rel => exact ⟨_, (decide ((t641.length : Int) > (t654.length : Int))), rB, H', ⟨by have := HJ6.out; have := HJ19.out; have := HJ27.out; have := HJ68.out; first | omega | exact Nat.le_refl _⟩, ⟨upR HO_17.out⟩, ⟨upR HO_18.out⟩, ⟨by (with_reducible repeat (first | apply Kd.R_alloc | apply Kd.R_drewN | apply Kd.R_drew)); exact Kd.R_mono HO_21.out (fun _ hk => trivial)⟩, (aB HB)⟩
                    ·replace H := iF (by decide) H
                     have H' := Aside0.mk H
                     clear H
                     go_wp2
                     go_meet
                     case rel => exact ⟨_, (true), rB, H', ⟨by have := HJ6.out; have := HJ19.out; have := HJ27.out; have := HJ68.out; first | omega | exact Nat.le_refl _⟩, ⟨upR HO_17.out⟩, ⟨upR HO_18.out⟩, ⟨by (with_reducible repeat (first | apply Kd.R_alloc | apply Kd.R_drewN | apply Kd.R_drew)); exact Kd.R_mono HO_21.out (fun _ hk => trivial)⟩, (aB HB)⟩
                   ·replace H := iF (by decide) H
                    have H' := Aside0.mk H
                    clear H
                    go_wp2
                    go_meet
                    case rel => exact ⟨_, (true), rB, H', ⟨by have := HJ6.out; have := HJ19.out; have := HJ27.out; have := HJ68.out; first | omega | exact Nat.le_refl _⟩, ⟨upR HO_17.out⟩, ⟨upR HO_18.out⟩, ⟨by (with_reducible repeat (first | apply Kd.R_alloc | apply Kd.R_drewN | apply Kd.R_drew)); exact Kd.R_mono HO_21.out (fun _ hk => trivial)⟩, (aB HB)⟩
                  case rest =>
                   apply Classical.byContradiction
                   intro hn_
                   letI h_ : (0 : Nat) = 1 := (hn_ (by
                    clear hn_
                    clear HC83
                    obtain ⟨kq, x207_82, rfl, HA, HJ82, HO_17, HO_18, HO_21, HB⟩ := hcut
                    cases kq with
                    | zero => exact absurd HA.out (by simp [laws_FnClubs.j6])
                    | succ kj82 =>
                     have H := HA.out
                     clear HA
                     simp only [laws_FnClubs.j6] at H
                     rcases Bool.eq_false_or_eq_true x207_82 with rfl | rfl
                     ·replace H := iT rfl H
                      exact absurd (Option.some.inj H) (by rw [hT]; decide)
                     ·replace H := iF (by decide) H
                      have H' := Aside0.mk H
                      clear H
                      go_wp2
                      go_loopg [29] kj82 (fun kq v29 w' => ∃ (x29_6 : Int), v29 = .int .i64 x29_6 ∧ Aside0 (laws_FnClubs.l1 kq t633 t634 t635 t636 t641 x29_6 = some r) ∧ Aside0 (kq ≤ kj82) ∧ Aside0 (Kd.R k70 70 w' w.heap.size (fun k_ => some k_ ≠ ((.slice Ao72 t634.length co72) : Value).ownBlock) (.slice Ao71 t633.length co71) t633) ∧ Aside0 (Kd.R k70 70 w' w.heap.size (fun k_ => some k_ ≠ ((.slice Ao71 t633.length co71) : Value).ownBlock) (.slice Ao72 t634.length co72) t634) ∧ Aside0 (Kd.R k64 64 w' w.heap.size (fun _ => True) v643 t641) ∧ Aside0 (Below w.heap.size w w'))
                      case atStart => exact ⟨(0), rB, H', ⟨Nat.le_refl _⟩, ⟨upR HO_17.out⟩, ⟨upR HO_18.out⟩, ⟨upR HO_21.out⟩, (aB HB)⟩
                      case round =>
                       apply Classical.byContradiction
                       intro hn_
                       letI h_ : (0 : Nat) = 1 := (hn_ (by
                        clear hn_
                        clear H'
                        obtain ⟨x29_6, rfl, HA, HK6, HO_17, HO_18, HO_21, HB⟩ := hrel
                        cases gk with
                        | zero => exact absurd HA.out (by simp [laws_FnClubs.l1])
                        | succ k6 =>
                         have H := HA.out
                         clear HA
                         simp only [laws_FnClubs.l1] at H
                         replace H := ifD H
                         rcases H with ⟨H, -, c95b0⟩ | ⟨H, -, c95b0⟩
                         ·by_cases c96 : 0 ≤ x29_6
                          ·rw [if_pos c96] at H
                           have c96b0 : decide (0 ≤ x29_6) = true := decide_eq_true c96
                           clear c96
                           by_cases c97 : 0 ≤ ((rd_T64 t641 x29_6).f0)
                           ·rw [if_pos c97] at H
                            have c97b0 : decide (0 ≤ ((rd_T64 t641 x29_6).f0)) = true := decide_eq_true c97
                            clear c97
                            by_cases c98 : ((rd_T64 t641 x29_6).f0) < (t633.length : Int)
                            ·rw [if_pos c98] at H
                             have c98b0 : decide (((rd_T64 t641 x29_6).f0) < (t633.length : Int)) = true := decide_eq_true c98
                             clear c98
                             by_cases c99 : 0 ≤ ((rd_T64 t641 x29_6).f1)
                             ·rw [if_pos c99] at H
                              have c99b0 : decide (0 ≤ ((rd_T64 t641 x29_6).f1)) = true := decide_eq_true c99
                              clear c99
                              by_cases c100 : ((rd_T64 t641 x29_6).f1) < (t634.length : Int)
                              ·rw [if_pos c100] at H
                               have c100b0 : decide (((rd_T64 t641 x29_6).f1) < (t634.length : Int)) = true := decide_eq_true c100
                               clear c100
                               replace H := Option.bind_eq_some_iff.mp H
                               obtain ⟨⟨t662, t663⟩, A1010, H⟩ := H
                               replace H : (if t663 = true then (if t662 = true then (some false) else (laws_FnClubs.l1 k6 t633 t634 t635 t636 t641 (wrap64 (x29_6 + 1)))) else (some false)) = some r := H
                               have A101 := Aside0.mk A1010
                               clear A1010
                               rcases Bool.eq_false_or_eq_true t663 with rfl | rfl
                               ·replace H := iT rfl H
                                rcases Bool.eq_false_or_eq_true t662 with rfl | rfl
                                ·replace H := iT rfl H
                                 exact absurd (Option.some.inj H) (by rw [hT]; decide)
                                ·replace H := iF (by decide) H
                                 have H' := Aside0.mk H
                                 clear H
                                 obtain ⟨Ao107, co107, eo107⟩ := Kd.R_slice HO_21.out
                                 subst eo107
                                 try go_wp2
                                 replace HO_17 := Aside0.mk (Kd.R_drew HO_17.out)
                                 replace HO_18 := Aside0.mk (Kd.R_drew HO_18.out)
                                 replace HO_21 := Aside0.mk (Kd.R_drew HO_21.out)
                                 replace HB := Aside0.mk (below_drew1 HB.out)
                                 have p658 : 0 ≤ (x29_6 : Int) := of_decide_eq_true asmB
                                 have q658 : x29_6 < (t641.length : Int) := of_decide_eq_true asmB
                                 obtain ⟨ad658, e658, hx658_0, hx658_1⟩ := at_T64 (Kd.R_reads' HO_21.out).2.2 x29_6 p658 q658
                                 cases e658
                                 replace p658 := eq_true p658
                                 replace q658 := eq_true q658
                                 have p659 : 0 ≤ (((rd_T64 t641 x29_6).f0) : Int) := of_decide_eq_true asmB
                                 have q659 : ((rd_T64 t641 x29_6).f0) < (t633.length : Int) := of_decide_eq_true asmB
                                 obtain ⟨ad659, e659, hx659_0, hx659_1, hx659_2, hx659_3, hx659_4⟩ := at_T70 (Kd.R_reads' HO_17.out).2.2 ((rd_T64 t641 x29_6).f0) p659 q659
                                 cases e659
                                 replace p659 := eq_true p659
                                 replace q659 := eq_true q659
                                 have p660 : 0 ≤ (x29_6 : Int) := of_decide_eq_true asmB
                                 have q660 : x29_6 < (t641.length : Int) := of_decide_eq_true asmB
                                 obtain ⟨ad660, e660, hx660_0, hx660_1⟩ := at_T64 (Kd.R_reads' HO_21.out).2.2 x29_6 p660 q660
                                 obtain rfl : ad658 = ad660 := (by injection e660)
                                 replace p660 := eq_true p660
                                 replace q660 := eq_true q660
                                 have p661 : 0 ≤ (((rd_T64 t641 x29_6).f1) : Int) := of_decide_eq_true asmB
                                 have q661 : ((rd_T64 t641 x29_6).f1) < (t634.length : Int) := of_decide_eq_true asmB
                                 obtain ⟨ad661, e661, hx661_0, hx661_1, hx661_2, hx661_3, hx661_4⟩ := at_T70 (Kd.R_reads' HO_18.out).2.2 ((rd_T64 t641 x29_6).f1) p661 q661
                                 cases e661
                                 replace p661 := eq_true p661
                                 replace q661 := eq_true q661
                                 refine sA (n := 24) (S := fun w' => w'.cell? (ad658.add ((x29_6).toNat * 2)) = some (.int .i64 ((rd_T64 t641 x29_6).f0)) ∧ w'.cell? ⟨(ad658.add ((x29_6).toNat * 2)).block, (ad658.add ((x29_6).toNat * 2)).off + 1, none⟩ = some (.int .i64 ((rd_T64 t641 x29_6).f1)) ∧ w'.cell? (ad659.add ((((rd_T64 t641 x29_6).f0)).toNat * 5)) = some (.int .i64 ((rd_T70 t633 ((rd_T64 t641 x29_6).f0)).f0)) ∧ w'.cell? ⟨(ad659.add ((((rd_T64 t641 x29_6).f0)).toNat * 5)).block, (ad659.add ((((rd_T64 t641 x29_6).f0)).toNat * 5)).off + 1, none⟩ = some (.int .i64 ((rd_T70 t633 ((rd_T64 t641 x29_6).f0)).f1)) ∧ w'.cell? ⟨(ad659.add ((((rd_T64 t641 x29_6).f0)).toNat * 5)).block, (ad659.add ((((rd_T64 t641 x29_6).f0)).toNat * 5)).off + 2, none⟩ = some (.int .i64 ((rd_T70 t633 ((rd_T64 t641 x29_6).f0)).f2)) ∧ w'.cell? ⟨(ad659.add ((((rd_T64 t641 x29_6).f0)).toNat * 5)).block, (ad659.add ((((rd_T64 t641 x29_6).f0)).toNat * 5)).off + 3, none⟩ = some (.int .i64 ((rd_T70 t633 ((rd_T64 t641 x29_6).f0)).f3)) ∧ w'.cell? ⟨(ad659.add ((((rd_T64 t641 x29_6).f0)).toNat * 5)).block, (ad659.add ((((rd_T64 t641 x29_6).f0)).toNat * 5)).off + 4, none⟩ = some (.int .i64 ((rd_T70 t633 ((rd_T64 t641 x29_6).f0)).f4)) ∧ w'.cell? (ad658.add ((x29_6).toNat * 2)) = some (.int .i64 ((rd_T64 t641 x29_6).f0)) ∧ w'.cell? ⟨(ad658.add ((x29_6).toNat * 2)).block, (ad658.add ((x29_6).toNat * 2)).off + 1, none⟩ = some (.int .i64 ((rd_T64 t641 x29_6).f1)) ∧ w'.cell? (ad661.add ((((rd_T64 t641 x29_6).f1)).toNat * 5)) = some (.int .i64 ((rd_T70 t634 ((rd_T64 t641 x29_6).f1)).f0)) ∧ w'.cell? ⟨(ad661.add ((((rd_T64 t641 x29_6).f1)).toNat * 5)).block, (ad661.add ((((rd_T64 t641 x29_6).f1)).toNat * 5)).off + 1, none⟩ = some (.int .i64 ((rd_T70 t634 ((rd_T64 t641 x29_6).f1)).f1)) ∧ w'.cell? ⟨(ad661.add ((((rd_T64 t641 x29_6).f1)).toNat * 5)).block, (ad661.add ((((rd_T64 t641 x29_6).f1)).toNat * 5)).off + 2, none⟩ = some (.int .i64 ((rd_T70 t634 ((rd_T64 t641 x29_6).f1)).f2)) ∧ w'.cell? ⟨(ad661.add ((((rd_T64 t641 x29_6).f1)).toNat * 5)).block, (ad661.add ((((rd_T64 t641 x29_6).f1)).toNat * 5)).off + 3, none⟩ = some (.int .i64 ((rd_T70 t634 ((rd_T64 t641 x29_6).f1)).f3)) ∧ w'.cell? ⟨(ad661.add ((((rd_T64 t641 x29_6).f1)).toNat * 5)).block, (ad661.add ((((rd_T64 t641 x29_6).f1)).toNat * 5)).off + 4, none⟩ = some (.int .i64 ((rd_T70 t634 ((rd_T64 t641 x29_6).f1)).f4))) (ds := []) laws_FnClubs.tab37 laws_FnClubs.bits37 #[false, false, false, false, false, false, false, false, false, false, false, false, false, false, false, false, false, false, false, false, false, false, false, false] ⟨hx658_0, hx658_1, hx659_0, hx659_1, hx659_2, hx659_3, hx659_4, hx660_0, hx660_1, hx661_0, hx661_1, hx661_2, hx661_3, hx661_4⟩ fun hHeld HT_ HW_ => ?_
                                 generalize wr.drew = w108 at HO_17 HO_18 HO_21 HB hx658_0 hx658_1 hx659_0 hx659_1 hx659_2 hx659_3 hx659_4 hx660_0 hx660_1 hx661_0 hx661_1 hx661_2 hx661_3 hx661_4 hHeld ⊢
                                 refine pA 0 215 HT_ ?_
                                 refine pA 1 216 HT_ ?_
                                 refine pA 2 217 HT_ ?_
                                 refine pA 3 218 HT_ ?_
                                 refine pA 4 219 HT_ ?_
                                 refine pA 8 223 HT_ ?_
                                 refine pA 9 224 HT_ ?_
                                 refine pA 10 225 HT_ ?_
                                 refine pA 11 226 HT_ ?_
                                 refine pA 12 227 HT_ ?_
                                 refine pA 16 231 HT_ ?_
                                 refine pA 17 232 HT_ ?_
                                 refine tA 5 220 HT_ HW_ hHeld ?_
                                 refine pA 6 221 HT_ ?_
                                 refine tA 7 222 HT_ HW_ hHeld ?_
                                 refine tA 13 228 HT_ HW_ hHeld ?_
                                 refine pA 14 229 HT_ ?_
                                 refine tA 15 230 HT_ HW_ hHeld ?_
                                 refine oA 18 (some 233) HT_ fun K hK => ?_
                                 refine goes_ Try.func55 (by kernel_rfl) rfl #[.agg #[.int .i64 ((rd_T70 t633 ((rd_T64 t641 x29_6).f0)).f0), .int .i64 ((rd_T70 t633 ((rd_T64 t641 x29_6).f0)).f1), .int .i64 ((rd_T70 t633 ((rd_T64 t641 x29_6).f0)).f2), .int .i64 ((rd_T70 t633 ((rd_T64 t641 x29_6).f0)).f3), .int .i64 ((rd_T70 t633 ((rd_T64 t641 x29_6).f0)).f4)], .agg #[.int .i64 ((rd_T70 t634 ((rd_T64 t641 x29_6).f1)).f0), .int .i64 ((rd_T70 t634 ((rd_T64 t641 x29_6).f1)).f1), .int .i64 ((rd_T70 t634 ((rd_T64 t641 x29_6).f1)).f2), .int .i64 ((rd_T70 t634 ((rd_T64 t641 x29_6).f1)).f3), .int .i64 ((rd_T70 t634 ((rd_T64 t641 x29_6).f1)).f4)], .int .i64 t635, .int .i64 t636] (by rfl) rfl rfl argsB ?_
                                 with_reducible refine (impl_DoAgree.calls ((rd_T70 t633 ((rd_T64 t641 x29_6).f0)).f0) ((rd_T70 t633 ((rd_T64 t641 x29_6).f0)).f1) ((rd_T70 t633 ((rd_T64 t641 x29_6).f0)).f2) ((rd_T70 t633 ((rd_T64 t641 x29_6).f0)).f3) ((rd_T70 t633 ((rd_T64 t641 x29_6).f0)).f4) ((rd_T70 t634 ((rd_T64 t641 x29_6).f1)).f0) ((rd_T70 t634 ((rd_T64 t641 x29_6).f1)).f1) ((rd_T70 t634 ((rd_T64 t641 x29_6).f1)).f2) ((rd_T70 t634 ((rd_T64 t641 x29_6).f1)).f3) ((rd_T70 t634 ((rd_T64 t641 x29_6).f1)).f4) t635 t636 false true _ A101.out).mono ?_
                                 rintro e w109 ⟨rfl, hb⟩
                                 have HS0_ := (hb.cell (World.block_lt_of_cell? _ _ (hHeld.1))).trans (hHeld.1)
                                 have HS1_ := (hb.cell (World.block_lt_of_cell? _ _ (hHeld.2.1))).trans (hHeld.2.1)
                                 have HS2_ := (hb.cell (World.block_lt_of_cell? _ _ (hHeld.2.2.1))).trans (hHeld.2.2.1)
                                 have HS3_ := (hb.cell (World.block_lt_of_cell? _ _ (hHeld.2.2.2.1))).trans (hHeld.2.2.2.1)
                                 have HS4_ := (hb.cell (World.block_lt_of_cell? _ _ (hHeld.2.2.2.2.1))).trans (hHeld.2.2.2.2.1)
                                 have HS5_ := (hb.cell (World.block_lt_of_cell? _ _ (hHeld.2.2.2.2.2.1))).trans (hHeld.2.2.2.2.2.1)
                                 have HS6_ := (hb.cell (World.block_lt_of_cell? _ _ (hHeld.2.2.2.2.2.2.1))).trans (hHeld.2.2.2.2.2.2.1)
                                 have HS7_ := (hb.cell (World.block_lt_of_cell? _ _ (hHeld.2.2.2.2.2.2.2.1))).trans (hHeld.2.2.2.2.2.2.2.1)
                                 have HS8_ := (hb.cell (World.block_lt_of_cell? _ _ (hHeld.2.2.2.2.2.2.2.2.1))).trans (hHeld.2.2.2.2.2.2.2.2.1)
                                 have HS9_ := (hb.cell (World.block_lt_of_cell? _ _ (hHeld.2.2.2.2.2.2.2.2.2.1))).trans (hHeld.2.2.2.2.2.2.2.2.2.1)
                                 have HS10_ := (hb.cell (World.block_lt_of_cell? _ _ (hHeld.2.2.2.2.2.2.2.2.2.2.1))).trans (hHeld.2.2.2.2.2.2.2.2.2.2.1)
                                 have HS11_ := (hb.cell (World.block_lt_of_cell? _ _ (hHeld.2.2.2.2.2.2.2.2.2.2.2.1))).trans (hHeld.2.2.2.2.2.2.2.2.2.2.2.1)
                                 have HS12_ := (hb.cell (World.block_lt_of_cell? _ _ (hHeld.2.2.2.2.2.2.2.2.2.2.2.2.1))).trans (hHeld.2.2.2.2.2.2.2.2.2.2.2.2.1)
                                 have HS13_ := (hb.cell (World.block_lt_of_cell? _ _ (hHeld.2.2.2.2.2.2.2.2.2.2.2.2.2))).trans (hHeld.2.2.2.2.2.2.2.2.2.2.2.2.2)
                                 refine ⟨_, rfl, ?_⟩
                                 replace HO_17 := uR HO_17 hb
                                 replace HO_18 := uR HO_18 hb
                                 replace HO_21 := uR HO_21 hb
                                 replace HB := uB HB hb
                                 (try clear hb)
                                 refine hK.out _ _ ⟨HS0_, HS1_, HS2_, HS3_, HS4_, HS5_, HS6_, HS7_, HS8_, HS9_, HS10_, HS11_, HS12_, HS13_⟩ (fun hHeld => ?_)
                                 clear hK K
                                 refine nA ?_ (some 233)
                                 refine pA 19 214 HT_ ?_
                                 refine pA 20 234 HT_ ?_
                                 refine pA 21 235 HT_ ?_
                                 refine pA 22 30 HT_ ?_
                                 refine pA 23 31 HT_ ?_
                                 refine done_ (done_of HT_.out (by kernel_rfl)) ?_
                                 try go_wp2
                                 go_roundg k6
                                 case measure => have := HJ6.out; have := HJ19.out; have := HJ27.out; have := HJ68.out; have := HJ82.out; have := HK6.out; omega
                                 case rel => exact ⟨(wrap64 (x29_6 + 1)), rB, H', ⟨by have := HJ6.out; have := HJ19.out; have := HJ27.out; have := HJ68.out; have := HJ82.out; have := HK6.out; omega⟩, ⟨upR HO_17.out⟩, ⟨upR HO_18.out⟩, ⟨upR HO_21.out⟩, (aB HB)⟩
                               ·replace H := iF (by decide) H
                                exact absurd (Option.some.inj H) (by rw [hT]; decide)
                              ·rw [if_neg c100] at H
                               exact absurd H (by simp)
                             ·rw [if_neg c99] at H
                              exact absurd H (by simp)
                            ·rw [if_neg c98] at H
                             exact absurd H (by simp)
                           ·rw [if_neg c97] at H
                            exact absurd H (by simp)
                          ·rw [if_neg c96] at H
                           exact absurd H (by simp)
                         ·obtain rfl := (Option.some.inj H)
                          obtain ⟨Ao113, co113, eo113⟩ := Kd.R_slice HO_21.out
                          subst eo113
                          go_wp2
                          go_ret
                          exact ⟨eB, (bW HB)⟩
                        )).elim
                       omega
                    )).elim
                   omega
                 ·replace H := iF (by decide) H
                  obtain rfl := (Option.some.inj H)
                  go_wp2
                  go_ret
                  exact ⟨eB, (bW HB)⟩
               )).elim
              omega
            )).elim
           omega
        )).elim
       omega
    )).elim
   omega

/-- THE ONE PURE STATEMENT of laws_FnClubs: yours. -/

def laws_FnClubs.Pure : Prop := ∀ (l0 : List Int), l0.length ≤ maxLen → l0.length * 1 ≤ 140737488351232 → (∀ x ∈ l0, (Lit.int .u8 x).wf = true) → ∃ k, laws_FnClubs.f k l0 = some true
theorem laws_FnClubs.walk (P : laws_FnClubs.Pure) (a0 : Option Addr) (len0 cap0 : Nat) (z0 : List Int) (w : World) (w0 : (a0 = none ∧ len0 = 0 ∧ cap0 = 0 ∧ z0 = []) ∨ ∃ x, a0 = some x ∧ len0 ≤ cap0 ∧ cap0 ≤ maxLen ∧ z0.length = cap0 ∧ (∀ i, i < z0.length → w.cell? (x.add i) = some (.int .u8 (z0.getD i 0))) ∧ ∀ n ∈ z0, (Lit.int .u8 n).wf = true) (y0 : len0 * 1 ≤ 140737488351232) :
  Calls Try.prog 13 #[.slice a0 len0 cap0] w fun e w' => e = .returned (.bool true) ∧ Below w.heap.size w w' := by
 obtain ⟨l0, rfl, hr0, hm0, hw0, hc0⟩ := ReadsInt.ofRowC w0
 obtain ⟨k, h⟩ := P l0 hm0 y0 hw0
 refine (laws_FnClubs.calls k _ _ l0 true w (Kd.C_of_reads (d := (0 : Int)) (h1 := fun _ => rfl) hr0) hc0 h rfl).mono ?_
 rintro e w' ⟨rfl, hd⟩
 exact ⟨rfl, hd⟩

end Go.Proofs.Ytfaojmabalplfaa.QFnClubs
