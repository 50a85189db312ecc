/- Contracts of Go functions that FnSteps reaches: the call computes what the plain function says. No condition. -/
import Derived.Test.YtmfidodcpbochaaGreatQFnStepsx0
import Derived.Test.YtmfidodcpbochaaGreatQFnStepsx6
import Derived.Test.YtmfidodcpbochaaGreatQFnStepsx12
namespace Go.Proofs.YtmfidodcpbochaaGreat.QFnSteps
open Go.RowKit Go.Proofs.YtmfidodcpbochaaGreatW.PrintWords Go.Proofs.YtmfidodcpbochaaGreatW.PrintLast Go.Proofs.YtmfidodcpbochaaGreatW.PrintMore
attribute [local go_sem] max2_int min2_int max_two min_two max_three min_three max_four min_four   -- for this text's walks alone
set_option linter.unusedVariables false
set_option linter.unusedSimpArgs false

/-! ### impl_isCut: function 29 -/
def impl_isCut.l0 : Nat → Int → List (S32) → Int → List Int → Int → Int → Option (Bool)
 | 0, _, _, _, _, _, _ => none
 | k + 1, x5, x7, x8, x15, x16, x17 => if x17 < x16 then (if 0 ≤ x17 then (if x17 < (x15.length : Int) then (if (rd x15 x17) = x5 then (impl_isCut.l0 k x5 x7 x8 x15 x16 (wrap64 (x17 + 1))) else (if x8 < 0 then (impl_isCut.l0 k x5 x7 (rd x15 x17) x15 x16 (wrap64 (x17 + 1))) else ((impl_together.f k x7 x8 (rd x15 x17)).bind fun t571 => (if t571 = true then (impl_isCut.l0 k x5 x7 x8 x15 x16 (wrap64 (x17 + 1))) else (some true))))) else (none)) else (none)) else (some false)
def impl_isCut.f (k : Nat) (l0 : List (S32)) (l1 : List Int) (a2 : Int) : Option (Bool) := (impl_Leg_50.f l0).bind fun t564 => ((impl_Leg_49.f k t564 a2).bind fun t567 => (impl_isCut.l0 k a2 t567 (-1) l1 (l1.length : Int) 0))
theorem impl_isCut.mono_l : ∀ k, (∀ y0 y1 y2 y3 y4 y5, LeO (impl_isCut.l0 k y0 y1 y2 y3 y4 y5) (impl_isCut.l0 (k + 1) y0 y1 y2 y3 y4 y5))
 | 0 => fun _ _ _ _ _ _ r h => by simp [impl_isCut.l0] at h
 | k + 1 => by
  have ih0 := impl_isCut.mono_l k
  ·intro y0 y1 y2 y3 y4 y5
   unfold impl_isCut.l0
   repeat' with_reducible first | apply ih0 | apply impl_Leg_49.mono | apply impl_together.mono | exact LeO.refl _ | exact LeO.none _ | refine LeO.ite ?_ ?_ | refine LeO.bind ?_ (fun _ => ?_)
theorem impl_isCut.mono : ∀ a0 a1 a2 k, LeO (impl_isCut.f k a0 a1 a2) (impl_isCut.f (k + 1) a0 a1 a2) := by
 intro a0 a1 a2 k
 have ih0 := impl_isCut.mono_l k
 unfold impl_isCut.f
 repeat' with_reducible first | apply ih0 | apply impl_Leg_49.mono | apply impl_together.mono | exact LeO.refl _ | exact LeO.none _ | refine LeO.ite ?_ ?_ | refine LeO.bind ?_ (fun _ => ?_)
set_option maxHeartbeats 8000000 in
set_option maxRecDepth 100000 in
theorem impl_isCut.calls (k : Nat) (A0 : Option Addr) (c0 : Nat) (l0 : List (S32)) (A1 : Option Addr) (c1 : Nat) (l1 : List Int) (a2 : Int) (r : Bool) (w_ : World) (hr0 : Kd.C k32 w_ A0 l0.length l0) (hc0 : l0.length ≤ c0) (hr1 : Kd.C (Kd.int .i64) w_ A1 l1.length l1) (hc1 : l1.length ≤ c1) (h : impl_isCut.f k l0 l1 a2 = some r) :
 Calls Tryz.prog 29 #[.slice A0 l0.length c0, .slice A1 l1.length c1, .int .i64 a2] w_ fun e w' => e = .returned (.bool r) ∧ Below w_.heap.size w_ w' := by
 obtain ⟨w, hw_⟩ : ∃ W : World, W = w_.alloc (.cells #[.int .i64 a2] 3 (0, 0)) := ⟨_, rfl⟩
 have hBA_ : Below w_.heap.size w_ w := by rw [hw_]; exact below_alloc (Below.refl _ _) _
 have hX_ : w.heap[w_.heap.size]? = some (.cells #[.int .i64 a2] 3 (0, 0)) := by rw [hw_]; exact blk_new _ _
 replace hr0 := Kd.C_below hr0 hBA_
 replace hr1 := Kd.C_below hr1 hBA_
 refine Calls.mono (R := fun e w' => e = .returned (.bool r) ∧ Below w.heap.size w w') ?_ (fun e w' h_ => ⟨h_.1, below_step hBA_ h_.2⟩)
 have HBA := Aside0.mk hBA_
 clear hBA_
 have BX := Aside0.mk hX_
 clear hX_
 have HR0 := Aside0.mk hr0
 have HC0 := Aside0.mk hc0
 clear hr0 hc0
 have HR1 := Aside0.mk hr1
 have HC1 := Aside0.mk hc1
 clear hr1 hc1
 have HB := Aside0.mk (Below.refl w.heap.size w)
 have H := h
 clear h
 unfold impl_isCut.f at H
 replace H := bA H
 obtain ⟨t564, A4, H⟩ := H
 replace H := bA H
 obtain ⟨t567, A5, H⟩ := H
 have H' := Aside0.mk H
 clear H
 go_enter Tryz.func29, Tryz.ntmps29
 go_upto_region 1 with (fail)
 rw [← hw_]
 clear hw_
 obtain ⟨gbx, hgbx⟩ : ∃ g : Nat, g = w_.heap.size := ⟨_, rfl⟩
 rw [← hgbx] at BX ⊢
 clear hgbx HBA
 go_wp2_with (first | ((with_reducible refine gC 50 ?_); refine zG (some 12) Tryz.func50 (impl_Leg_50.calls _ _ l0 t564 _ (zC HR0) (HC0.out) A4.out) ?_; rintro e w6 ⟨v565, rfl, ho0, hb⟩; refine ⟨_, rfl, ?_⟩; have HO566 := Aside0.mk (Kd.R_lower ho0 (below_size (bW HB))); replace HB := uB HB hb; (try clear hb); (try clear ho0); obtain ⟨Ao7, co7, eo7⟩ := Kd.R_slice HO566.out; subst eo7) | ((with_reducible refine gC 49 ?_); refine zG (some 14) Tryz.func49 (impl_Leg_49.calls k (fun k_ => some k_ = (.slice Ao7 t564.length co7 : Value).ownBlock) (.slice Ao7 t564.length co7) t564 a2 t567 w _ (by repeat (first | (with_reducible first | exact HB.out | apply below_alloc | apply pw_below_drewN | apply below_drew1) | exact HB.out)) (Kd.R_tight rfl HO566.out) A5.out) ?_; rintro e w8 ⟨v568, rfl, ho0, hb, hkp⟩; refine ⟨_, rfl, ?_⟩; have HO569 := Aside0.mk (Kd.R_mono (ok' := fun k_ => True) ho0 (fun k_ hk_ => trivial)); replace HB := Aside0.mk (hb); clear HO566; (try clear hb); (try clear hkp); (try clear ho0)))
 (try simp only [Act.put, List.setIfInBounds_toArray, List.set_cons_zero, List.set_cons_succ])
 go_loopg [8, 17] k (fun kq v8 v17 w' => ∃ (x8_1 x17_1 : Int), v8 = .int .i64 x8_1 ∧ v17 = .int .i64 x17_1 ∧ Aside0 (impl_isCut.l0 kq a2 t567 x8_1 l1 (l1.length : Int) x17_1 = some r) ∧ Aside0 (kq ≤ k) ∧ Aside0 (Kd.R k32 32 w' w.heap.size (fun _ => True) v568 t567) ∧ Aside0 (Below w.heap.size w w'))
 case atStart => exact ⟨((-1)), (0), rB, rB, H', ⟨Nat.le_refl _⟩, ⟨upR HO569.out⟩, (aB HB)⟩
 case round =>
  clear H'
  try clear c1
  obtain ⟨x8_1, x17_1, rfl, rfl, HA, HK1, HO_7, HB⟩ := hrel
  have hbx_ := (blk_cell (blk_below BX.out HB.out) 0).trans rfl
  cases gk with
  | zero => exact absurd HA.out (by simp [impl_isCut.l0])
  | succ k1 =>
   have H := HA.out
   clear HA
   simp only [impl_isCut.l0] at H
   replace H := ifD H
   rcases H with ⟨H, -, c9b0⟩ | ⟨H, -, c9b0⟩
   ·replace H := zN H
    obtain ⟨c10b0, H⟩ := H
    replace H := zN H
    obtain ⟨c11b0, H⟩ := H
    replace H := ifI H
    rcases H with ⟨H, -, c12b0, c12b1⟩ | ⟨H, c12, c12b0, c12b1⟩
    ·have H' := Aside0.mk H
     clear H
     obtain ⟨ad570, e570, hx570_0, p570, q570⟩ := zi HR1 HB x17_1
     cases e570
     go_wp2
     go_roundg k1
     case measure => have := HK1.out; omega
     case rel => exact ⟨(x8_1), (wrap64 (x17_1 + 1)), rB, rB, H', ⟨by have := HK1.out; omega⟩, ⟨upR HO_7.out⟩, (aB HB)⟩
    ·replace H := ifD H
     rcases H with ⟨H, -, c13b0⟩ | ⟨H, -, c13b0⟩
     ·have H' := Aside0.mk H
      clear H
      obtain ⟨ad570, e570, hx570_0, p570, q570⟩ := zi HR1 HB x17_1
      cases e570
      go_wp2
      go_roundg k1
      case measure => have := HK1.out; omega
      case rel => exact ⟨(rd l1 x17_1), (wrap64 (x17_1 + 1)), rB, rB, H', ⟨by have := HK1.out; omega⟩, ⟨upR HO_7.out⟩, (aB HB)⟩
     ·replace H := bA H
      obtain ⟨t571, A14, H⟩ := H
      rcases Bool.eq_false_or_eq_true t571 with rfl | rfl
      ·replace H := iT rfl H
       have H' := Aside0.mk H
       clear H
       obtain ⟨ad570, e570, hx570_0, p570, q570⟩ := zi HR1 HB x17_1
       cases e570
       obtain ⟨Ao16, co16, eo16⟩ := Kd.R_slice HO_7.out
       subst eo16
       go_wp2_with (first | ((with_reducible refine gC 52 ?_); refine lA (some 33) Tryz.func52 (impl_together.calls k1 _ _ t567 x8_1 (rd l1 x17_1) true _ ?side1 ?side2 A14.out) ?_; (case side1 => exact zCR HO_7); (case side2 => exact (Kd.R_reads' HO_7.out).2.1); intro w17 hb; replace HO_7 := uR HO_7 hb; replace HB := uB HB hb; (try clear hb)))
       go_roundg k1
       case measure => have := HK1.out; omega
       case rel => exact ⟨(x8_1), (wrap64 (x17_1 + 1)), rB, rB, H', ⟨by have := HK1.out; omega⟩, ⟨upR HO_7.out⟩, (aB HB)⟩
      ·replace H := iF (by decide) H
       obtain rfl := Option.some.inj H
       obtain ⟨ad570, e570, hx570_0, p570, q570⟩ := zi HR1 HB x17_1
       cases e570
       obtain ⟨Ao18, co18, eo18⟩ := Kd.R_slice HO_7.out
       subst eo18
       go_wp2_with (first | ((with_reducible refine gC 52 ?_); refine lA (some 33) Tryz.func52 (impl_together.calls k1 _ _ t567 x8_1 (rd l1 x17_1) false _ ?side1 ?side2 A14.out) ?_; (case side1 => exact zCR HO_7); (case side2 => exact (Kd.R_reads' HO_7.out).2.1); intro w19 hb; replace HO_7 := uR HO_7 hb; replace HB := uB HB hb; (try clear hb)))
       go_ret
       exact ⟨eB, (bW HB)⟩
   ·obtain rfl := Option.some.inj H
    go_wp2
    go_ret
    exact ⟨eB, (bW HB)⟩

/-! ### slices_Sort_int_int: function 30 -/
-- calls: none
-- own: 0 kept
def slices_Sort_int_int.f (l0 : List Int) : Option (List Int) := if l0.length < 4611686018427387904 then some (l0.mergeSort fun x y => decide (x ≤ y)) else none
theorem slices_Sort_int_int.calls (P0_ : Nat → Prop) (u9000_ : Value) (l0 : List Int) (r : List Int) (w0 w : World) (hB : Below w0.heap.size w0 w) (ho0 : Kd.R (Kd.int .i64) 3 w w0.heap.size P0_ u9000_ l0) (h : slices_Sort_int_int.f l0 = some r) :
 Calls Tryz.prog 30 #[u9000_] w fun e w' => e = .returned (.tuple #[]) ∧ Kd.R (Kd.int .i64) 3 w' w0.heap.size (fun k_ => (P0_ k_ ∨ w.heap.size ≤ k_)) u9000_ r ∧ Below w0.heap.size w0 w' ∧ Kept w w' (fun k_ => P0_ k_) := by
 unfold slices_Sort_int_int.f at h
 by_cases hlen : l0.length < 4611686018427387904
 rotate_left
 ·rw [if_neg hlen] at h; cases h
 rw [if_pos hlen] at h
 obtain rfl := Option.some.inj h
 have ho := Kd.own_of_R ho0
 have hm : encs (Value.int .i64) l0 = l0.map (Value.int .i64) := rfl
 rcases ho.2 with ⟨hv, hn⟩ | ⟨g, cap, cur, rfl, hg, hh, h1, h2, h3, h4⟩
 ·have h0 : l0 = [] := List.eq_nil_of_length_eq_zero hn
  subst h0
  subst hv
  have hcon := Any.slices_Sort_int_none Tryz.lays189 none 0 w
  change Calls Tryz.prog 30 _ _ _ at hcon
  refine hcon.mono ?_
  rintro e w' ⟨rfl, rfl⟩
  exact ⟨rfl, by simpa using Kd.R_nil _ _ _ _ _, hB, Kept.refl _ _⟩
 ·have ht : cur.toList.take l0.length = l0.map (Value.int .i64) := by rw [Nat.mul_one] at h4; rw [h4, hm]
  have hcon := Any.slices_Sort_int Tryz.lays189 g 0 cap l0 w (holds_of_blockI hh ht) (blk_lt hh) hlen
  change Calls Tryz.prog 30 _ _ _ at hcon
  have hl : (l0.mergeSort fun x y => decide (x ≤ y)).length = l0.length := List.length_mergeSort l0
  refine hcon.mono ?_
  rintro e w' ⟨rfl, n, os, rfl⟩
  have hgr := grownBy_sortedI (w := w) (g := g) (n := n) (os := os) (l0.mergeSort fun x y => decide (x ≤ y)).toArray
  have hown := ownsRow_sortedI (os := os) (n := n) hl hg hh h1 h2 h3
  refine ⟨rfl, Kd.R_of_own ?_ (fun k hk => Or.inl (ho0.1 k hk)), hB.grown hgr hB.size (fun k e_ => by cases e_; exact hg), Kept.of_grown hgr (Kept.refl _ _) (fun k e_ => Or.inl (ho0.1 k ((by simp [Value.ownBlock] : (Value.slice (some ⟨g, 0, none⟩) l0.length cap).ownBlock = some g).trans e_)))⟩
  rw [hl]
  exact hown

/-! ### impl_CutStations: function 15 -/
mutual
def impl_CutStations.l0 : Nat → List (S32) → List Int → List (List Int) → Int → Int → Option (List Int × Bool)
 | 0, _, _, _, _, _ => none
 | k + 1, x0, x4, x13, x14, x15 => if x15 < x14 then (if 0 ≤ x15 then (if x15 < (x13.length : Int) then (impl_CutStations.l1 k x0 x4 (rd_L4 x13 x15) x13 x14 x15 (rd_L4 x13 x15) ((rd_L4 x13 x15).length : Int) 0) else (none)) else (none)) else ((slices_Sort_int_int.f x4).bind fun t576 => (some (t576, true)))
def impl_CutStations.l1 : Nat → List (S32) → List Int → List Int → List (List Int) → Int → Int → List Int → Int → Int → Option (List Int × Bool)
 | 0, _, _, _, _, _, _, _, _, _ => none
 | k + 1, x0, x4, x6, x13, x14, x15, x19, x20, x21 => if x21 < x20 then (if 0 ≤ x21 then (if x21 < (x19.length : Int) then ((impl_isCut.f k x0 x6 (rd x19 x21)).bind fun t579 => (if t579 = true then (if x4.length < 17592186044416 then (impl_CutStations.l1 k x0 (x4 ++ [rd x19 x21]) x6 x13 x14 x15 x19 x20 (wrap64 (x21 + 1))) else (none)) else (impl_CutStations.l1 k x0 x4 x6 x13 x14 x15 x19 x20 (wrap64 (x21 + 1))))) else (none)) else (none)) else (impl_CutStations.l0 k x0 x4 x13 x14 (wrap64 (x15 + 1)))
end
def impl_CutStations.f (k : Nat) (l0 : List (S32)) : Option (List Int × Bool) := (impl_areLegs.f k l0).bind fun t572 => (if t572 = true then ((impl_caves.f k l0).bind fun t573 => (impl_CutStations.l0 k l0 ([] : List Int) t573 (t573.length : Int) 0)) else (some (([] : List Int), false)))
theorem impl_CutStations.mono_l : ∀ k, (∀ y0 y1 y2 y3 y4, LeO (impl_CutStations.l0 k y0 y1 y2 y3 y4) (impl_CutStations.l0 (k + 1) y0 y1 y2 y3 y4)) ∧ (∀ y0 y1 y2 y3 y4 y5 y6 y7 y8, LeO (impl_CutStations.l1 k y0 y1 y2 y3 y4 y5 y6 y7 y8) (impl_CutStations.l1 (k + 1) y0 y1 y2 y3 y4 y5 y6 y7 y8))
 | 0 => ⟨fun _ _ _ _ _ r h => by simp [impl_CutStations.l0] at h, fun _ _ _ _ _ _ _ _ _ r h => by simp [impl_CutStations.l1] at h⟩
 | k + 1 => by
  obtain ⟨ih0, ih1⟩ := impl_CutStations.mono_l k
  refine ⟨?_, ?_⟩
  ·intro y0 y1 y2 y3 y4
   unfold impl_CutStations.l0
   repeat' with_reducible first | apply ih0 | apply ih1 | apply impl_areLegs.mono | apply impl_caves.mono | apply impl_isCut.mono | exact LeO.refl _ | exact LeO.none _ | refine LeO.ite ?_ ?_ | refine LeO.bind ?_ (fun _ => ?_)
  ·intro y0 y1 y2 y3 y4 y5 y6 y7 y8
   unfold impl_CutStations.l1
   repeat' with_reducible first | apply ih0 | apply ih1 | apply impl_areLegs.mono | apply impl_caves.mono | apply impl_isCut.mono | exact LeO.refl _ | exact LeO.none _ | refine LeO.ite ?_ ?_ | refine LeO.bind ?_ (fun _ => ?_)
theorem impl_CutStations.mono : ∀ a0 k, LeO (impl_CutStations.f k a0) (impl_CutStations.f (k + 1) a0) := by
 intro a0 k
 obtain ⟨ih0, ih1⟩ := impl_CutStations.mono_l k
 unfold impl_CutStations.f
 repeat' with_reducible first | apply ih0 | apply ih1 | apply impl_areLegs.mono | apply impl_caves.mono | apply impl_isCut.mono | exact LeO.refl _ | exact LeO.none _ | refine LeO.ite ?_ ?_ | refine LeO.bind ?_ (fun _ => ?_)
set_option maxHeartbeats 8000000 in
set_option maxRecDepth 100000 in
theorem impl_CutStations.calls (k : Nat) (A0 : Option Addr) (c0 : Nat) (l0 : List (S32)) (r1 : List Int) (r2 : Bool) (w : World) (hr0 : Kd.C k32 w A0 l0.length l0) (hc0 : l0.length ≤ c0) (h : impl_CutStations.f k l0 = some (r1, r2)) :
 Calls Tryz.prog 15 #[.slice A0 l0.length c0] w fun e w' => ∃ v0_ : Value, e = .returned (.tuple #[v0_, .bool r2]) ∧ Kd.R (Kd.int .i64) 3 w' w.heap.size (fun _ => True) v0_ r1 ∧ Below w.heap.size w w' := by
 have HR0 := Aside0.mk hr0
 have HC0 := Aside0.mk hc0
 clear hr0 hc0
 have HB := Aside0.mk (Below.refl w.heap.size w)
 have H := h
 clear h
 unfold impl_CutStations.f at H
 replace H := bA H
 obtain ⟨t572, A2, H⟩ := H
 rcases Bool.eq_false_or_eq_true t572 with rfl | rfl
 ·replace H := iT rfl H
  replace H := bA H
  obtain ⟨t573, A4, H⟩ := H
  have H' := Aside0.mk H
  clear H
  go_enter Tryz.func15, Tryz.ntmps15
  go_wp2_with (first | ((with_reducible refine gC 27 ?_); refine lA (some 10) Tryz.func27 (impl_areLegs.calls k _ _ l0 true _ ?side1 ?side2 A2.out) ?_; (case side1 => exact zC HR0); (case side2 => exact HC0.out); intro w5 hb; replace HB := uB HB hb; (try clear hb); (try clear hk)) | ((with_reducible refine gC 28 ?_); refine zG (some 13) Tryz.func28 (impl_caves.calls k _ _ l0 t573 _ (zCB HR0 HB) (HC0.out) A4.out) ?_; rintro e w6 ⟨v574, rfl, ho0, hb⟩; refine ⟨_, rfl, ?_⟩; have HO575 := Aside0.mk (Kd.S_lower ho0 (below_size (bW HB))); replace HB := uB HB hb; (try clear hb); (try clear hk); (try clear ho0); obtain ⟨Ao7, co7, eo7⟩ := Kd.S_slice HO575.out; subst eo7))
  (try simp only [Act.put, List.setIfInBounds_toArray, List.set_cons_zero, List.set_cons_succ])
  go_loopg [4, 15] k (fun kq v4 v15 w' => ∃ (x4_1 : List Int) (x15_1 : Int), v15 = .int .i64 x15_1 ∧ Aside0 (impl_CutStations.l0 kq l0 x4_1 t573 (t573.length : Int) x15_1 = some (r1, r2)) ∧ Aside0 (kq ≤ k) ∧ Aside0 (Kd.R (Kd.int .i64) 3 w' w.heap.size (fun _ => True) v4 x4_1) ∧ Aside0 (Kd.S (Kd.slice 3 (Kd.int .i64)) 25 w' w.heap.size (fun k_ => some k_ ≠ (v4 : Value).ownBlock) (.slice Ao7 t573.length co7) t573) ∧ Aside0 (Below w.heap.size w w'))
  case atStart => exact ⟨(([] : List Int)), (0), rB, H', ⟨Nat.le_refl _⟩, ⟨by first | exact Kd.R_nil _ _ _ _ _ | exact Kd.N_nil _ _ _ _ _ | exact Kd.V_nil _ _ _ _ _ | exact Kd.Q_nil _ _ _ _ _ | exact Kd.S_nil _ _ _ _ _⟩, ⟨by (with_reducible repeat (first | apply Kd.S_alloc | apply Kd.S_drewN | apply Kd.S_drew)); exact Kd.S_mono HO575.out (fun _ hk => (by simp [Value.ownBlock]))⟩, (aB HB)⟩
  case round =>
   clear H'
   obtain ⟨x4_1, x15_1, rfl, HA, HK1, HO_4, HO_13, HB⟩ := hrel
   cases gk with
   | zero => exact absurd HA.out (by simp [impl_CutStations.l0])
   | succ k1 =>
    have H := HA.out
    clear HA
    simp only [impl_CutStations.l0] at H
    replace H := ifD H
    rcases H with ⟨H, -, c8b0⟩ | ⟨H, -, c8b0⟩
    ·replace H := zN H
     obtain ⟨c9b0, H⟩ := H
     replace H := zN H
     obtain ⟨c10b0, H⟩ := H
     have H' := Aside0.mk H
     clear H
     have p577 : 0 ≤ (x15_1 : Int) := of_decide_eq_true asmB
     have q577 : x15_1 < (t573.length : Int) := of_decide_eq_true asmB
     obtain ⟨ad577, A577_0, c577_0, e577, hx577_0, hl577_0, hi577_0⟩ := at_L4 (Kd.S_reads' HO_13.out).2.2 x15_1 p577 q577
     cases e577
     obtain ⟨ce577, hce577, hMe577, hcc577⟩ := Kd.S_get HO_13.out [] x15_1 p577 (by first | exact q577 | exact of_decide_eq_true asmB | (have e_ := (Kd.S_reads' HO_13.out).1; omega))
     obtain ⟨ve577_0, rfl, ge577_0⟩ := hMe577
     have hv577_0 := hcc577 0 _ rfl
     rw [Nat.add_zero, show ((Kd.slice 3 (Kd.int .i64))).sz = 1 from rfl, Nat.mul_one] at hv577_0
     replace hv577_0 := Option.some.inj (hv577_0.symm.trans hx577_0)
     rw [hv577_0] at ge577_0
     have HL577_0 := Aside0.mk (show Kd.R (Kd.int .i64) 3 _ _ _ _ (rd_L4 t573 x15_1) from ge577_0)
     clear hv577_0 ge577_0
     clear hcc577 hce577
     have HR577_0 := Aside0.mk hi577_0
     have HC577_0 := Aside0.mk hl577_0
     clear hi577_0 hl577_0
     replace p577 := eq_true p577
     replace q577 := eq_true q577
     go_wp2
     go_loopg [4, 21] k1 (fun kq v4 v21 w' => ∃ (x4_2 : List Int) (x21_2 : Int), v21 = .int .i64 x21_2 ∧ Aside0 (impl_CutStations.l1 kq l0 x4_2 (rd_L4 t573 x15_1) t573 (t573.length : Int) x15_1 (rd_L4 t573 x15_1) ((rd_L4 t573 x15_1).length : Int) x21_2 = some (r1, r2)) ∧ Aside0 (kq ≤ k1) ∧ Aside0 (Kd.R (Kd.int .i64) 3 w' w.heap.size (fun _ => True) v4 x4_2) ∧ Aside0 (Kd.S (Kd.slice 3 (Kd.int .i64)) 25 w' w.heap.size (fun k_ => some k_ ≠ (v4 : Value).ownBlock) (.slice (some ad577) t573.length co7) t573) ∧ Aside0 (Kd.R (Kd.int .i64) 3 w' w.heap.size (fun k_ => some k_ ≠ (v4 : Value).ownBlock) (.slice A577_0 (rd_L4 t573 x15_1).length c577_0) (rd_L4 t573 x15_1)) ∧ Aside0 (Below w.heap.size w w'))
     case atStart => exact ⟨(x4_1), (0), rB, H', ⟨Nat.le_refl _⟩, ⟨upR HO_4.out⟩, ⟨upS HO_13.out⟩, ⟨Kd.R_mono (upR HL577_0.out) (fun _ hk => hk.1)⟩, (aB HB)⟩
     case round =>
      clear H'
      try clear c8b0
      try clear c9
      try clear c9b0
      try clear c10
      try clear c10b0
      try clear hx577_0
      try clear p577
      try clear q577
      obtain ⟨x4_2, x21_2, rfl, HA, HK2, HO_4, HO_13, HLX, HB⟩ := hrel
      cases gk with
      | zero => exact absurd HA.out (by simp [impl_CutStations.l1])
      | succ k2 =>
       have H := HA.out
       clear HA
       simp only [impl_CutStations.l1] at H
       replace H := ifD H
       rcases H with ⟨H, -, c11b0⟩ | ⟨H, -, c11b0⟩
       ·replace H := zN H
        obtain ⟨c12b0, H⟩ := H
        replace H := zN H
        obtain ⟨c13b0, H⟩ := H
        replace H := bA H
        obtain ⟨t579, A14, H⟩ := H
        rcases Bool.eq_false_or_eq_true t579 with rfl | rfl
        ·replace H := iT rfl H
         replace H := zM H
         obtain ⟨c16, H⟩ := H
         have LMc16 := Aside0.mk c16
         clear c16
         obtain ⟨y580, hy580⟩ : ∃ y_ : List Int, y_ = (x4_2 ++ [rd (rd_L4 t573 x15_1) x21_2]) := ⟨_, rfl⟩
         rw [← hy580] at H
         have Ny580 := Aside0.mk hy580
         clear hy580
         have H' := Aside0.mk H
         clear H
         obtain ⟨ad578, e578, hx578_0, p578, q578⟩ := zr HLX x21_2
         cases e578
         go_wp2_with (first | ((with_reducible refine gC 29 ?_); refine lA (some 28) Tryz.func29 (impl_isCut.calls k2 _ _ l0 _ _ (rd_L4 t573 x15_1) (rd (rd_L4 t573 x15_1) x21_2) true _ ?side1 ?side2 ?side3 ?side4 A14.out) ?_; (case side1 => exact zCB HR0 HB); (case side2 => exact HC0.out); (case side3 => exact zCR HLX); (case side4 => exact HC577_0.out); intro w17 hb; have nX_ := Aside0.mk (Kd.R_below (upR HLX.out) hb); clear HLX; have HLX := nX_; clear nX_; replace HO_4 := uR HO_4 hb; replace HO_13 := Aside0.mk (Kd.S_below (upS HO_13.out) hb); replace HB := uB HB hb; (try clear hb); (try clear hk)) | ((with_reducible refine gate_builtin (b := .append) (xs := #[.tmp 29, .tmp 31]) rfl ?_); at_builtin; refine Kd.R_append (Kd.int .i64) (w0 := w) w.heap.size rfl (.tmp 29) (.tmp 31) 25 3 (.int .i64 0) 8 rfl Tryz.underlying25 info3 rfl (by decide) (by omega) u4 x4_2 (rd (rd_L4 t573 x15_1) x21_2) [.int .i64 (rd (rd_L4 t573 x15_1) x21_2)] (fun _ => True) (fun _ => False) rfl rfl ?aP (fun _ hk => hk.elim) ?aF ?aO ?aB ?aS ?aL ?_; (case aP => exact rfl); (case aB => exact (bW HB)); (case aF => exact (fun _ _ => trivial)); (case aO => exact (upR HO_4.out)); (case aS => exact (below_size (bW HB))); (case aL => have := LMc16.out; omega); intro v581 w18 ho hb hg hat; rw [← Ny580.out] at ho; have nX_ := Aside0.mk (Kd.R_after (ok := (fun _ => True)) (Kd.R_mono (upR HLX.out) (fun _ hk => ⟨trivial, hk⟩)) hg hat); clear HLX; have HLX := nX_; clear nX_; have HO582 := Aside0.mk (ho); replace HO_13 := Aside0.mk (Kd.S_after (ok := (fun _ => True)) (by (with_reducible repeat (first | apply Kd.S_alloc | apply Kd.S_drewN | apply Kd.S_drew)); exact Kd.S_mono HO_13.out (fun _ hk => ⟨trivial, hk⟩)) hg hat); replace HB := Aside0.mk (hb); clear HO_4; clear ho hb hg hat))
         go_roundg k2
         case measure => have := HK1.out; have := HK2.out; omega
         case rel => exact ⟨(y580), (wrap64 (x21_2 + 1)), rB, H', ⟨by have := HK1.out; have := HK2.out; omega⟩, ⟨upR HO582.out⟩, ⟨by (with_reducible repeat (first | apply Kd.S_alloc | apply Kd.S_drewN | apply Kd.S_drew)); exact Kd.S_mono HO_13.out (fun _ hk => hk.2)⟩, ⟨by (with_reducible repeat (first | apply Kd.R_alloc | apply Kd.R_drewN | apply Kd.R_drew)); first | exact HLX.out | exact Kd.R_mono HLX.out (fun _ hk => hk.2)⟩, (aB HB)⟩
        ·replace H := iF (by decide) H
         have H' := Aside0.mk H
         clear H
         obtain ⟨ad578, e578, hx578_0, p578, q578⟩ := zr HLX x21_2
         cases e578
         go_wp2_with (first | ((with_reducible refine gC 29 ?_); refine lA (some 28) Tryz.func29 (impl_isCut.calls k2 _ _ l0 _ _ (rd_L4 t573 x15_1) (rd (rd_L4 t573 x15_1) x21_2) false _ ?side1 ?side2 ?side3 ?side4 A14.out) ?_; (case side1 => exact zCB HR0 HB); (case side2 => exact HC0.out); (case side3 => exact zCR HLX); (case side4 => exact HC577_0.out); intro w19 hb; have nX_ := Aside0.mk (Kd.R_below (upR HLX.out) hb); clear HLX; have HLX := nX_; clear nX_; replace HO_4 := uR HO_4 hb; replace HO_13 := Aside0.mk (Kd.S_below (upS HO_13.out) hb); replace HB := uB HB hb; (try clear hb); (try clear hk)))
         go_roundg k2
         case measure => have := HK1.out; have := HK2.out; omega
         case rel => exact ⟨(x4_2), (wrap64 (x21_2 + 1)), rB, H', ⟨by have := HK1.out; have := HK2.out; omega⟩, ⟨upR HO_4.out⟩, ⟨upS HO_13.out⟩, ⟨by (with_reducible repeat (first | apply Kd.R_alloc | apply Kd.R_drewN | apply Kd.R_drew)); first | exact HLX.out | exact Kd.R_mono HLX.out (fun _ hk => hk.2)⟩, (aB HB)⟩
       ·have H' := Aside0.mk H
        clear H
        go_wp2
        go_roundg k2
        case measure => have := HK1.out; have := HK2.out; omega
        case rel => exact ⟨(x4_2), (wrap64 (x15_1 + 1)), rB, H', ⟨by have := HK1.out; have := HK2.out; omega⟩, ⟨upR HO_4.out⟩, ⟨upS HO_13.out⟩, (aB HB)⟩
    ·replace H := bA H
     obtain ⟨t576, A20, H⟩ := H
     simp only [Option.some.injEq, Prod.mk.injEq] at H
     obtain ⟨rfl, rfl⟩ := H
     obtain ⟨Ao21, co21, eo21⟩ := Kd.R_slice HO_4.out
     subst eo21
     go_wp2_with (first | ((with_reducible refine gC 30 ?_); refine zG (some 36) Tryz.func30 (slices_Sort_int_int.calls (fun k_ => some k_ = (.slice Ao21 x4_1.length co21 : Value).ownBlock) (.slice Ao21 x4_1.length co21) x4_1 t576 w _ (by repeat (first | (with_reducible first | exact HB.out | apply below_alloc | apply pw_below_drewN | apply below_drew1) | exact HB.out)) (Kd.R_tight rfl HO_4.out) A20.out) ?_; rintro e w22 ⟨rfl, hy0, hb, hkp⟩; refine ⟨_, rfl, ?_⟩; replace HO_4 := Aside0.mk (Kd.R_reok rfl hy0 (fun k_ e_ => HO_4.out.1 k_ e_)); replace HO_13 := Aside0.mk (Kd.S_mono (ok' := fun k_ => some k_ ≠ (.slice Ao21 x4_1.length co21 : Value).ownBlock) (Kd.S_keptB (HO_13.out) hkp (fun k_ hk_ hs_ => (hk_) hs_)) (fun k_ hk_ => hk_.1)); replace HB := Aside0.mk (hb); (try clear hb); (try clear hkp); (try clear hy0)))
     go_ret2
     exact ⟨_, eB, upR HO_4.out, (bW HB)⟩
 ·replace H := iF (by decide) H
  simp only [Option.some.injEq, Prod.mk.injEq] at H
  obtain ⟨rfl, rfl⟩ := H
  go_enter Tryz.func15, Tryz.ntmps15
  go_wp2_with (first | ((with_reducible refine gC 27 ?_); refine lA (some 10) Tryz.func27 (impl_areLegs.calls k _ _ l0 false _ ?side1 ?side2 A2.out) ?_; (case side1 => exact zC HR0); (case side2 => exact HC0.out); intro w23 hb; replace HB := uB HB hb; (try clear hb); (try clear hk)))
  go_ret2
  exact ⟨_, eB, by first | exact Kd.R_nil _ _ _ _ _ | exact Kd.N_nil _ _ _ _ _ | exact Kd.V_nil _ _ _ _ _ | exact Kd.Q_nil _ _ _ _ _ | exact Kd.S_nil _ _ _ _ _, (bW HB)⟩

/-! ### spec_xSame: function 130 -/
-- calls: none
def spec_xSame.f (l0 : List Int) : Option (List Int) := some l0

end Go.Proofs.YtmfidodcpbochaaGreat.QFnSteps
