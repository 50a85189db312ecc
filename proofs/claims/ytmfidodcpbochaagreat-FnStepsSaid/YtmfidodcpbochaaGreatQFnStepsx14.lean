/- Contracts of Go functions that FnSteps reaches: the call computes what the plain function says. No condition. -/
import Derived.Test.YtmfidodcpbochaaGreatQFnStepsx0
import Derived.Test.YtmfidodcpbochaaGreatQFnStepsx13
namespace Go.Proofs.YtmfidodcpbochaaGreat.QFnSteps
open Go.RowKit Go.Proofs.YtmfidodcpbochaaGreatW.PrintWords Go.Proofs.YtmfidodcpbochaaGreatW.PrintLast Go.Proofs.YtmfidodcpbochaaGreatW.PrintMore
attribute [local go_sem] max2_int min2_int max_two min_two max_three min_three max_four min_four   -- for this text's walks alone
set_option linter.unusedVariables false
set_option linter.unusedSimpArgs false

/-! ### spec_l1Put: function 56 -/
theorem RR_len_ {α : Type} {R : α → List Value → Prop} {sz : Nat} {W : World} {A : Option Addr} {m n : Nat} {xs : List α} (e : m = n) (h : ReadsRow R sz W A m xs) : ReadsRow R sz W A n xs := e ▸ h
def spec_l1Put.l0 : Nat → List Int → Int → Int → Option (List Int)
 | 0, _, _, _ => none
 | k + 1, x0, x1, x5 => if x5 < (x0.length : Int) then (if 0 ≤ x5 then (if (rd x0 x5) < x1 then (spec_l1Put.l0 k x0 x1 (wrap64 (x5 + 1))) else (if (rd x0 x5) = x1 then ((spec_xSame.f x0).bind fun t585 => (some t585)) else ((some (([] : List Int) : List Int)).bind fun y588 => (if x5 ≤ (x0.length : Int) then (if y588.length + (x0.take (x5 : Int).toNat).length < 17592186044416 then ((some (y588 ++ (x0.take (x5 : Int).toNat) : List Int)).bind fun y592 => ((some (([x1] : List Int) : List Int)).bind fun y595 => (if y592.length + y595.length < 17592186044416 then ((some (y592 ++ y595 : List Int)).bind fun y598 => (if y598.length + (x0.drop (x5 : Int).toNat).length < 17592186044416 then (some (y598 ++ (x0.drop (x5 : Int).toNat))) else (none))) else (none)))) else (none)) else (none))))) else (none)) else ((some (([] : List Int) : List Int)).bind fun y605 => (if 0 ≤ x5 then (if x5 ≤ (x0.length : Int) then (if y605.length + (x0.take (x5 : Int).toNat).length < 17592186044416 then ((some (y605 ++ (x0.take (x5 : Int).toNat) : List Int)).bind fun y609 => ((some (([x1] : List Int) : List Int)).bind fun y612 => (if y609.length + y612.length < 17592186044416 then ((some (y609 ++ y612 : List Int)).bind fun y615 => (if y615.length + (x0.drop (x5 : Int).toNat).length < 17592186044416 then (some (y615 ++ (x0.drop (x5 : Int).toNat))) else (none))) else (none)))) else (none)) else (none)) else (none)))
def spec_l1Put.f (k : Nat) (l0 : List Int) (a1 : Int) : Option (List Int) := spec_l1Put.l0 k l0 a1 0
theorem spec_l1Put.mono_l : ∀ k, (∀ y0 y1 y2, LeO (spec_l1Put.l0 k y0 y1 y2) (spec_l1Put.l0 (k + 1) y0 y1 y2))
 | 0 => fun _ _ _ r h => by simp [spec_l1Put.l0] at h
 | k + 1 => by
  have ih0 := spec_l1Put.mono_l k
  ·intro y0 y1 y2
   unfold spec_l1Put.l0
   repeat' with_reducible first | apply ih0 | exact LeO.refl _ | exact LeO.none _ | refine LeO.ite ?_ ?_ | refine LeO.bind ?_ (fun _ => ?_)
theorem spec_l1Put.mono : ∀ a0 a1 k, LeO (spec_l1Put.f k a0 a1) (spec_l1Put.f (k + 1) a0 a1) := by
 intro a0 a1 k
 have ih0 := spec_l1Put.mono_l k
 unfold spec_l1Put.f
 repeat' with_reducible first | apply ih0 | exact LeO.refl _ | exact LeO.none _ | refine LeO.ite ?_ ?_ | refine LeO.bind ?_ (fun _ => ?_)
def spec_l1Put.T6 : Bool × List (List Nat × List Nat) := (true, [([], []), ([], []), ([], []), ([1, 2], [1, 2]), ([0, 3], [0, 3]), ([], []), ([5], [5]), ([4, 6, 4], [4, 6]), ([], []), ([], []), ([8, 9], [8, 9]), ([7, 10, 7], [7, 10]), ([11, 11, 0, 1, 2, 3, 4, 5, 6, 7, 8, 9, 10, 11], [11])])
def spec_l1Put.B6 : List Nat := [0, 0, 0, 6, 15, 0, 32, 127, 0, 0, 768, 2047, 4095]
theorem spec_l1Put.tab6 : rtab .any (opsOf Tryz.f56 6) = spec_l1Put.T6 := by kernel_rfl
theorem spec_l1Put.bits6 : waitsOk spec_l1Put.T6.2 spec_l1Put.B6 = true := by kernel_rfl
set_option maxHeartbeats 8000000 in
set_option maxRecDepth 100000 in
theorem spec_l1Put.reads (k : Nat) (A0 : Option Addr) (c0 : Nat) (l0 : List Int) (a1 : Int) (r : List Int) (w : World) (hr0 : Kd.C (Kd.int .i64) w A0 l0.length l0) (hc0 : l0.length ≤ c0) (h : spec_l1Put.f k l0 a1 = some r) :
 Calls Tryz.prog 56 #[.slice A0 l0.length c0, .int .i64 a1] w fun e w' => ∃ v0_ : Value, e = .returned (v0_) ∧ (Kd.R (Kd.int .i64) 3 w' w.heap.size (fun _ => True) v0_ r ∨ (v0_ = .slice A0 l0.length c0 ∧ r = l0)) ∧ Below w.heap.size w w' := by
 have HR0 := Aside0.mk hr0
 have HC0 := Aside0.mk hc0
 clear hr0 hc0
 have HB := Aside0.mk (Below.refl w.heap.size w)
 have H : (spec_l1Put.l0 k l0 a1 0) = some r := h
 clear h
 have H' := Aside0.mk H
 clear H
 go_enter Tryz.func56, Tryz.ntmps56
 go_wp2
 go_loopg [5] k (fun kq v5 w' => ∃ (x5_1 : Int), v5 = .int .i64 x5_1 ∧ Aside0 (spec_l1Put.l0 kq l0 a1 x5_1 = some r) ∧ Aside0 (kq ≤ k) ∧ Aside0 (Below w.heap.size w w'))
 case atStart => exact ⟨(0), rB, H', ⟨Nat.le_refl _⟩, (aB HB)⟩
 case round =>
  clear H'
  obtain ⟨x5_1, rfl, HA, HK1, HB⟩ := hrel
  cases gk with
  | zero => exact absurd HA.out (by simp [spec_l1Put.l0])
  | succ k1 =>
   have H := HA.out
   clear HA
   simp only [spec_l1Put.l0] at H
   replace H := ifD H
   rcases H with ⟨H, -, c3b0⟩ | ⟨H, -, c3b0⟩
   ·replace H := zN H
    obtain ⟨c4b0, H⟩ := H
    replace H := ifD H
    rcases H with ⟨H, -, c5b0⟩ | ⟨H, -, c5b0⟩
    ·have H' := Aside0.mk H
     clear H
     obtain ⟨ad583, e583, hx583_0, p583, q583⟩ := zi HR0 HB x5_1
     cases e583
     go_wp2
     go_roundg k1
     case measure => have := HK1.out; omega
     case rel => exact ⟨(wrap64 (x5_1 + 1)), rB, H', ⟨by have := HK1.out; omega⟩, (aB HB)⟩
    ·replace H := ifI H
     rcases H with ⟨H, -, c6b0, c6b1⟩ | ⟨H, c6, c6b0, c6b1⟩
     ·replace H := bA H
      obtain ⟨t585, A7, H⟩ := H
      obtain rfl := Option.some.inj H
      obtain ⟨ad583, e583, hx583_0, p583, q583⟩ := zi HR0 HB x5_1
      cases e583
      obtain ⟨ad584, e584, hx584_0, p584, q584⟩ := zi HR0 HB x5_1
      obtain rfl : ad583 = ad584 := (by injection e584)
      go_wp2
      go_ret
      exact ⟨_, eB, Or.inr ⟨rfl, (Option.some.inj A7.out).symm⟩, (bW HB)⟩
     ·replace H := zS H
      obtain ⟨y588, Ny588, H⟩ := H
      have c9b0 := eq_true (of_decide_eq_true asmB : 0 ≤ x5_1)
      replace H := zM H
      obtain ⟨c10, H⟩ := H
      have c10b0 := eq_true c10
      have c10b1 : decide (x5_1 ≤ (l0.length : Int)) = true := decide_eq_true c10
      clear c10
      replace H := zM H
      obtain ⟨c11, H⟩ := H
      have LMc11 := Aside0.mk c11
      clear c11
      replace H := zS H
      obtain ⟨y592, Ny592, H⟩ := H
      replace H := zS H
      obtain ⟨y595, Ny595, H⟩ := H
      replace H := zM H
      obtain ⟨c12, H⟩ := H
      have LMc12 := Aside0.mk c12
      clear c12
      replace H := zS H
      obtain ⟨y598, Ny598, H⟩ := H
      have c13b0 := eq_true (of_decide_eq_true asmB : 0 ≤ x5_1)
      have c14b0 := eq_true (of_decide_eq_true asmB : x5_1 ≤ (l0.length : Int))
      replace H := zM H
      obtain ⟨c15, H⟩ := H
      have LMc15 := Aside0.mk c15
      clear c15
      obtain ⟨y602, hy602⟩ : ∃ y_ : List Int, y_ = (y598 ++ (l0.drop (x5_1 : Int).toNat)) := ⟨_, rfl⟩
      rw [← hy602] at H
      have Ny602 := Aside0.mk hy602
      clear hy602
      obtain rfl := Option.some.inj H
      obtain ⟨ad583, e583, hx583_0, p583, q583⟩ := zi HR0 HB x5_1
      cases e583
      obtain ⟨ad584, e584, hx584_0, p584, q584⟩ := zi HR0 HB x5_1
      obtain rfl : ad583 = ad584 := (by injection e584)
      try go_wp2
      replace HB := Aside0.mk (below_drew1 HB.out)
      obtain ⟨i017, hi017, _, hsz17, _⟩ := info_parts info3
      obtain ⟨hcut17, hA17, hC17⟩ := print_take_of (P := Tryz.prog) (Value.int .i64) 0 25 3 .i64 Tryz.underlying25 hi017 hsz17 (some ad583) c0 l0 x5_1 (of_decide_eq_true asmB) (of_decide_eq_true asmB) HC0.out
      have HR591 := Aside0.mk (Kd.C_of_reads (h1 := fun _ => rfl) (hA17 _ (Kd.reads_of_C HR0.out)))
      have HC591 := Aside0.mk hC17
      clear hA17 hC17 hi017 hsz17
      obtain ⟨i018, hi018, _, hsz18, _⟩ := info_parts info3
      obtain ⟨A18, hcut18, hA18, hC18⟩ := print_drop_of (P := Tryz.prog) (Value.int .i64) 0 25 3 .i64 Tryz.underlying25 hi018 hsz18 (some ad583) c0 l0 x5_1 (of_decide_eq_true asmB) (of_decide_eq_true asmB) HC0.out
      have HR601 := Aside0.mk (Kd.C_of_reads (h1 := fun _ => rfl) (hA18 _ (Kd.reads_of_C HR0.out)))
      have HC601 := Aside0.mk hC18
      clear hA18 hC18 hi018 hsz18
      refine start_ (n := 13) (S := fun w' => True) (ds := []) #[false, false, false, false, false, false, false, false, false, false, false, false, false] (by kernel_rfl) rfl rfl trivial (fun hHeld => ?_); refine with_tabW spec_l1Put.tab6 spec_l1Put.bits6 (fun HT_ HW_ => ?_)
      generalize wr.drew = w16 at HB HR591 HR601 hHeld ⊢
      refine pA 1 34 HT_ ?_
      refine pA 2 35 HT_ ?_
      refine pA 3 36 HT_ ?_
      refine pA 5 38 HT_ ?_
      refine pA 8 41 HT_ ?_
      refine pA 9 42 HT_ ?_
      refine pA 10 43 HT_ ?_
      refine join_ (σ := Value × Value × Value) 3 #[true, true, true, true, true, true, true, false, true, true, true, false, false] (fun s_ => [(33, s_.1), (37, s_.2.1), (39, s_.2.2)]) (fun s_ w' => (Kd.R (Kd.int .i64) 3 w' w.heap.size (fun k_ => some k_ ≠ (s_.2.2 : Value).ownBlock) s_.2.1 y592) ∧ (Kd.R (Kd.int .i64) 3 w' w.heap.size (fun k_ => some k_ ≠ (s_.2.1 : Value).ownBlock) s_.2.2 y595) ∧ (Below w.heap.size w w')) ?_ ?_
      rotate_left
      ·intro hCont
       refine two_ (i := 0) (j := 6) (Ni := some 33) (Nj := some 39) #[true, true, true, true, false, true, false, false, true, true, true, false, false] #[false, true, true, true, false, true, true, false, true, true, true, false, false] rfl rfl rfl rfl (two_of HT_.out (by kernel_rfl)) (by decide) (by decide) (fun K hK => ?_) (fun K hK => ?_)
       ·skip
        refine Kd.R_lit_step (Kd.int .i64) _ 3 ?hg (N := 33) ?hd (xs := ([] : List Int)) (inner := []) (ok := fun _ => True) (okp := fun _ => True) ?hr ?hp (fun _ hk => hk) trivial (Below.refl _ _) (Nat.le_refl _) (by simp) ?_; (case hd => rfl); (case hg => rfl); (case hr => first | (go_simp; done) | (go_simp; rfl)); (case hp => exact (Reps.none _ _))
        intro v589 w19 ho20 hb hg_ hnew_
        clear hg_ hnew_
        (first | rw [← Ny588.out] at ho20 | (simp only [Int.reduceToNat] at ho20; rw [← Ny588.out] at ho20))
        have HO590 := Aside0.mk (Kd.R_lower ho20 (below_size (bW HB)))
        replace HB := uB HB hb
        clear hb ho20
        refine hK.out _ _ trivial (fun hHeld => ?_)
        clear hK K
        refine nA ?_ (some 33)
        refine two_ (i := 4) (j := 6) (Ni := some 37) (Nj := some 39) #[true, true, true, true, true, true, false, false, true, true, true, false, false] #[true, true, true, true, false, true, true, false, true, true, true, false, false] rfl rfl rfl rfl (two_of HT_.out (by kernel_rfl)) (by decide) (by decide) (fun K hK => ?_) (fun K hK => ?_)
        ·skip
         refine Kd.R_append_rows_step (Kd.int .i64) (w0 := w) w.heap.size (by rfl) (.tmp 33) (.tmp 36) 25 3 (.int .i64 0) 8 rfl Tryz.underlying25 info3 rfl (by decide) (by omega) v589 y588 (l0.take (x5_1 : Int).toNat) _ _ _ (fun _ => True) (fun _ => False) rfl rfl ?aO ?aR (fun _ _ h => h) (fun _ h => h.elim) ?aF ?aB ?aS ?aL ?_
         (case aR => first | (refine RR_len_ (show (l0.take (x5_1 : Int).toNat).length = x5_1.toNat from (by rw [List.length_take]; have h_ : (x5_1 : Int) ≤ (l0.length : Int) := of_decide_eq_true asmB; omega)) ?_; repeat (first | exact (Kd.C_below HR591.out HB.out) | (with_reducible refine Kd.C_alloc ?_ _) | (with_reducible refine Kd.C_drewN ?_ _) | (with_reducible refine Kd.C_drew ?_))) | (repeat (first | exact (Kd.C_below HR591.out HB.out) | (with_reducible refine Kd.C_alloc ?_ _) | (with_reducible refine Kd.C_drewN ?_ _) | (with_reducible refine Kd.C_drew ?_))))
         (case aB => exact (bW HB))
         (case aF => exact (fun _ _ => trivial))
         (case aO => exact (upR HO590.out))
         (case aS => exact (below_size (bW HB)))
         (case aL => have := LMc11.out; have hlx_ := (show (l0.take (x5_1 : Int).toNat).length = x5_1.toNat from (by rw [List.length_take]; have h_ : (x5_1 : Int) ≤ (l0.length : Int) := of_decide_eq_true asmB; omega)); omega)
         intro v593 w21 ho hb hg hat
         rw [← Ny592.out] at ho
         have HO594 := Aside0.mk (ho)
         replace HB := Aside0.mk (hb)
         clear HO590
         clear ho hb hg hat
         refine hK.out _ _ trivial (fun hHeld => ?_)
         clear hK K
         refine nA ?_ (some 37)
         refine oA 6 (some 39) HT_ fun K hK => ?_
         refine Kd.R_lit_step (Kd.int .i64) _ 3 ?hg (N := 39) ?hd (xs := ([a1] : List Int)) (inner := [.int .i64 a1]) (ok := fun _ => True) (okp := fun _ => True) ?hr ?hp (fun _ hk => hk) trivial (Below.refl _ _) (Nat.le_refl _) (by simp) ?_; (case hd => rfl); (case hg => rfl); (case hr => first | (go_simp; done) | (go_simp; rfl)); (case hp => exact zInts _)
         intro v596 w22 ho23 hb hg_ hnew_
         clear hg_ hnew_
         (first | rw [← Ny595.out] at ho23 | (simp only [Int.reduceToNat] at ho23; rw [← Ny595.out] at ho23))
         have HO597 := Aside0.mk (Kd.R_lower (Kd.R_new' ho23 (Kd.R_lt (upR HO594.out))) (below_size (bW HB)))
         replace HO594 := Aside0.mk (Kd.R_elder' (upR HO594.out) (Kd.R_base ho23) hb)
         replace HB := uB HB hb
         clear hb ho23
         refine hK.out _ _ trivial (fun hHeld => ?_)
         clear hK K
         refine nA ?_ (some 39)
         exact norm_ (by simp only [putAll, Act.put, List.setIfInBounds_toArray, List.set_cons_zero, List.set_cons_succ]) (hCont (v589, v593, v596) _ ⟨(Kd.R_mono (upR HO594.out) (fun _ hk => hk.2)), (Kd.R_mono (upR HO597.out) (fun _ hk => hk.2)), (bW HB)⟩)
        ·skip
         refine Kd.R_lit_step (Kd.int .i64) _ 3 ?hg (N := 39) ?hd (xs := ([a1] : List Int)) (inner := [.int .i64 a1]) (ok := fun _ => True) (okp := fun _ => True) ?hr ?hp (fun _ hk => hk) trivial (Below.refl _ _) (Nat.le_refl _) (by simp) ?_; (case hd => rfl); (case hg => rfl); (case hr => first | (go_simp; done) | (go_simp; rfl)); (case hp => exact zInts _)
         intro v596 w21 ho22 hb hg_ hnew_
         clear hg_ hnew_
         (first | rw [← Ny595.out] at ho22 | (simp only [Int.reduceToNat] at ho22; rw [← Ny595.out] at ho22))
         have HO597 := Aside0.mk (Kd.R_lower (Kd.R_new' ho22 (Kd.R_lt (upR HO590.out))) (below_size (bW HB)))
         replace HO590 := Aside0.mk (Kd.R_elder' (upR HO590.out) (Kd.R_base ho22) hb)
         replace HB := uB HB hb
         clear hb ho22
         refine hK.out _ _ trivial (fun hHeld => ?_)
         clear hK K
         refine nA ?_ (some 39)
         refine oA 4 (some 37) HT_ fun K hK => ?_
         refine Kd.R_append_rows_step (Kd.int .i64) (w0 := w) w.heap.size (by rfl) (.tmp 33) (.tmp 36) 25 3 (.int .i64 0) 8 rfl Tryz.underlying25 info3 rfl (by decide) (by omega) v589 y588 (l0.take (x5_1 : Int).toNat) _ _ _ (fun k_ => some k_ ≠ (v596 : Value).ownBlock) (fun _ => False) rfl rfl ?aO ?aR (fun _ _ h => h) (fun _ h => h.elim) ?aF ?aB ?aS ?aL ?_
         (case aR => first | (refine RR_len_ (show (l0.take (x5_1 : Int).toNat).length = x5_1.toNat from (by rw [List.length_take]; have h_ : (x5_1 : Int) ≤ (l0.length : Int) := of_decide_eq_true asmB; omega)) ?_; repeat (first | exact (Kd.C_below HR591.out HB.out) | (with_reducible refine Kd.C_alloc ?_ _) | (with_reducible refine Kd.C_drewN ?_ _) | (with_reducible refine Kd.C_drew ?_))) | (repeat (first | exact (Kd.C_below HR591.out HB.out) | (with_reducible refine Kd.C_alloc ?_ _) | (with_reducible refine Kd.C_drewN ?_ _) | (with_reducible refine Kd.C_drew ?_))))
         (case aB => exact (bW HB))
         (case aF => exact (fun k_ hk => Kd.fresh' (Kd.R_lt (upR HO597.out)) k_ hk))
         (case aO => exact (Kd.R_mono (upR HO590.out) (fun _ hk => hk.2)))
         (case aS => exact (below_size (bW HB)))
         (case aL => have := LMc11.out; have hlx_ := (show (l0.take (x5_1 : Int).toNat).length = x5_1.toNat from (by rw [List.length_take]; have h_ : (x5_1 : Int) ≤ (l0.length : Int) := of_decide_eq_true asmB; omega)); omega)
         intro v593 w23 ho hb hg hat
         rw [← Ny592.out] at ho
         have HO594 := Aside0.mk (ho)
         replace HO597 := Aside0.mk (Kd.R_after (ok := (fun _ => True)) (upR HO597.out) hg hat)
         replace HB := Aside0.mk (hb)
         clear HO590
         clear ho hb hg hat
         refine hK.out _ _ trivial (fun hHeld => ?_)
         clear hK K
         refine nA ?_ (some 37)
         exact norm_ (by simp only [putAll, Act.put, List.setIfInBounds_toArray, List.set_cons_zero, List.set_cons_succ]) (hCont (v589, v593, v596) _ ⟨(upR HO594.out), (Kd.R_mono (upR HO597.out) (fun _ hk => hk.2)), (bW HB)⟩)
       ·skip
        refine Kd.R_lit_step (Kd.int .i64) _ 3 ?hg (N := 39) ?hd (xs := ([a1] : List Int)) (inner := [.int .i64 a1]) (ok := fun _ => True) (okp := fun _ => True) ?hr ?hp (fun _ hk => hk) trivial (Below.refl _ _) (Nat.le_refl _) (by simp) ?_; (case hd => rfl); (case hg => rfl); (case hr => first | (go_simp; done) | (go_simp; rfl)); (case hp => exact zInts _)
        intro v596 w19 ho20 hb hg_ hnew_
        clear hg_ hnew_
        (first | rw [← Ny595.out] at ho20 | (simp only [Int.reduceToNat] at ho20; rw [← Ny595.out] at ho20))
        have HO597 := Aside0.mk (Kd.R_lower ho20 (below_size (bW HB)))
        replace HB := uB HB hb
        clear hb ho20
        refine hK.out _ _ trivial (fun hHeld => ?_)
        clear hK K
        refine nA ?_ (some 39)
        refine oA 0 (some 33) HT_ fun K hK => ?_
        refine Kd.R_lit_step (Kd.int .i64) _ 3 ?hg (N := 33) ?hd (xs := ([] : List Int)) (inner := []) (ok := fun _ => True) (okp := fun _ => True) ?hr ?hp (fun _ hk => hk) trivial (Below.refl _ _) (Nat.le_refl _) (by simp) ?_; (case hd => rfl); (case hg => rfl); (case hr => first | (go_simp; done) | (go_simp; rfl)); (case hp => exact (Reps.none _ _))
        intro v589 w21 ho22 hb hg_ hnew_
        clear hg_ hnew_
        (first | rw [← Ny588.out] at ho22 | (simp only [Int.reduceToNat] at ho22; rw [← Ny588.out] at ho22))
        have HO590 := Aside0.mk (Kd.R_lower (Kd.R_new' ho22 (Kd.R_lt (upR HO597.out))) (below_size (bW HB)))
        replace HO597 := Aside0.mk (Kd.R_elder' (upR HO597.out) (Kd.R_base ho22) hb)
        replace HB := uB HB hb
        clear hb ho22
        refine hK.out _ _ trivial (fun hHeld => ?_)
        clear hK K
        refine nA ?_ (some 33)
        refine oA 4 (some 37) HT_ fun K hK => ?_
        refine Kd.R_append_rows_step (Kd.int .i64) (w0 := w) w.heap.size (by rfl) (.tmp 33) (.tmp 36) 25 3 (.int .i64 0) 8 rfl Tryz.underlying25 info3 rfl (by decide) (by omega) v589 y588 (l0.take (x5_1 : Int).toNat) _ _ _ (fun k_ => some k_ ≠ (v596 : Value).ownBlock) (fun _ => False) rfl rfl ?aO ?aR (fun _ _ h => h) (fun _ h => h.elim) ?aF ?aB ?aS ?aL ?_
        (case aR => first | (refine RR_len_ (show (l0.take (x5_1 : Int).toNat).length = x5_1.toNat from (by rw [List.length_take]; have h_ : (x5_1 : Int) ≤ (l0.length : Int) := of_decide_eq_true asmB; omega)) ?_; repeat (first | exact (Kd.C_below HR591.out HB.out) | (with_reducible refine Kd.C_alloc ?_ _) | (with_reducible refine Kd.C_drewN ?_ _) | (with_reducible refine Kd.C_drew ?_))) | (repeat (first | exact (Kd.C_below HR591.out HB.out) | (with_reducible refine Kd.C_alloc ?_ _) | (with_reducible refine Kd.C_drewN ?_ _) | (with_reducible refine Kd.C_drew ?_))))
        (case aB => exact (bW HB))
        (case aF => exact (fun k_ hk => Kd.fresh' (Kd.R_lt (upR HO597.out)) k_ hk))
        (case aO => exact (Kd.R_mono (upR HO590.out) (fun _ hk => hk.2)))
        (case aS => exact (below_size (bW HB)))
        (case aL => have := LMc11.out; have hlx_ := (show (l0.take (x5_1 : Int).toNat).length = x5_1.toNat from (by rw [List.length_take]; have h_ : (x5_1 : Int) ≤ (l0.length : Int) := of_decide_eq_true asmB; omega)); omega)
        intro v593 w23 ho hb hg hat
        rw [← Ny592.out] at ho
        have HO594 := Aside0.mk (ho)
        replace HO597 := Aside0.mk (Kd.R_after (ok := (fun _ => True)) (upR HO597.out) hg hat)
        replace HB := Aside0.mk (hb)
        clear HO590
        clear ho hb hg hat
        refine hK.out _ _ trivial (fun hHeld => ?_)
        clear hK K
        refine nA ?_ (some 37)
        exact norm_ (by simp only [putAll, Act.put, List.setIfInBounds_toArray, List.set_cons_zero, List.set_cons_succ]) (hCont (v589, v593, v596) _ ⟨(upR HO594.out), (Kd.R_mono (upR HO597.out) (fun _ hk => hk.2)), (bW HB)⟩)
      rintro ⟨v589, v593, v596⟩ w24 ⟨h0_, h1_, h2_⟩
      have n0_ : Aside0 (Kd.R (Kd.int .i64) 3 w24 w.heap.size (fun k_ => some k_ ≠ (v596 : Value).ownBlock) v593 y592) := ⟨h0_⟩
      have n1_ : Aside0 (Kd.R (Kd.int .i64) 3 w24 w.heap.size (fun k_ => some k_ ≠ (v593 : Value).ownBlock) v596 y595) := ⟨h1_⟩
      have n2_ : Aside0 (Below w.heap.size w w24) := ⟨h2_⟩
      clear HB
      clear h0_ h1_ h2_
      have HO594 := n0_
      have HO597 := n1_
      have HB := n2_
      clear n0_ n1_ n2_
      have hHeld := trivial
      obtain ⟨Ao26, co26, eo26⟩ := Kd.R_slice HO597.out
      (first | subst eo26 | (injection eo26 with f1_ f2_ f3_; have f4_ := f1_.symm; have f5_ := f3_.symm; clear f1_ f2_ f3_; subst f4_; subst f5_))
      refine norm_ (a' := ?_) ?_ ?_
      rotate_left
      ·simp only [putAll, Act.put, List.setIfInBounds_toArray, List.set_cons_zero, List.set_cons_succ]
       rfl
      refine oA 7 (some 40) HT_ fun K hK => ?_
      refine Kd.R_append_rows_step (Kd.int .i64) (w0 := w) w.heap.size (by rfl) (.tmp 37) (.tmp 39) 25 3 (.int .i64 0) 8 rfl Tryz.underlying25 info3 rfl (by decide) (by omega) v593 y592 y595 _ _ _ (fun k_ => some k_ ≠ (.slice Ao26 y595.length co26 : Value).ownBlock) (fun _ => False) rfl rfl ?aO ?aR (fun _ _ h => h) (fun _ h => h.elim) ?aF ?aB ?aS ?aL ?_
      (case aR => exact zCR HO597)
      (case aB => exact (bW HB))
      (case aF => exact (fun k_ hk => Kd.fresh' (Kd.R_lt (upR HO597.out)) k_ hk))
      (case aO => exact (upR HO594.out))
      (case aS => exact (below_size (bW HB)))
      (case aL => have := LMc12.out; omega)
      intro v599 w25 ho hb hg hat
      rw [← Ny598.out] at ho
      have HO600 := Aside0.mk (ho)
      replace HO597 := Aside0.mk (Kd.R_after (ok := (fun _ => True)) (Kd.R_mono (upR HO597.out) (fun _ hk => ⟨trivial, hk⟩)) hg hat)
      replace HB := Aside0.mk (hb)
      clear HO594
      clear ho hb hg hat
      refine hK.out _ _ trivial (fun hHeld => ?_)
      clear hK K
      refine nA ?_ (some 40)
      refine oA 11 (some 44) HT_ fun K hK => ?_
      refine Kd.R_append_rows_step (Kd.int .i64) (w0 := w) w.heap.size (by rfl) (.tmp 40) (.tmp 43) 25 3 (.int .i64 0) 8 rfl Tryz.underlying25 info3 rfl (by decide) (by omega) v599 y598 (l0.drop (x5_1 : Int).toNat) _ _ _ (fun k_ => some k_ ≠ (.slice Ao26 y595.length co26 : Value).ownBlock) (fun _ => False) rfl rfl ?aO ?aR (fun _ _ h => h) (fun _ h => h.elim) ?aF ?aB ?aS ?aL ?_
      (case aR => first | (refine RR_len_ (show (l0.drop (x5_1 : Int).toNat).length = (l0.length - x5_1.toNat) from List.length_drop) ?_; repeat (first | exact (Kd.C_below HR601.out HB.out) | (with_reducible refine Kd.C_alloc ?_ _) | (with_reducible refine Kd.C_drewN ?_ _) | (with_reducible refine Kd.C_drew ?_))) | (repeat (first | exact (Kd.C_below HR601.out HB.out) | (with_reducible refine Kd.C_alloc ?_ _) | (with_reducible refine Kd.C_drewN ?_ _) | (with_reducible refine Kd.C_drew ?_))))
      (case aB => exact (bW HB))
      (case aF => exact (fun k_ hk => Kd.fresh' (Kd.R_lt (upR HO597.out)) k_ hk))
      (case aO => exact (upR HO600.out))
      (case aS => exact (below_size (bW HB)))
      (case aL => have := LMc15.out; have hlx_ := (show (l0.drop (x5_1 : Int).toNat).length = (l0.length - x5_1.toNat) from List.length_drop); omega)
      intro v603 w27 ho hb hg hat
      rw [← Ny602.out] at ho
      have HO604 := Aside0.mk (ho)
      replace HO597 := Aside0.mk (Kd.R_after (ok := (fun _ => True)) (upR HO597.out) hg hat)
      replace HB := Aside0.mk (hb)
      clear HO600
      clear ho hb hg hat
      refine hK.out _ _ trivial (fun hHeld => ?_)
      clear hK K
      refine nA ?_ (some 44)
      refine pA 12 4 HT_ ?_
      refine done_ (done_of HT_.out (by kernel_rfl)) ?_
      try go_wp2
      go_ret
      exact ⟨_, eB, Or.inl (Kd.R_mono (upR HO604.out) (fun _ hk => trivial)), (bW HB)⟩
   ·replace H := zS H
    obtain ⟨y605, Ny605, H⟩ := H
    replace H := zM H
    obtain ⟨c28, H⟩ := H
    have c28b0 := eq_true c28
    have c28b1 : decide (0 ≤ x5_1) = true := decide_eq_true c28
    clear c28
    replace H := zM H
    obtain ⟨c29, H⟩ := H
    have c29b0 := eq_true c29
    have c29b1 : decide (x5_1 ≤ (l0.length : Int)) = true := decide_eq_true c29
    clear c29
    replace H := zM H
    obtain ⟨c30, H⟩ := H
    have LMc30 := Aside0.mk c30
    clear c30
    replace H := zS H
    obtain ⟨y609, Ny609, H⟩ := H
    replace H := zS H
    obtain ⟨y612, Ny612, H⟩ := H
    replace H := zM H
    obtain ⟨c31, H⟩ := H
    have LMc31 := Aside0.mk c31
    clear c31
    replace H := zS H
    obtain ⟨y615, Ny615, H⟩ := H
    have c32b0 := eq_true (of_decide_eq_true asmB : 0 ≤ x5_1)
    have c33b0 := eq_true (of_decide_eq_true asmB : x5_1 ≤ (l0.length : Int))
    replace H := zM H
    obtain ⟨c34, H⟩ := H
    have LMc34 := Aside0.mk c34
    clear c34
    obtain ⟨y619, hy619⟩ : ∃ y_ : List Int, y_ = (y615 ++ (l0.drop (x5_1 : Int).toNat)) := ⟨_, rfl⟩
    rw [← hy619] at H
    have Ny619 := Aside0.mk hy619
    clear hy619
    obtain rfl := Option.some.inj H
    try go_wp2
    replace HB := Aside0.mk (below_drew1 HB.out)
    obtain ⟨i036, hi036, _, hsz36, _⟩ := info_parts info3
    obtain ⟨hcut36, hA36, hC36⟩ := print_take_of (P := Tryz.prog) (Value.int .i64) 0 25 3 .i64 Tryz.underlying25 hi036 hsz36 A0 c0 l0 x5_1 (of_decide_eq_true asmB) (of_decide_eq_true asmB) HC0.out
    have HR608 := Aside0.mk (Kd.C_of_reads (h1 := fun _ => rfl) (hA36 _ (Kd.reads_of_C HR0.out)))
    have HC608 := Aside0.mk hC36
    clear hA36 hC36 hi036 hsz36
    obtain ⟨i037, hi037, _, hsz37, _⟩ := info_parts info3
    obtain ⟨A37, hcut37, hA37, hC37⟩ := print_drop_of (P := Tryz.prog) (Value.int .i64) 0 25 3 .i64 Tryz.underlying25 hi037 hsz37 A0 c0 l0 x5_1 (of_decide_eq_true asmB) (of_decide_eq_true asmB) HC0.out
    have HR618 := Aside0.mk (Kd.C_of_reads (h1 := fun _ => rfl) (hA37 _ (Kd.reads_of_C HR0.out)))
    have HC618 := Aside0.mk hC37
    clear hA37 hC37 hi037 hsz37
    refine start_ (n := 13) (S := fun w' => True) (ds := []) #[false, false, false, false, false, false, false, false, false, false, false, false, false] (by kernel_rfl) rfl rfl trivial (fun hHeld => ?_); refine with_tabW spec_l1Put.tab6 spec_l1Put.bits6 (fun HT_ HW_ => ?_)
    generalize wr.drew = w35 at HB HR608 HR618 hHeld ⊢
    refine pA 1 34 HT_ ?_
    refine pA 2 35 HT_ ?_
    refine pA 3 36 HT_ ?_
    refine pA 5 38 HT_ ?_
    refine pA 8 41 HT_ ?_
    refine pA 9 42 HT_ ?_
    refine pA 10 43 HT_ ?_
    refine join_ (σ := Value × Value × Value) 3 #[true, true, true, true, true, true, true, false, true, true, true, false, false] (fun s_ => [(33, s_.1), (37, s_.2.1), (39, s_.2.2)]) (fun s_ w' => (Kd.R (Kd.int .i64) 3 w' w.heap.size (fun k_ => some k_ ≠ (s_.2.2 : Value).ownBlock) s_.2.1 y609) ∧ (Kd.R (Kd.int .i64) 3 w' w.heap.size (fun k_ => some k_ ≠ (s_.2.1 : Value).ownBlock) s_.2.2 y612) ∧ (Below w.heap.size w w')) ?_ ?_
    rotate_left
    ·intro hCont
     refine two_ (i := 0) (j := 6) (Ni := some 33) (Nj := some 39) #[true, true, true, true, false, true, false, false, true, true, true, false, false] #[false, true, true, true, false, true, true, false, true, true, true, false, false] rfl rfl rfl rfl (two_of HT_.out (by kernel_rfl)) (by decide) (by decide) (fun K hK => ?_) (fun K hK => ?_)
     ·skip
      refine Kd.R_lit_step (Kd.int .i64) _ 3 ?hg (N := 33) ?hd (xs := ([] : List Int)) (inner := []) (ok := fun _ => True) (okp := fun _ => True) ?hr ?hp (fun _ hk => hk) trivial (Below.refl _ _) (Nat.le_refl _) (by simp) ?_; (case hd => rfl); (case hg => rfl); (case hr => first | (go_simp; done) | (go_simp; rfl)); (case hp => exact (Reps.none _ _))
      intro v606 w38 ho39 hb hg_ hnew_
      clear hg_ hnew_
      (first | rw [← Ny605.out] at ho39 | (simp only [Int.reduceToNat] at ho39; rw [← Ny605.out] at ho39))
      have HO607 := Aside0.mk (Kd.R_lower ho39 (below_size (bW HB)))
      replace HB := uB HB hb
      clear hb ho39
      refine hK.out _ _ trivial (fun hHeld => ?_)
      clear hK K
      refine nA ?_ (some 33)
      refine two_ (i := 4) (j := 6) (Ni := some 37) (Nj := some 39) #[true, true, true, true, true, true, false, false, true, true, true, false, false] #[true, true, true, true, false, true, true, false, true, true, true, false, false] rfl rfl rfl rfl (two_of HT_.out (by kernel_rfl)) (by decide) (by decide) (fun K hK => ?_) (fun K hK => ?_)
      ·skip
       refine Kd.R_append_rows_step (Kd.int .i64) (w0 := w) w.heap.size (by rfl) (.tmp 33) (.tmp 36) 25 3 (.int .i64 0) 8 rfl Tryz.underlying25 info3 rfl (by decide) (by omega) v606 y605 (l0.take (x5_1 : Int).toNat) _ _ _ (fun _ => True) (fun _ => False) rfl rfl ?aO ?aR (fun _ _ h => h) (fun _ h => h.elim) ?aF ?aB ?aS ?aL ?_
       (case aR => first | (refine RR_len_ (show (l0.take (x5_1 : Int).toNat).length = x5_1.toNat from (by rw [List.length_take]; have h_ : (x5_1 : Int) ≤ (l0.length : Int) := of_decide_eq_true asmB; omega)) ?_; repeat (first | exact (Kd.C_below HR608.out HB.out) | (with_reducible refine Kd.C_alloc ?_ _) | (with_reducible refine Kd.C_drewN ?_ _) | (with_reducible refine Kd.C_drew ?_))) | (repeat (first | exact (Kd.C_below HR608.out HB.out) | (with_reducible refine Kd.C_alloc ?_ _) | (with_reducible refine Kd.C_drewN ?_ _) | (with_reducible refine Kd.C_drew ?_))))
       (case aB => exact (bW HB))
       (case aF => exact (fun _ _ => trivial))
       (case aO => exact (upR HO607.out))
       (case aS => exact (below_size (bW HB)))
       (case aL => have := LMc30.out; have hlx_ := (show (l0.take (x5_1 : Int).toNat).length = x5_1.toNat from (by rw [List.length_take]; have h_ : (x5_1 : Int) ≤ (l0.length : Int) := of_decide_eq_true asmB; omega)); omega)
       intro v610 w40 ho hb hg hat
       rw [← Ny609.out] at ho
       have HO611 := Aside0.mk (ho)
       replace HB := Aside0.mk (hb)
       clear HO607
       clear ho hb hg hat
       refine hK.out _ _ trivial (fun hHeld => ?_)
       clear hK K
       refine nA ?_ (some 37)
       refine oA 6 (some 39) HT_ fun K hK => ?_
       refine Kd.R_lit_step (Kd.int .i64) _ 3 ?hg (N := 39) ?hd (xs := ([a1] : List Int)) (inner := [.int .i64 a1]) (ok := fun _ => True) (okp := fun _ => True) ?hr ?hp (fun _ hk => hk) trivial (Below.refl _ _) (Nat.le_refl _) (by simp) ?_; (case hd => rfl); (case hg => rfl); (case hr => first | (go_simp; done) | (go_simp; rfl)); (case hp => exact zInts _)
       intro v613 w41 ho42 hb hg_ hnew_
       clear hg_ hnew_
       (first | rw [← Ny612.out] at ho42 | (simp only [Int.reduceToNat] at ho42; rw [← Ny612.out] at ho42))
       have HO614 := Aside0.mk (Kd.R_lower (Kd.R_new' ho42 (Kd.R_lt (upR HO611.out))) (below_size (bW HB)))
       replace HO611 := Aside0.mk (Kd.R_elder' (upR HO611.out) (Kd.R_base ho42) hb)
       replace HB := uB HB hb
       clear hb ho42
       refine hK.out _ _ trivial (fun hHeld => ?_)
       clear hK K
       refine nA ?_ (some 39)
       exact norm_ (by simp only [putAll, Act.put, List.setIfInBounds_toArray, List.set_cons_zero, List.set_cons_succ]) (hCont (v606, v610, v613) _ ⟨(Kd.R_mono (upR HO611.out) (fun _ hk => hk.2)), (Kd.R_mono (upR HO614.out) (fun _ hk => hk.2)), (bW HB)⟩)
      ·skip
       refine Kd.R_lit_step (Kd.int .i64) _ 3 ?hg (N := 39) ?hd (xs := ([a1] : List Int)) (inner := [.int .i64 a1]) (ok := fun _ => True) (okp := fun _ => True) ?hr ?hp (fun _ hk => hk) trivial (Below.refl _ _) (Nat.le_refl _) (by simp) ?_; (case hd => rfl); (case hg => rfl); (case hr => first | (go_simp; done) | (go_simp; rfl)); (case hp => exact zInts _)
       intro v613 w40 ho41 hb hg_ hnew_
       clear hg_ hnew_
       (first | rw [← Ny612.out] at ho41 | (simp only [Int.reduceToNat] at ho41; rw [← Ny612.out] at ho41))
       have HO614 := Aside0.mk (Kd.R_lower (Kd.R_new' ho41 (Kd.R_lt (upR HO607.out))) (below_size (bW HB)))
       replace HO607 := Aside0.mk (Kd.R_elder' (upR HO607.out) (Kd.R_base ho41) hb)
       replace HB := uB HB hb
       clear hb ho41
       refine hK.out _ _ trivial (fun hHeld => ?_)
       clear hK K
       refine nA ?_ (some 39)
       refine oA 4 (some 37) HT_ fun K hK => ?_
       refine Kd.R_append_rows_step (Kd.int .i64) (w0 := w) w.heap.size (by rfl) (.tmp 33) (.tmp 36) 25 3 (.int .i64 0) 8 rfl Tryz.underlying25 info3 rfl (by decide) (by omega) v606 y605 (l0.take (x5_1 : Int).toNat) _ _ _ (fun k_ => some k_ ≠ (v613 : Value).ownBlock) (fun _ => False) rfl rfl ?aO ?aR (fun _ _ h => h) (fun _ h => h.elim) ?aF ?aB ?aS ?aL ?_
       (case aR => first | (refine RR_len_ (show (l0.take (x5_1 : Int).toNat).length = x5_1.toNat from (by rw [List.length_take]; have h_ : (x5_1 : Int) ≤ (l0.length : Int) := of_decide_eq_true asmB; omega)) ?_; repeat (first | exact (Kd.C_below HR608.out HB.out) | (with_reducible refine Kd.C_alloc ?_ _) | (with_reducible refine Kd.C_drewN ?_ _) | (with_reducible refine Kd.C_drew ?_))) | (repeat (first | exact (Kd.C_below HR608.out HB.out) | (with_reducible refine Kd.C_alloc ?_ _) | (with_reducible refine Kd.C_drewN ?_ _) | (with_reducible refine Kd.C_drew ?_))))
       (case aB => exact (bW HB))
       (case aF => exact (fun k_ hk => Kd.fresh' (Kd.R_lt (upR HO614.out)) k_ hk))
       (case aO => exact (Kd.R_mono (upR HO607.out) (fun _ hk => hk.2)))
       (case aS => exact (below_size (bW HB)))
       (case aL => have := LMc30.out; have hlx_ := (show (l0.take (x5_1 : Int).toNat).length = x5_1.toNat from (by rw [List.length_take]; have h_ : (x5_1 : Int) ≤ (l0.length : Int) := of_decide_eq_true asmB; omega)); omega)
       intro v610 w42 ho hb hg hat
       rw [← Ny609.out] at ho
       have HO611 := Aside0.mk (ho)
       replace HO614 := Aside0.mk (Kd.R_after (ok := (fun _ => True)) (upR HO614.out) hg hat)
       replace HB := Aside0.mk (hb)
       clear HO607
       clear ho hb hg hat
       refine hK.out _ _ trivial (fun hHeld => ?_)
       clear hK K
       refine nA ?_ (some 37)
       exact norm_ (by simp only [putAll, Act.put, List.setIfInBounds_toArray, List.set_cons_zero, List.set_cons_succ]) (hCont (v606, v610, v613) _ ⟨(upR HO611.out), (Kd.R_mono (upR HO614.out) (fun _ hk => hk.2)), (bW HB)⟩)
     ·skip
      refine Kd.R_lit_step (Kd.int .i64) _ 3 ?hg (N := 39) ?hd (xs := ([a1] : List Int)) (inner := [.int .i64 a1]) (ok := fun _ => True) (okp := fun _ => True) ?hr ?hp (fun _ hk => hk) trivial (Below.refl _ _) (Nat.le_refl _) (by simp) ?_; (case hd => rfl); (case hg => rfl); (case hr => first | (go_simp; done) | (go_simp; rfl)); (case hp => exact zInts _)
      intro v613 w38 ho39 hb hg_ hnew_
      clear hg_ hnew_
      (first | rw [← Ny612.out] at ho39 | (simp only [Int.reduceToNat] at ho39; rw [← Ny612.out] at ho39))
      have HO614 := Aside0.mk (Kd.R_lower ho39 (below_size (bW HB)))
      replace HB := uB HB hb
      clear hb ho39
      refine hK.out _ _ trivial (fun hHeld => ?_)
      clear hK K
      refine nA ?_ (some 39)
      refine oA 0 (some 33) HT_ fun K hK => ?_
      refine Kd.R_lit_step (Kd.int .i64) _ 3 ?hg (N := 33) ?hd (xs := ([] : List Int)) (inner := []) (ok := fun _ => True) (okp := fun _ => True) ?hr ?hp (fun _ hk => hk) trivial (Below.refl _ _) (Nat.le_refl _) (by simp) ?_; (case hd => rfl); (case hg => rfl); (case hr => first | (go_simp; done) | (go_simp; rfl)); (case hp => exact (Reps.none _ _))
      intro v606 w40 ho41 hb hg_ hnew_
      clear hg_ hnew_
      (first | rw [← Ny605.out] at ho41 | (simp only [Int.reduceToNat] at ho41; rw [← Ny605.out] at ho41))
      have HO607 := Aside0.mk (Kd.R_lower (Kd.R_new' ho41 (Kd.R_lt (upR HO614.out))) (below_size (bW HB)))
      replace HO614 := Aside0.mk (Kd.R_elder' (upR HO614.out) (Kd.R_base ho41) hb)
      replace HB := uB HB hb
      clear hb ho41
      refine hK.out _ _ trivial (fun hHeld => ?_)
      clear hK K
      refine nA ?_ (some 33)
      refine oA 4 (some 37) HT_ fun K hK => ?_
      refine Kd.R_append_rows_step (Kd.int .i64) (w0 := w) w.heap.size (by rfl) (.tmp 33) (.tmp 36) 25 3 (.int .i64 0) 8 rfl Tryz.underlying25 info3 rfl (by decide) (by omega) v606 y605 (l0.take (x5_1 : Int).toNat) _ _ _ (fun k_ => some k_ ≠ (v613 : Value).ownBlock) (fun _ => False) rfl rfl ?aO ?aR (fun _ _ h => h) (fun _ h => h.elim) ?aF ?aB ?aS ?aL ?_
      (case aR => first | (refine RR_len_ (show (l0.take (x5_1 : Int).toNat).length = x5_1.toNat from (by rw [List.length_take]; have h_ : (x5_1 : Int) ≤ (l0.length : Int) := of_decide_eq_true asmB; omega)) ?_; repeat (first | exact (Kd.C_below HR608.out HB.out) | (with_reducible refine Kd.C_alloc ?_ _) | (with_reducible refine Kd.C_drewN ?_ _) | (with_reducible refine Kd.C_drew ?_))) | (repeat (first | exact (Kd.C_below HR608.out HB.out) | (with_reducible refine Kd.C_alloc ?_ _) | (with_reducible refine Kd.C_drewN ?_ _) | (with_reducible refine Kd.C_drew ?_))))
      (case aB => exact (bW HB))
      (case aF => exact (fun k_ hk => Kd.fresh' (Kd.R_lt (upR HO614.out)) k_ hk))
      (case aO => exact (Kd.R_mono (upR HO607.out) (fun _ hk => hk.2)))
      (case aS => exact (below_size (bW HB)))
      (case aL => have := LMc30.out; have hlx_ := (show (l0.take (x5_1 : Int).toNat).length = x5_1.toNat from (by rw [List.length_take]; have h_ : (x5_1 : Int) ≤ (l0.length : Int) := of_decide_eq_true asmB; omega)); omega)
      intro v610 w42 ho hb hg hat
      rw [← Ny609.out] at ho
      have HO611 := Aside0.mk (ho)
      replace HO614 := Aside0.mk (Kd.R_after (ok := (fun _ => True)) (upR HO614.out) hg hat)
      replace HB := Aside0.mk (hb)
      clear HO607
      clear ho hb hg hat
      refine hK.out _ _ trivial (fun hHeld => ?_)
      clear hK K
      refine nA ?_ (some 37)
      exact norm_ (by simp only [putAll, Act.put, List.setIfInBounds_toArray, List.set_cons_zero, List.set_cons_succ]) (hCont (v606, v610, v613) _ ⟨(upR HO611.out), (Kd.R_mono (upR HO614.out) (fun _ hk => hk.2)), (bW HB)⟩)
    rintro ⟨v606, v610, v613⟩ w43 ⟨h0_, h1_, h2_⟩
    have n0_ : Aside0 (Kd.R (Kd.int .i64) 3 w43 w.heap.size (fun k_ => some k_ ≠ (v613 : Value).ownBlock) v610 y609) := ⟨h0_⟩
    have n1_ : Aside0 (Kd.R (Kd.int .i64) 3 w43 w.heap.size (fun k_ => some k_ ≠ (v610 : Value).ownBlock) v613 y612) := ⟨h1_⟩
    have n2_ : Aside0 (Below w.heap.size w w43) := ⟨h2_⟩
    clear HB
    clear h0_ h1_ h2_
    have HO611 := n0_
    have HO614 := n1_
    have HB := n2_
    clear n0_ n1_ n2_
    have hHeld := trivial
    obtain ⟨Ao45, co45, eo45⟩ := Kd.R_slice HO614.out
    (first | subst eo45 | (injection eo45 with f1_ f2_ f3_; have f4_ := f1_.symm; have f5_ := f3_.symm; clear f1_ f2_ f3_; subst f4_; subst f5_))
    refine norm_ (a' := ?_) ?_ ?_
    rotate_left
    ·simp only [putAll, Act.put, List.setIfInBounds_toArray, List.set_cons_zero, List.set_cons_succ]
     rfl
    refine oA 7 (some 40) HT_ fun K hK => ?_
    refine Kd.R_append_rows_step (Kd.int .i64) (w0 := w) w.heap.size (by rfl) (.tmp 37) (.tmp 39) 25 3 (.int .i64 0) 8 rfl Tryz.underlying25 info3 rfl (by decide) (by omega) v610 y609 y612 _ _ _ (fun k_ => some k_ ≠ (.slice Ao45 y612.length co45 : Value).ownBlock) (fun _ => False) rfl rfl ?aO ?aR (fun _ _ h => h) (fun _ h => h.elim) ?aF ?aB ?aS ?aL ?_
    (case aR => exact zCR HO614)
    (case aB => exact (bW HB))
    (case aF => exact (fun k_ hk => Kd.fresh' (Kd.R_lt (upR HO614.out)) k_ hk))
    (case aO => exact (upR HO611.out))
    (case aS => exact (below_size (bW HB)))
    (case aL => have := LMc31.out; omega)
    intro v616 w44 ho hb hg hat
    rw [← Ny615.out] at ho
    have HO617 := Aside0.mk (ho)
    replace HO614 := Aside0.mk (Kd.R_after (ok := (fun _ => True)) (Kd.R_mono (upR HO614.out) (fun _ hk => ⟨trivial, hk⟩)) hg hat)
    replace HB := Aside0.mk (hb)
    clear HO611
    clear ho hb hg hat
    refine hK.out _ _ trivial (fun hHeld => ?_)
    clear hK K
    refine nA ?_ (some 40)
    refine oA 11 (some 44) HT_ fun K hK => ?_
    refine Kd.R_append_rows_step (Kd.int .i64) (w0 := w) w.heap.size (by rfl) (.tmp 40) (.tmp 43) 25 3 (.int .i64 0) 8 rfl Tryz.underlying25 info3 rfl (by decide) (by omega) v616 y615 (l0.drop (x5_1 : Int).toNat) _ _ _ (fun k_ => some k_ ≠ (.slice Ao45 y612.length co45 : Value).ownBlock) (fun _ => False) rfl rfl ?aO ?aR (fun _ _ h => h) (fun _ h => h.elim) ?aF ?aB ?aS ?aL ?_
    (case aR => first | (refine RR_len_ (show (l0.drop (x5_1 : Int).toNat).length = (l0.length - x5_1.toNat) from List.length_drop) ?_; repeat (first | exact (Kd.C_below HR618.out HB.out) | (with_reducible refine Kd.C_alloc ?_ _) | (with_reducible refine Kd.C_drewN ?_ _) | (with_reducible refine Kd.C_drew ?_))) | (repeat (first | exact (Kd.C_below HR618.out HB.out) | (with_reducible refine Kd.C_alloc ?_ _) | (with_reducible refine Kd.C_drewN ?_ _) | (with_reducible refine Kd.C_drew ?_))))
    (case aB => exact (bW HB))
    (case aF => exact (fun k_ hk => Kd.fresh' (Kd.R_lt (upR HO614.out)) k_ hk))
    (case aO => exact (upR HO617.out))
    (case aS => exact (below_size (bW HB)))
    (case aL => have := LMc34.out; have hlx_ := (show (l0.drop (x5_1 : Int).toNat).length = (l0.length - x5_1.toNat) from List.length_drop); omega)
    intro v620 w46 ho hb hg hat
    rw [← Ny619.out] at ho
    have HO621 := Aside0.mk (ho)
    replace HO614 := Aside0.mk (Kd.R_after (ok := (fun _ => True)) (upR HO614.out) hg hat)
    replace HB := Aside0.mk (hb)
    clear HO617
    clear ho hb hg hat
    refine hK.out _ _ trivial (fun hHeld => ?_)
    clear hK K
    refine nA ?_ (some 44)
    refine pA 12 4 HT_ ?_
    refine done_ (done_of HT_.out (by kernel_rfl)) ?_
    try go_wp2
    go_ret
    exact ⟨_, eB, Or.inl (Kd.R_mono (upR HO621.out) (fun _ hk => trivial)), (bW HB)⟩
theorem spec_l1Put.calls (k : Nat) (P0_ : Nat → Prop) (u9000_ : Value) (l0 : List Int) (a1 : Int) (r : List Int) (w0 w : World) (hB : Below w0.heap.size w0 w) (ho0 : Kd.R (Kd.int .i64) 3 w w0.heap.size P0_ u9000_ l0) (h : spec_l1Put.f k l0 a1 = some r) :
 Calls Tryz.prog 56 #[u9000_, .int .i64 a1] w fun e w' => ∃ v0_ : Value, e = .returned (v0_) ∧ Kd.R (Kd.int .i64) 3 w' w0.heap.size (fun k_ => (P0_ k_ ∨ w.heap.size ≤ k_)) v0_ r ∧ Below w0.heap.size w0 w' ∧ Kept w w' (fun k_ => P0_ k_) := by
 obtain ⟨A, c, rfl⟩ := Kd.R_slice ho0
 refine (spec_l1Put.reads k A c l0 a1 r w (Kd.R_reads' ho0).2.2 (Kd.R_reads' ho0).2.1 h).mono ?_
 rintro e w' ⟨v0, rfl, hr, hb⟩
 refine ⟨v0, rfl, ?_, below_step hB hb, Kept.below (Kept.refl _ _) hb⟩
 rcases hr with hr | ⟨rfl, rfl⟩
 ·exact Kd.R_mono (Kd.R_lower (Kd.R_bound hr) hB.size) (fun k hk => Or.inr hk.2.1)
 ·exact Kd.R_mono (Kd.R_below ho0 hb) (fun k hk => Or.inl hk)

end Go.Proofs.YtmfidodcpbochaaGreat.QFnSteps
