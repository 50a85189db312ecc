/- Contracts of Go functions that FnRenamings reaches: the call computes what the plain function says. No condition. -/
import Derived.Test.YtfaojmabalplfaaQFnRenamingsx0
import Derived.Test.YtfaojmabalplfaaQFnRenamingsx2
namespace Go.Proofs.Ytfaojmabalplfaa.QFnRenamings
open Go.RowKit Go.Proofs.YtfaojmabalplfaaW.PrintWords Go.Proofs.YtfaojmabalplfaaW.PrintLast Go.Proofs.YtfaojmabalplfaaW.PrintMore
attribute [local go_sem] max2_int min2_int max_two min_two max_three min_three max_four min_four   -- for this text's walks alone
set_option linter.unusedVariables false
set_option linter.unusedSimpArgs false

/-! ### impl_InverseRenaming: function 19 -/
def impl_InverseRenaming.l0 : Nat → List Int → List Int → Int → Int → Option (List Int × Bool)
 | 0, _, _, _, _ => none
 | k + 1, x4, x11, x12, x13 => if x13 < x12 then (if 0 ≤ x13 then (if x13 < (x11.length : Int) then (if 0 ≤ (rd x11 x13) then (if (rd x11 x13) < (x4.length : Int) then (impl_InverseRenaming.l0 k (x4.set ((rd x11 x13) : Int).toNat x13) x11 x12 (wrap64 (x13 + 1))) else (none)) else (none)) else (none)) else (none)) else (some (x4, true))
def impl_InverseRenaming.f (k : Nat) (l0 : List Int) : Option (List Int × Bool) := (impl_IsRenaming.f k l0).bind fun t125 => (if t125 = true then (impl_InverseRenaming.l0 k (List.replicate 8 0) l0 (l0.length : Int) 0) else (some (([] : List Int), false)))
theorem impl_InverseRenaming.mono_l : ∀ k, (∀ y0 y1 y2 y3, LeO (impl_InverseRenaming.l0 k y0 y1 y2 y3) (impl_InverseRenaming.l0 (k + 1) y0 y1 y2 y3))
 | 0 => fun _ _ _ _ r h => by simp [impl_InverseRenaming.l0] at h
 | k + 1 => by
  have ih0 := impl_InverseRenaming.mono_l k
  ·intro y0 y1 y2 y3
   unfold impl_InverseRenaming.l0
   repeat' with_reducible first | apply ih0 | apply impl_IsRenaming.mono | exact LeO.refl _ | exact LeO.none _ | refine LeO.ite ?_ ?_ | refine LeO.bind ?_ (fun _ => ?_)
theorem impl_InverseRenaming.mono : ∀ a0 k, LeO (impl_InverseRenaming.f k a0) (impl_InverseRenaming.f (k + 1) a0) := by
 intro a0 k
 have ih0 := impl_InverseRenaming.mono_l k
 unfold impl_InverseRenaming.f
 repeat' with_reducible first | apply ih0 | apply impl_IsRenaming.mono | exact LeO.refl _ | exact LeO.none _ | refine LeO.ite ?_ ?_ | refine LeO.bind ?_ (fun _ => ?_)
set_option maxHeartbeats 8000000 in
set_option maxRecDepth 100000 in
theorem impl_InverseRenaming.calls (k : Nat) (A0 : Option Addr) (c0 : Nat) (l0 : List Int) (r1 : List Int) (r2 : Bool) (w : World) (hr0 : Kd.C (Kd.int .i64) w A0 l0.length l0) (hc0 : l0.length ≤ c0) (h : impl_InverseRenaming.f k l0 = some (r1, r2)) :
  Calls Try.prog 19 #[.slice A0 l0.length c0] w fun e w' => ∃ v0_ : Value, e = .returned (.tuple #[v0_, .bool r2]) ∧ Kd.R (Kd.int .i64) 3 w' w.heap.size (fun _ => True) v0_ r1 ∧ Below w.heap.size w w' := by
 have HR0 := Aside0.mk hr0
 have HC0 := Aside0.mk hc0
 clear hr0 hc0
 have HB := Aside0.mk (Below.refl w.heap.size w)
 have H := h
 clear h
 unfold impl_InverseRenaming.f at H
 replace H := bA H
 obtain ⟨t125, A2, H⟩ := H
 rcases Bool.eq_false_or_eq_true t125 with rfl | rfl
 ·replace H := iT rfl H
  obtain ⟨y126, hy126⟩ : ∃ y_ : List Int, y_ = (List.replicate 8 0) := ⟨_, rfl⟩
  replace H : (impl_InverseRenaming.l0 k y126 l0 (l0.length : Int) 0) = some (r1, r2) := by first | (rw [hy126]; with_reducible exact H) | (have H2_ := (Option.bind_some _ _).symm.trans H; rw [hy126]; with_reducible exact H2_) | (have H2_ := (Option.bind_some _ _).symm.trans H; with_reducible exact H2_) | with_reducible exact H | (rw [hy126]; exact H) | exact H
  have Ny126 := Aside0.mk hy126
  clear hy126
  have H' := Aside0.mk H
  clear H
  go_enter Try.func19, Try.ntmps19
  go_wp2_with (first | ((with_reducible refine gC 16 ?_); refine lA (some 8) Try.func16 (impl_IsRenaming.calls k _ _ l0 true _ ?side1 ?side2 A2.out) ?_; (case side1 => repeat (first | exact HR0.out | (with_reducible refine Kd.C_alloc ?_ _) | (with_reducible refine Kd.C_drewN ?_ _) | (with_reducible refine Kd.C_drew ?_))); (case side2 => exact HC0.out); rintro _ ⟨nd, rfl⟩) | ((with_reducible refine gate_dst (N := 10) rfl ?_); refine Kd.R_make (Kd.int .i64) _ 3 rfl (N := 10) rfl 22 _ _ rfl 8 rfl rfl Try.underlying22 (.int .i64 0) 8 info3 rfl (by decide) (by omega) 0 (ok := fun _ => True) (okp := fun _ => True) rfl (fun _ hk => hk) trivial (by omega) (by omega) (Below.refl _ _) (Nat.le_refl _) ?_; intro v127 w4 ho5 hb hg_ hnew_; clear hg_ hnew_; (first | rw [← Ny126.out] at ho5 | (simp only [Int.reduceToNat] at ho5; rw [← Ny126.out] at ho5)); have HO128 := Aside0.mk (Kd.R_lower ho5 (below_size (bW HB))); replace HB := uB HB hb; clear hb ho5))
  (try simp only [Act.put, List.setIfInBounds_toArray, List.set_cons_zero, List.set_cons_succ])
  go_loopg [13] k (fun kq v13 w' => ∃ (x4_1 : List Int) (x13_1 : Int), v13 = .int .i64 x13_1 ∧ Aside0 (impl_InverseRenaming.l0 kq x4_1 l0 (l0.length : Int) x13_1 = some (r1, r2)) ∧ Aside0 (kq ≤ k) ∧ Aside0 (Kd.R (Kd.int .i64) 3 w' w.heap.size (fun _ => True) v127 x4_1) ∧ Aside0 (Below w.heap.size w w'))
  case atStart => exact ⟨(y126), (0), rB, H', ⟨Nat.le_refl _⟩, ⟨upR HO128.out⟩, (aB HB)⟩
  case round =>
   clear H'
   obtain ⟨x4_1, x13_1, rfl, HA, HK1, HO_4, HB⟩ := hrel
   cases gk with
   | zero => exact absurd HA.out (by simp [impl_InverseRenaming.l0])
   | succ k1 =>
    have H := HA.out
    clear HA
    simp only [impl_InverseRenaming.l0] at H
    replace H := ifD H
    rcases H with ⟨H, -, c6b0⟩ | ⟨H, -, c6b0⟩
    ·by_cases c7 : 0 ≤ x13_1
     ·rw [if_pos c7] at H
      have c7b0 : decide (0 ≤ x13_1) = true := decide_eq_true c7
      clear c7
      by_cases c8 : x13_1 < (l0.length : Int)
      ·rw [if_pos c8] at H
       have c8b0 : decide (x13_1 < (l0.length : Int)) = true := decide_eq_true c8
       clear c8
       by_cases c9 : 0 ≤ (rd l0 x13_1)
       ·rw [if_pos c9] at H
        have c9b0 : decide (0 ≤ (rd l0 x13_1)) = true := decide_eq_true c9
        clear c9
        by_cases c10 : (rd l0 x13_1) < (x4_1.length : Int)
        ·rw [if_pos c10] at H
         have c10b0 : decide ((rd l0 x13_1) < (x4_1.length : Int)) = true := decide_eq_true c10
         clear c10
         obtain ⟨y130, hy130⟩ : ∃ y_ : List Int, y_ = (x4_1.set ((rd l0 x13_1) : Int).toNat x13_1) := ⟨_, rfl⟩
         replace H : (impl_InverseRenaming.l0 k1 y130 l0 (l0.length : Int) (wrap64 (x13_1 + 1))) = some (r1, r2) := by first | (rw [hy130]; with_reducible exact H) | (have H2_ := (Option.bind_some _ _).symm.trans H; rw [hy130]; with_reducible exact H2_) | (have H2_ := (Option.bind_some _ _).symm.trans H; with_reducible exact H2_) | with_reducible exact H | (rw [hy130]; exact H) | exact H
         have Ny130 := Aside0.mk hy130
         clear hy130
         have H' := Aside0.mk H
         clear H
         have p129 : 0 ≤ (x13_1 : Int) := of_decide_eq_true asmB
         have q129 : x13_1 < (l0.length : Int) := of_decide_eq_true asmB
         obtain ⟨ad129, e129, hx129_0⟩ := Kd.at_int HR0.out x13_1 p129 q129
         cases e129
         replace hx129_0 := bx HB.out hx129_0
         replace p129 := eq_true p129
         replace q129 := eq_true q129
         have p11 : 0 ≤ ((rd l0 x13_1) : Int) := of_decide_eq_true asmB
         have q11 : ((rd l0 x13_1) : Int) < ((x4_1.length : Int) : Int) := of_decide_eq_true asmB
         obtain ⟨go11, co11, eo11, gb11, gl11, cl11, HG11⟩ := Kd.R_form HO_4.out (by omega)
         (first | cases eo11 | (injection eo11 with ea_ en_ ec_; (first | subst ea_ | (injection ea_ with ea_; subst ea_)); subst ec_; clear en_))
         have GB11 := Aside0.mk gb11
         have GG11 := Aside0.mk HG11
         clear gb11 gl11 HG11
         obtain ⟨hx11_0, hf11_0⟩ := Kd.R_celln 0 HO_4.out ((rd l0 x13_1) : Int) p11 q11
         replace p11 := eq_true p11
         replace q11 := eq_true q11
         have HP12 := Kd.R_putg HO_4.out ((rd l0 x13_1) : Int) x13_1
         go_wp2_with (first | ((with_reducible refine gate_store (t := 3) (p := 21) rfl ?_); refine store_event (t := 3) (p := 21) (v := ?vo_w13) (w1 := (wr.setCell ⟨go11, ((rd l0 x13_1) : Int).toNat, none⟩ (.int .i64 x13_1))) ?hg ?ho ?hn ?hr ?_; (case ho => rfl); (case hg => rfl); (case hn => rfl); (case hr => first | (go_simp; done) | (go_simp; rfl)); intro w13 hw; have hg : wr.grownBy w13 (some go11) := (by rw [hw]; exact HP12.2); have hp_ : Kd.R (Kd.int .i64) 3 w13 w.heap.size (fun _ => True) (.slice (some ⟨go11, 0, none⟩) x4_1.length co11) y130 := (by rw [hw, Ny130.out]; exact HP12.1); clear HP12; replace HO_4 := Aside0.mk (hp_); replace HB := Aside0.mk ((by rw [hw]; exact below_set (HB.out) GB11.out : Below w.heap.size w w13)); clear hg hw hp_))
         go_roundg k1
         case measure => have := HK1.out; omega
         case rel => exact ⟨(y130), (wrap64 (x13_1 + 1)), rB, H', ⟨by have := HK1.out; omega⟩, ⟨upR HO_4.out⟩, (aB HB)⟩
        ·rw [if_neg c10] at H
         exact absurd H (by simp)
       ·rw [if_neg c9] at H
        exact absurd H (by simp)
      ·rw [if_neg c8] at H
       exact absurd H (by simp)
     ·rw [if_neg c7] at H
      exact absurd H (by simp)
    ·simp only [Option.some.injEq, Prod.mk.injEq] at H
     obtain ⟨rfl, rfl⟩ := H
     go_wp2
     go_ret2
     exact ⟨_, eB, upR HO_4.out, (bW HB)⟩
 ·replace H := iF (by decide) H
  simp only [Option.some.injEq, Prod.mk.injEq] at H
  obtain ⟨rfl, rfl⟩ := H
  go_enter Try.func19, Try.ntmps19
  go_wp2_with (first | ((with_reducible refine gC 16 ?_); refine lA (some 8) Try.func16 (impl_IsRenaming.calls k _ _ l0 false _ ?side1 ?side2 A2.out) ?_; (case side1 => repeat (first | exact HR0.out | (with_reducible refine Kd.C_alloc ?_ _) | (with_reducible refine Kd.C_drewN ?_ _) | (with_reducible refine Kd.C_drew ?_))); (case side2 => exact HC0.out); rintro _ ⟨nd, rfl⟩))
  go_ret2
  exact ⟨_, eB, by first | exact Kd.R_nil _ _ _ _ _ | exact Kd.N_nil _ _ _ _ _ | exact Kd.V_nil _ _ _ _ _ | exact Kd.Q_nil _ _ _ _ _ | exact Kd.S_nil _ _ _ _ _, (bW HB)⟩

/-! ### spec_ThenRenaming: function 22 -/
mutual
def spec_ThenRenaming.j0 : Nat → List Int → List Int → List Int → Bool → Option (List Int × Bool)
 | 0, _, _, _, _ => none
 | k + 1, x0, x1, x6, x16 => if x16 = true then (some (x6, false)) else (spec_ThenRenaming.l0 k x0 x1 x6 0)
def spec_ThenRenaming.l0 : Nat → List Int → List Int → List Int → Int → Option (List Int × Bool)
 | 0, _, _, _, _ => none
 | k + 1, x0, x1, x6, x7 => if x7 < (x0.length : Int) then (if 0 ≤ x7 then (if 0 ≤ (rd x0 x7) then (if (rd x0 x7) < (x1.length : Int) then (if x6.length < 17592186044416 then (spec_ThenRenaming.l0 k x0 x1 (x6 ++ [rd x1 (rd x0 x7)]) (wrap64 (x7 + 1))) else (none)) else (none)) else (none)) else (none)) else (some (x6, true))
end
def spec_ThenRenaming.f (k : Nat) (l0 : List Int) (l1 : List Int) : Option (List Int × Bool) := (some (([] : List Int) : List Int)).bind fun y131 => ((spec_l20Good.f k l0).bind fun t134 => (if t134 = true then ((spec_l20Good.f k l1).bind fun t135 => (spec_ThenRenaming.j0 k l0 l1 y131 (!t135))) else (spec_ThenRenaming.j0 k l0 l1 y131 true)))
theorem spec_ThenRenaming.mono_l : ∀ k, (∀ y0 y1 y2 y3, LeO (spec_ThenRenaming.j0 k y0 y1 y2 y3) (spec_ThenRenaming.j0 (k + 1) y0 y1 y2 y3)) ∧ (∀ y0 y1 y2 y3, LeO (spec_ThenRenaming.l0 k y0 y1 y2 y3) (spec_ThenRenaming.l0 (k + 1) y0 y1 y2 y3))
 | 0 => ⟨fun _ _ _ _ r h => by simp [spec_ThenRenaming.j0] at h, fun _ _ _ _ r h => by simp [spec_ThenRenaming.l0] at h⟩
 | k + 1 => by
  obtain ⟨ih0, ih1⟩ := spec_ThenRenaming.mono_l k
  refine ⟨?_, ?_⟩
  ·intro y0 y1 y2 y3
   unfold spec_ThenRenaming.j0
   repeat' with_reducible first | apply ih0 | apply ih1 | apply spec_l20Good.mono | exact LeO.refl _ | exact LeO.none _ | refine LeO.ite ?_ ?_ | refine LeO.bind ?_ (fun _ => ?_)
  ·intro y0 y1 y2 y3
   unfold spec_ThenRenaming.l0
   repeat' with_reducible first | apply ih0 | apply ih1 | apply spec_l20Good.mono | exact LeO.refl _ | exact LeO.none _ | refine LeO.ite ?_ ?_ | refine LeO.bind ?_ (fun _ => ?_)
theorem spec_ThenRenaming.mono : ∀ a0 a1 k, LeO (spec_ThenRenaming.f k a0 a1) (spec_ThenRenaming.f (k + 1) a0 a1) := by
 intro a0 a1 k
 obtain ⟨ih0, ih1⟩ := spec_ThenRenaming.mono_l k
 unfold spec_ThenRenaming.f
 repeat' with_reducible first | apply ih0 | apply ih1 | apply spec_l20Good.mono | exact LeO.refl _ | exact LeO.none _ | refine LeO.ite ?_ ?_ | refine LeO.bind ?_ (fun _ => ?_)
set_option maxHeartbeats 8000000 in
set_option maxRecDepth 100000 in
theorem spec_ThenRenaming.calls (k : Nat) (A0 : Option Addr) (c0 : Nat) (l0 : List Int) (A1 : Option Addr) (c1 : Nat) (l1 : List Int) (r1 : List Int) (r2 : Bool) (w : World) (hr0 : Kd.C (Kd.int .i64) w A0 l0.length l0) (hc0 : l0.length ≤ c0) (hr1 : Kd.C (Kd.int .i64) w A1 l1.length l1) (hc1 : l1.length ≤ c1) (h : spec_ThenRenaming.f k l0 l1 = some (r1, r2)) :
  Calls Try.prog 22 #[.slice A0 l0.length c0, .slice A1 l1.length c1] w fun e w' => ∃ v0_ : Value, e = .returned (.tuple #[v0_, .bool r2]) ∧ Kd.R (Kd.int .i64) 3 w' w.heap.size (fun _ => True) v0_ r1 ∧ Below w.heap.size w w' := by
 have HR0 := Aside0.mk hr0
 have HC0 := Aside0.mk hc0
 clear hr0 hc0
 have HR1 := Aside0.mk hr1
 have HC1 := Aside0.mk hc1
 clear hr1 hc1
 have HB := Aside0.mk (Below.refl w.heap.size w)
 have H := h
 clear h
 unfold spec_ThenRenaming.f at H
 obtain ⟨y131, hy131⟩ : ∃ y_ : List Int, y_ = (([] : List Int)) := ⟨_, rfl⟩
 replace H : ((spec_l20Good.f k l0).bind fun t134 => (if t134 = true then ((spec_l20Good.f k l1).bind fun t135 => (spec_ThenRenaming.j0 k l0 l1 y131 (!t135))) else (spec_ThenRenaming.j0 k l0 l1 y131 true))) = some (r1, r2) := by first | (rw [hy131]; with_reducible exact H) | (have H2_ := (Option.bind_some _ _).symm.trans H; rw [hy131]; with_reducible exact H2_) | (have H2_ := (Option.bind_some _ _).symm.trans H; with_reducible exact H2_) | with_reducible exact H | (rw [hy131]; exact H) | exact H
 have Ny131 := Aside0.mk hy131
 clear hy131
 have HC3 := Aside0.mk H
 clear H
 go_enter Try.func22, Try.ntmps22
 go_upto_region 2 with (first | ((with_reducible refine gate_dst (N := 8) rfl ?_); refine Kd.R_lit (Kd.int .i64) _ 3 ?hg (N := 8) ?hd (xs := ([] : List Int)) (inner := []) (ok := fun _ => True) (okp := fun _ => True) ?hr ?hp (fun _ hk => hk) trivial (Below.refl _ _) (Nat.le_refl _) (by simp) ?_; (case hd => rfl); (case hg => rfl); (case hr => first | (go_simp; done) | (go_simp; rfl)); (case hp => exact (Reps.none _ _)); intro v132 w4 ho5 hb hg_ hnew_; clear hg_ hnew_; (first | rw [← Ny131.out] at ho5 | (simp only [Int.reduceToNat] at ho5; rw [← Ny131.out] at ho5)); have HO133 := Aside0.mk (Kd.R_lower ho5 (below_size (bW HB))); replace HB := uB HB hb; clear hb ho5))
 (try simp only [Act.put, List.setIfInBounds_toArray, List.set_cons_zero, List.set_cons_succ])
 go_cut [16] (fun v16 wc => ∃ (kq : Nat) (x16_2 : Bool), v16 = .bool x16_2 ∧ Aside0 (spec_ThenRenaming.j0 kq l0 l1 y131 x16_2 = some (r1, r2)) ∧ Aside0 (kq ≤ k) ∧ Aside0 (Kd.R (Kd.int .i64) 3 wc w.heap.size (fun _ => True) v132 y131) ∧ Aside0 (Below w.heap.size w wc))
 case first =>
  have H := HC3.out
  clear HC3
  replace H := bA H
  obtain ⟨t134, A6, H⟩ := H
  rcases Bool.eq_false_or_eq_true t134 with rfl | rfl
  ·replace H := iT rfl H
   replace H := bA H
   obtain ⟨t135, A8, H⟩ := H
   have H' := Aside0.mk H
   clear H
   go_wp2_with (first | ((with_reducible refine gC 56 ?_); refine lA (some 10) Try.func56 (spec_l20Good.calls k _ _ l0 true _ ?side1 ?side2 A6.out) ?_; (case side1 => repeat (first | exact (Kd.C_below HR0.out HB.out) | (with_reducible refine Kd.C_alloc ?_ _) | (with_reducible refine Kd.C_drewN ?_ _) | (with_reducible refine Kd.C_drew ?_))); (case side2 => exact HC0.out); rintro _ ⟨nd, rfl⟩) | (go_at_call 56; (with_reducible refine (spec_l20Good.calls k _ _ l1 t135 _ ?side1 ?side2 A8.out).mono ?_); (case side1 => repeat (first | exact (Kd.C_below HR1.out (bW HB)) | (with_reducible refine Kd.C_alloc ?_ _) | (with_reducible refine Kd.C_drewN ?_ _) | (with_reducible refine Kd.C_drew ?_))); (case side2 => exact HC1.out); rintro e w' ⟨rfl, ⟨nd, rfl⟩⟩))
   go_meet
   case rel => exact ⟨_, (!t135), rB, H', leB, ⟨upR HO133.out⟩, (aB HB)⟩
  ·replace H := iF (by decide) H
   have H' := Aside0.mk H
   clear H
   go_wp2_with (first | ((with_reducible refine gC 56 ?_); refine lA (some 10) Try.func56 (spec_l20Good.calls k _ _ l0 false _ ?side1 ?side2 A6.out) ?_; (case side1 => repeat (first | exact (Kd.C_below HR0.out HB.out) | (with_reducible refine Kd.C_alloc ?_ _) | (with_reducible refine Kd.C_drewN ?_ _) | (with_reducible refine Kd.C_drew ?_))); (case side2 => exact HC0.out); rintro _ ⟨nd, rfl⟩))
   go_meet
   case rel => exact ⟨_, (true), rB, H', leB, ⟨upR HO133.out⟩, (aB HB)⟩
 case rest =>
  clear HC3
  try clear c1
  obtain ⟨kq, x16_2, rfl, HA, HJ2, HO_6, HB⟩ := hcut
  cases kq with
  | zero => exact absurd HA.out (by simp [spec_ThenRenaming.j0])
  | succ kj2 =>
   have H := HA.out
   clear HA
   simp only [spec_ThenRenaming.j0] at H
   rcases Bool.eq_false_or_eq_true x16_2 with rfl | rfl
   ·replace H := iT rfl H
    simp only [Option.some.injEq, Prod.mk.injEq] at H
    obtain ⟨rfl, rfl⟩ := H
    go_wp2
    go_ret2
    exact ⟨_, eB, upR HO_6.out, (bW HB)⟩
   ·replace H := iF (by decide) H
    have H' := Aside0.mk H
    clear H
    go_wp2
    go_loopg [6, 7] kj2 (fun kq v6 v7 w' => ∃ (x6_2 : List Int) (x7_2 : Int), v7 = .int .i64 x7_2 ∧ Aside0 (spec_ThenRenaming.l0 kq l0 l1 x6_2 x7_2 = some (r1, r2)) ∧ Aside0 (kq ≤ kj2) ∧ Aside0 (Kd.R (Kd.int .i64) 3 w' w.heap.size (fun _ => True) v6 x6_2) ∧ Aside0 (Below w.heap.size w w'))
    case atStart => exact ⟨(y131), (0), rB, H', ⟨Nat.le_refl _⟩, ⟨upR HO_6.out⟩, (aB HB)⟩
    case round =>
     clear H'
     try clear c1
     obtain ⟨x6_2, x7_2, rfl, HA, HK2, HO_6, HB⟩ := hrel
     cases gk with
     | zero => exact absurd HA.out (by simp [spec_ThenRenaming.l0])
     | succ k2 =>
      have H := HA.out
      clear HA
      simp only [spec_ThenRenaming.l0] at H
      replace H := ifD H
      rcases H with ⟨H, -, c10b0⟩ | ⟨H, -, c10b0⟩
      ·by_cases c11 : 0 ≤ x7_2
       ·rw [if_pos c11] at H
        have c11b0 : decide (0 ≤ x7_2) = true := decide_eq_true c11
        clear c11
        by_cases c12 : 0 ≤ (rd l0 x7_2)
        ·rw [if_pos c12] at H
         have c12b0 : decide (0 ≤ (rd l0 x7_2)) = true := decide_eq_true c12
         clear c12
         by_cases c13 : (rd l0 x7_2) < (l1.length : Int)
         ·rw [if_pos c13] at H
          have c13b0 : decide ((rd l0 x7_2) < (l1.length : Int)) = true := decide_eq_true c13
          clear c13
          by_cases c14 : x6_2.length < 17592186044416
          ·rw [if_pos c14] at H
           have LMc14 := Aside0.mk c14
           clear c14
           obtain ⟨y138, hy138⟩ : ∃ y_ : List Int, y_ = (x6_2 ++ [rd l1 (rd l0 x7_2)]) := ⟨_, rfl⟩
           replace H : (spec_ThenRenaming.l0 k2 l0 l1 y138 (wrap64 (x7_2 + 1))) = some (r1, r2) := by first | (rw [hy138]; with_reducible exact H) | (have H2_ := (Option.bind_some _ _).symm.trans H; rw [hy138]; with_reducible exact H2_) | (have H2_ := (Option.bind_some _ _).symm.trans H; with_reducible exact H2_) | with_reducible exact H | (rw [hy138]; exact H) | exact H
           have Ny138 := Aside0.mk hy138
           clear hy138
           have H' := Aside0.mk H
           clear H
           have p136 : 0 ≤ (x7_2 : Int) := of_decide_eq_true asmB
           have q136 : x7_2 < (l0.length : Int) := of_decide_eq_true asmB
           obtain ⟨ad136, e136, hx136_0⟩ := Kd.at_int HR0.out x7_2 p136 q136
           cases e136
           replace hx136_0 := bx HB.out hx136_0
           replace p136 := eq_true p136
           replace q136 := eq_true q136
           have p137 : 0 ≤ ((rd l0 x7_2) : Int) := of_decide_eq_true asmB
           have q137 : (rd l0 x7_2) < (l1.length : Int) := of_decide_eq_true asmB
           obtain ⟨ad137, e137, hx137_0⟩ := Kd.at_int HR1.out (rd l0 x7_2) p137 q137
           cases e137
           replace hx137_0 := bx HB.out hx137_0
           replace p137 := eq_true p137
           replace q137 := eq_true q137
           go_wp2_with (first | ((with_reducible refine gate_builtin (b := .append) (xs := #[.tmp 24, .tmp 32]) rfl ?_); at_builtin; refine Kd.R_append (Kd.int .i64) (w0 := w) w.heap.size rfl (.tmp 24) (.tmp 32) 22 3 (.int .i64 0) 8 rfl Try.underlying22 info3 rfl (by decide) (by omega) u6 x6_2 (rd l1 (rd l0 x7_2)) [.int .i64 (rd l1 (rd l0 x7_2))] (fun _ => True) (fun _ => False) rfl rfl ?aP (fun _ hk => hk.elim) ?aF ?aO ?aB ?aS ?aL ?_; (case aP => exact rfl); (case aB => exact (bW HB)); (case aF => exact (fun _ _ => trivial)); (case aO => exact (upR HO_6.out)); (case aS => exact (below_size (bW HB))); (case aL => have := LMc14.out; omega); intro v139 w15 ho hb hg hat; rw [← Ny138.out] at ho; have HO140 := Aside0.mk (ho); replace HB := Aside0.mk (hb); clear HO_6; clear ho hb hg hat))
           go_roundg k2
           case measure => have := HJ2.out; have := HK2.out; omega
           case rel => exact ⟨(y138), (wrap64 (x7_2 + 1)), rB, H', ⟨by have := HJ2.out; have := HK2.out; omega⟩, ⟨upR HO140.out⟩, (aB HB)⟩
          ·rw [if_neg c14] at H
           exact absurd H (by simp)
         ·rw [if_neg c13] at H
          exact absurd H (by simp)
        ·rw [if_neg c12] at H
         exact absurd H (by simp)
       ·rw [if_neg c11] at H
        exact absurd H (by simp)
      ·simp only [Option.some.injEq, Prod.mk.injEq] at H
       obtain ⟨rfl, rfl⟩ := H
       go_wp2
       go_ret2
       exact ⟨_, eB, upR HO_6.out, (bW HB)⟩

/-! ### impl_ThenRenaming: function 23 -/
mutual
def impl_ThenRenaming.j0 : Nat → List Int → List Int → Bool → Option (List Int × Bool)
 | 0, _, _, _ => none
 | k + 1, x0, x1, x16 => if x16 = true then (some (([] : List Int), false)) else (impl_ThenRenaming.l0 k x1 ([] : List Int) x0 (x0.length : Int) 0)
def impl_ThenRenaming.l0 : Nat → List Int → List Int → List Int → Int → Int → Option (List Int × Bool)
 | 0, _, _, _, _, _ => none
 | k + 1, x1, x6, x17, x18, x19 => if x19 < x18 then (if 0 ≤ x19 then (if x19 < (x17.length : Int) then (if 0 ≤ (rd x17 x19) then (if (rd x17 x19) < (x1.length : Int) then (if x6.length < 17592186044416 then (impl_ThenRenaming.l0 k x1 (x6 ++ [rd x1 (rd x17 x19)]) x17 x18 (wrap64 (x19 + 1))) else (none)) else (none)) else (none)) else (none)) else (none)) else (some (x6, true))
end
def impl_ThenRenaming.f (k : Nat) (l0 : List Int) (l1 : List Int) : Option (List Int × Bool) := (impl_IsRenaming.f k l0).bind fun t141 => (if t141 = true then ((impl_IsRenaming.f k l1).bind fun t142 => (impl_ThenRenaming.j0 k l0 l1 (!t142))) else (impl_ThenRenaming.j0 k l0 l1 true))
theorem impl_ThenRenaming.mono_l : ∀ k, (∀ y0 y1 y2, LeO (impl_ThenRenaming.j0 k y0 y1 y2) (impl_ThenRenaming.j0 (k + 1) y0 y1 y2)) ∧ (∀ y0 y1 y2 y3 y4, LeO (impl_ThenRenaming.l0 k y0 y1 y2 y3 y4) (impl_ThenRenaming.l0 (k + 1) y0 y1 y2 y3 y4))
 | 0 => ⟨fun _ _ _ r h => by simp [impl_ThenRenaming.j0] at h, fun _ _ _ _ _ r h => by simp [impl_ThenRenaming.l0] at h⟩
 | k + 1 => by
  obtain ⟨ih0, ih1⟩ := impl_ThenRenaming.mono_l k
  refine ⟨?_, ?_⟩
  ·intro y0 y1 y2
   unfold impl_ThenRenaming.j0
   repeat' with_reducible first | apply ih0 | apply ih1 | apply impl_IsRenaming.mono | exact LeO.refl _ | exact LeO.none _ | refine LeO.ite ?_ ?_ | refine LeO.bind ?_ (fun _ => ?_)
  ·intro y0 y1 y2 y3 y4
   unfold impl_ThenRenaming.l0
   repeat' with_reducible first | apply ih0 | apply ih1 | apply impl_IsRenaming.mono | exact LeO.refl _ | exact LeO.none _ | refine LeO.ite ?_ ?_ | refine LeO.bind ?_ (fun _ => ?_)
theorem impl_ThenRenaming.mono : ∀ a0 a1 k, LeO (impl_ThenRenaming.f k a0 a1) (impl_ThenRenaming.f (k + 1) a0 a1) := by
 intro a0 a1 k
 obtain ⟨ih0, ih1⟩ := impl_ThenRenaming.mono_l k
 unfold impl_ThenRenaming.f
 repeat' with_reducible first | apply ih0 | apply ih1 | apply impl_IsRenaming.mono | exact LeO.refl _ | exact LeO.none _ | refine LeO.ite ?_ ?_ | refine LeO.bind ?_ (fun _ => ?_)
set_option maxHeartbeats 8000000 in
set_option maxRecDepth 100000 in
theorem impl_ThenRenaming.calls (k : Nat) (A0 : Option Addr) (c0 : Nat) (l0 : List Int) (A1 : Option Addr) (c1 : Nat) (l1 : List Int) (r1 : List Int) (r2 : Bool) (w : World) (hr0 : Kd.C (Kd.int .i64) w A0 l0.length l0) (hc0 : l0.length ≤ c0) (hr1 : Kd.C (Kd.int .i64) w A1 l1.length l1) (hc1 : l1.length ≤ c1) (h : impl_ThenRenaming.f k l0 l1 = some (r1, r2)) :
  Calls Try.prog 23 #[.slice A0 l0.length c0, .slice A1 l1.length c1] w fun e w' => ∃ v0_ : Value, e = .returned (.tuple #[v0_, .bool r2]) ∧ Kd.R (Kd.int .i64) 3 w' w.heap.size (fun _ => True) v0_ r1 ∧ Below w.heap.size w w' := by
 have HR0 := Aside0.mk hr0
 have HC0 := Aside0.mk hc0
 clear hr0 hc0
 have HR1 := Aside0.mk hr1
 have HC1 := Aside0.mk hc1
 clear hr1 hc1
 have HB := Aside0.mk (Below.refl w.heap.size w)
 have H := h
 clear h
 unfold impl_ThenRenaming.f at H
 have HC3 := Aside0.mk H
 clear H
 go_enter Try.func23, Try.ntmps23
 go_upto_region 1 with (fail)
 go_cut [16] (fun v16 wc => ∃ (kq : Nat) (x16_2 : Bool), v16 = .bool x16_2 ∧ Aside0 (impl_ThenRenaming.j0 kq l0 l1 x16_2 = some (r1, r2)) ∧ Aside0 (kq ≤ k) ∧ Aside0 (Below w.heap.size w wc))
 case first =>
  have H := HC3.out
  clear HC3
  replace H := bA H
  obtain ⟨t141, A4, H⟩ := H
  rcases Bool.eq_false_or_eq_true t141 with rfl | rfl
  ·replace H := iT rfl H
   replace H := bA H
   obtain ⟨t142, A6, H⟩ := H
   have H' := Aside0.mk H
   clear H
   go_wp2_with (first | ((with_reducible refine gC 16 ?_); refine lA (some 10) Try.func16 (impl_IsRenaming.calls k _ _ l0 true _ ?side1 ?side2 A4.out) ?_; (case side1 => repeat (first | exact (Kd.C_below HR0.out HB.out) | (with_reducible refine Kd.C_alloc ?_ _) | (with_reducible refine Kd.C_drewN ?_ _) | (with_reducible refine Kd.C_drew ?_))); (case side2 => exact HC0.out); rintro _ ⟨nd, rfl⟩) | (go_at_call 16; (with_reducible refine (impl_IsRenaming.calls k _ _ l1 t142 _ ?side1 ?side2 A6.out).mono ?_); (case side1 => repeat (first | exact (Kd.C_below HR1.out (bW HB)) | (with_reducible refine Kd.C_alloc ?_ _) | (with_reducible refine Kd.C_drewN ?_ _) | (with_reducible refine Kd.C_drew ?_))); (case side2 => exact HC1.out); rintro e w' ⟨rfl, ⟨nd, rfl⟩⟩))
   go_meet
   case rel => exact ⟨_, (!t142), rB, H', leB, (aB HB)⟩
  ·replace H := iF (by decide) H
   have H' := Aside0.mk H
   clear H
   go_wp2_with (first | ((with_reducible refine gC 16 ?_); refine lA (some 10) Try.func16 (impl_IsRenaming.calls k _ _ l0 false _ ?side1 ?side2 A4.out) ?_; (case side1 => repeat (first | exact (Kd.C_below HR0.out HB.out) | (with_reducible refine Kd.C_alloc ?_ _) | (with_reducible refine Kd.C_drewN ?_ _) | (with_reducible refine Kd.C_drew ?_))); (case side2 => exact HC0.out); rintro _ ⟨nd, rfl⟩))
   go_meet
   case rel => exact ⟨_, (true), rB, H', leB, (aB HB)⟩
 case rest =>
  clear HC3
  try clear c1
  obtain ⟨kq, x16_2, rfl, HA, HJ2, HB⟩ := hcut
  cases kq with
  | zero => exact absurd HA.out (by simp [impl_ThenRenaming.j0])
  | succ kj2 =>
   have H := HA.out
   clear HA
   simp only [impl_ThenRenaming.j0] at H
   rcases Bool.eq_false_or_eq_true x16_2 with rfl | rfl
   ·replace H := iT rfl H
    simp only [Option.some.injEq, Prod.mk.injEq] at H
    obtain ⟨rfl, rfl⟩ := H
    go_wp2
    go_ret2
    exact ⟨_, eB, by first | exact Kd.R_nil _ _ _ _ _ | exact Kd.N_nil _ _ _ _ _ | exact Kd.V_nil _ _ _ _ _ | exact Kd.Q_nil _ _ _ _ _ | exact Kd.S_nil _ _ _ _ _, (bW HB)⟩
   ·replace H := iF (by decide) H
    have H' := Aside0.mk H
    clear H
    go_wp2
    go_loopg [6, 19] kj2 (fun kq v6 v19 w' => ∃ (x6_2 : List Int) (x19_2 : Int), v19 = .int .i64 x19_2 ∧ Aside0 (impl_ThenRenaming.l0 kq l1 x6_2 l0 (l0.length : Int) x19_2 = some (r1, r2)) ∧ Aside0 (kq ≤ kj2) ∧ Aside0 (Kd.R (Kd.int .i64) 3 w' w.heap.size (fun _ => True) v6 x6_2) ∧ Aside0 (Below w.heap.size w w'))
    case atStart => exact ⟨(([] : List Int)), (0), rB, H', ⟨Nat.le_refl _⟩, ⟨by first | exact Kd.R_nil _ _ _ _ _ | exact Kd.N_nil _ _ _ _ _ | exact Kd.V_nil _ _ _ _ _ | exact Kd.Q_nil _ _ _ _ _ | exact Kd.S_nil _ _ _ _ _⟩, (aB HB)⟩
    case round =>
     clear H'
     try clear c1
     obtain ⟨x6_2, x19_2, rfl, HA, HK2, HO_6, HB⟩ := hrel
     cases gk with
     | zero => exact absurd HA.out (by simp [impl_ThenRenaming.l0])
     | succ k2 =>
      have H := HA.out
      clear HA
      simp only [impl_ThenRenaming.l0] at H
      replace H := ifD H
      rcases H with ⟨H, -, c8b0⟩ | ⟨H, -, c8b0⟩
      ·by_cases c9 : 0 ≤ x19_2
       ·rw [if_pos c9] at H
        have c9b0 : decide (0 ≤ x19_2) = true := decide_eq_true c9
        clear c9
        by_cases c10 : x19_2 < (l0.length : Int)
        ·rw [if_pos c10] at H
         have c10b0 : decide (x19_2 < (l0.length : Int)) = true := decide_eq_true c10
         clear c10
         by_cases c11 : 0 ≤ (rd l0 x19_2)
         ·rw [if_pos c11] at H
          have c11b0 : decide (0 ≤ (rd l0 x19_2)) = true := decide_eq_true c11
          clear c11
          by_cases c12 : (rd l0 x19_2) < (l1.length : Int)
          ·rw [if_pos c12] at H
           have c12b0 : decide ((rd l0 x19_2) < (l1.length : Int)) = true := decide_eq_true c12
           clear c12
           by_cases c13 : x6_2.length < 17592186044416
           ·rw [if_pos c13] at H
            have LMc13 := Aside0.mk c13
            clear c13
            obtain ⟨y145, hy145⟩ : ∃ y_ : List Int, y_ = (x6_2 ++ [rd l1 (rd l0 x19_2)]) := ⟨_, rfl⟩
            replace H : (impl_ThenRenaming.l0 k2 l1 y145 l0 (l0.length : Int) (wrap64 (x19_2 + 1))) = some (r1, r2) := by first | (rw [hy145]; with_reducible exact H) | (have H2_ := (Option.bind_some _ _).symm.trans H; rw [hy145]; with_reducible exact H2_) | (have H2_ := (Option.bind_some _ _).symm.trans H; with_reducible exact H2_) | with_reducible exact H | (rw [hy145]; exact H) | exact H
            have Ny145 := Aside0.mk hy145
            clear hy145
            have H' := Aside0.mk H
            clear H
            have p143 : 0 ≤ (x19_2 : Int) := of_decide_eq_true asmB
            have q143 : x19_2 < (l0.length : Int) := of_decide_eq_true asmB
            obtain ⟨ad143, e143, hx143_0⟩ := Kd.at_int HR0.out x19_2 p143 q143
            cases e143
            replace hx143_0 := bx HB.out hx143_0
            replace p143 := eq_true p143
            replace q143 := eq_true q143
            have p144 : 0 ≤ ((rd l0 x19_2) : Int) := of_decide_eq_true asmB
            have q144 : (rd l0 x19_2) < (l1.length : Int) := of_decide_eq_true asmB
            obtain ⟨ad144, e144, hx144_0⟩ := Kd.at_int HR1.out (rd l0 x19_2) p144 q144
            cases e144
            replace hx144_0 := bx HB.out hx144_0
            replace p144 := eq_true p144
            replace q144 := eq_true q144
            go_wp2_with (first | ((with_reducible refine gate_builtin (b := .append) (xs := #[.tmp 23, .tmp 28]) rfl ?_); at_builtin; refine Kd.R_append (Kd.int .i64) (w0 := w) w.heap.size rfl (.tmp 23) (.tmp 28) 22 3 (.int .i64 0) 8 rfl Try.underlying22 info3 rfl (by decide) (by omega) u6 x6_2 (rd l1 (rd l0 x19_2)) [.int .i64 (rd l1 (rd l0 x19_2))] (fun _ => True) (fun _ => False) rfl rfl ?aP (fun _ hk => hk.elim) ?aF ?aO ?aB ?aS ?aL ?_; (case aP => exact rfl); (case aB => exact (bW HB)); (case aF => exact (fun _ _ => trivial)); (case aO => exact (upR HO_6.out)); (case aS => exact (below_size (bW HB))); (case aL => have := LMc13.out; omega); intro v146 w14 ho hb hg hat; rw [← Ny145.out] at ho; have HO147 := Aside0.mk (ho); replace HB := Aside0.mk (hb); clear HO_6; clear ho hb hg hat))
            go_roundg k2
            case measure => have := HJ2.out; have := HK2.out; omega
            case rel => exact ⟨(y145), (wrap64 (x19_2 + 1)), rB, H', ⟨by have := HJ2.out; have := HK2.out; omega⟩, ⟨upR HO147.out⟩, (aB HB)⟩
           ·rw [if_neg c13] at H
            exact absurd H (by simp)
          ·rw [if_neg c12] at H
           exact absurd H (by simp)
         ·rw [if_neg c11] at H
          exact absurd H (by simp)
        ·rw [if_neg c10] at H
         exact absurd H (by simp)
       ·rw [if_neg c9] at H
        exact absurd H (by simp)
      ·simp only [Option.some.injEq, Prod.mk.injEq] at H
       obtain ⟨rfl, rfl⟩ := H
       go_wp2
       go_ret2
       exact ⟨_, eB, upR HO_6.out, (bW HB)⟩

/-! ### spec_l2Bearing: function 112 -/
def spec_l2Bearing.f (a0 : Int) : Option (Bool) := (spec_l1In.f a0 0 359).bind fun t148 => (some t148)
set_option maxHeartbeats 8000000 in
set_option maxRecDepth 100000 in
theorem spec_l2Bearing.calls (a0 : Int) (r : Bool) (w : World) (h : spec_l2Bearing.f a0 = some r) :
  Calls Try.prog 112 #[.int .i64 a0] w fun e w' => e = .returned (.bool r) ∧ Drawn0 w w' := by
 have H := h
 clear h
 unfold spec_l2Bearing.f at H
 replace H := bA H
 obtain ⟨t148, A2, H⟩ := H
 obtain rfl := Option.some.inj H
 go_enter Try.func112, Try.ntmps112
 go_wp2_with (first | ((with_reducible refine gC 105 ?_); refine lA (some 4) Try.func105 (spec_l1In.calls a0 0 359 t148 _ A2.out) ?_; rintro _ ⟨nd, rfl⟩))
 go_ret
 exact ⟨rB, by repeat (first | exact Drawn0.refl _ | apply Drawn0.step)⟩

/-! ### spec_l4Leg: function 92 -/
def spec_l4Leg.f (a0_0 a0_1 a0_2 a0_3 a0_4 : Int) : Option (Bool) := (spec_l4Station.f a0_0).bind fun t150 => (if t150 = true then ((spec_l4Station.f a0_1).bind fun t151 => (if t151 = true then (if a0_0 = a0_1 then (some false) else ((spec_l1In.f a0_2 1 500).bind fun t152 => (if t152 = true then ((spec_l2Bearing.f a0_3).bind fun t153 => (if t153 = true then ((spec_l1In.f a0_4 (-90) 90).bind fun t154 => (some t154)) else (some false))) else (some false)))) else (some false))) else (some false))
set_option maxHeartbeats 8000000 in
set_option maxRecDepth 100000 in
theorem spec_l4Leg.calls (a0_0 a0_1 a0_2 a0_3 a0_4 : Int) (r : Bool) (w : World) (h : spec_l4Leg.f a0_0 a0_1 a0_2 a0_3 a0_4 = some r) :
  Calls Try.prog 92 #[.agg #[.int .i64 a0_0, .int .i64 a0_1, .int .i64 a0_2, .int .i64 a0_3, .int .i64 a0_4]] w fun e w' => e = .returned (.bool r) ∧ Below w.heap.size w w' := by
 have hu70 := Try.underlying70
 have HB := Aside0.mk (Below.refl w.heap.size w)
 have H := h
 clear h
 unfold spec_l4Leg.f at H
 replace H := bA H
 obtain ⟨t150, A2, H⟩ := H
 rcases Bool.eq_false_or_eq_true t150 with rfl | rfl
 ·replace H := iT rfl H
  replace H := bA H
  obtain ⟨t151, A4, H⟩ := H
  rcases Bool.eq_false_or_eq_true t151 with rfl | rfl
  ·replace H := iT rfl H
   replace H := ifI H
   rcases H with ⟨H, -, c6b0, c6b1⟩ | ⟨H, c6, c6b0, c6b1⟩
   ·obtain rfl := Option.some.inj H
    go_enter Try.func92, Try.ntmps92
    go_wp2_with (first | ((with_reducible refine gD 1 ?_); refine bxE 1 70 #[.int .i64 a0_0, .int .i64 a0_1, .int .i64 a0_2, .int .i64 a0_3, .int .i64 a0_4] fun gb149 w7 hg hbox hb => ?_; have BK149 := Aside0.mk hbox; have GE149 := gB HB hg; replace HB := uB HB hb; clear hb hbox hg; have ⟨hcz8_0, hcz8_1, hcz8_2, hcz8_3, hcz8_4, hfz8_0⟩ := cz5 BK149) | ((with_reducible refine gC 88 ?_); refine lA (some 5) Try.func88 (spec_l4Station.calls a0_0 true _ A2.out) ?_; rintro _ ⟨nd, rfl⟩) | (go_at_call 88; (with_reducible refine (spec_l4Station.calls a0_1 true _ A4.out).mono ?_); rintro e w' ⟨rfl, ⟨nd, rfl⟩⟩))
    go_ret
    exact ⟨eB, (bW HB)⟩
   ·replace H := bA H
    obtain ⟨t152, A9, H⟩ := H
    rcases Bool.eq_false_or_eq_true t152 with rfl | rfl
    ·replace H := iT rfl H
     replace H := bA H
     obtain ⟨t153, A11, H⟩ := H
     rcases Bool.eq_false_or_eq_true t153 with rfl | rfl
     ·replace H := iT rfl H
      replace H := bA H
      obtain ⟨t154, A13, H⟩ := H
      obtain rfl := Option.some.inj H
      go_enter Try.func92, Try.ntmps92
      go_wp2_with (first | ((with_reducible refine gD 1 ?_); refine bxE 1 70 #[.int .i64 a0_0, .int .i64 a0_1, .int .i64 a0_2, .int .i64 a0_3, .int .i64 a0_4] fun gb149 w14 hg hbox hb => ?_; have BK149 := Aside0.mk hbox; have GE149 := gB HB hg; replace HB := uB HB hb; clear hb hbox hg; have ⟨hcz15_0, hcz15_1, hcz15_2, hcz15_3, hcz15_4, hfz15_0⟩ := cz5 BK149) | ((with_reducible refine gC 88 ?_); refine lA (some 5) Try.func88 (spec_l4Station.calls a0_0 true _ A2.out) ?_; rintro _ ⟨nd, rfl⟩) | (go_at_call 88; (with_reducible refine (spec_l4Station.calls a0_1 true _ A4.out).mono ?_); rintro e w' ⟨rfl, ⟨nd, rfl⟩⟩) | (go_at_call 105; (with_reducible refine (spec_l1In.calls a0_2 1 500 true _ A9.out).mono ?_); rintro e w' ⟨rfl, ⟨nd, rfl⟩⟩) | (go_at_call 112; (with_reducible refine (spec_l2Bearing.calls a0_3 true _ A11.out).mono ?_); rintro e w' ⟨rfl, ⟨nd, rfl⟩⟩) | (go_at_call 105; (with_reducible refine (spec_l1In.calls a0_4 (-90) 90 t154 _ A13.out).mono ?_); rintro e w' ⟨rfl, ⟨nd, rfl⟩⟩))
      go_ret
      exact ⟨eB, (bW HB)⟩
     ·replace H := iF (by decide) H
      obtain rfl := Option.some.inj H
      go_enter Try.func92, Try.ntmps92
      go_wp2_with (first | ((with_reducible refine gD 1 ?_); refine bxE 1 70 #[.int .i64 a0_0, .int .i64 a0_1, .int .i64 a0_2, .int .i64 a0_3, .int .i64 a0_4] fun gb149 w16 hg hbox hb => ?_; have BK149 := Aside0.mk hbox; have GE149 := gB HB hg; replace HB := uB HB hb; clear hb hbox hg; have ⟨hcz17_0, hcz17_1, hcz17_2, hcz17_3, hcz17_4, hfz17_0⟩ := cz5 BK149) | ((with_reducible refine gC 88 ?_); refine lA (some 5) Try.func88 (spec_l4Station.calls a0_0 true _ A2.out) ?_; rintro _ ⟨nd, rfl⟩) | (go_at_call 88; (with_reducible refine (spec_l4Station.calls a0_1 true _ A4.out).mono ?_); rintro e w' ⟨rfl, ⟨nd, rfl⟩⟩) | (go_at_call 105; (with_reducible refine (spec_l1In.calls a0_2 1 500 true _ A9.out).mono ?_); rintro e w' ⟨rfl, ⟨nd, rfl⟩⟩) | (go_at_call 112; (with_reducible refine (spec_l2Bearing.calls a0_3 false _ A11.out).mono ?_); rintro e w' ⟨rfl, ⟨nd, rfl⟩⟩))
      go_ret
      exact ⟨eB, (bW HB)⟩
    ·replace H := iF (by decide) H
     obtain rfl := Option.some.inj H
     go_enter Try.func92, Try.ntmps92
     go_wp2_with (first | ((with_reducible refine gD 1 ?_); refine bxE 1 70 #[.int .i64 a0_0, .int .i64 a0_1, .int .i64 a0_2, .int .i64 a0_3, .int .i64 a0_4] fun gb149 w18 hg hbox hb => ?_; have BK149 := Aside0.mk hbox; have GE149 := gB HB hg; replace HB := uB HB hb; clear hb hbox hg; have ⟨hcz19_0, hcz19_1, hcz19_2, hcz19_3, hcz19_4, hfz19_0⟩ := cz5 BK149) | ((with_reducible refine gC 88 ?_); refine lA (some 5) Try.func88 (spec_l4Station.calls a0_0 true _ A2.out) ?_; rintro _ ⟨nd, rfl⟩) | (go_at_call 88; (with_reducible refine (spec_l4Station.calls a0_1 true _ A4.out).mono ?_); rintro e w' ⟨rfl, ⟨nd, rfl⟩⟩) | (go_at_call 105; (with_reducible refine (spec_l1In.calls a0_2 1 500 false _ A9.out).mono ?_); rintro e w' ⟨rfl, ⟨nd, rfl⟩⟩))
     go_ret
     exact ⟨eB, (bW HB)⟩
  ·replace H := iF (by decide) H
   obtain rfl := Option.some.inj H
   go_enter Try.func92, Try.ntmps92
   go_wp2_with (first | ((with_reducible refine gD 1 ?_); refine bxE 1 70 #[.int .i64 a0_0, .int .i64 a0_1, .int .i64 a0_2, .int .i64 a0_3, .int .i64 a0_4] fun gb149 w20 hg hbox hb => ?_; have BK149 := Aside0.mk hbox; have GE149 := gB HB hg; replace HB := uB HB hb; clear hb hbox hg; have ⟨hcz21_0, hcz21_1, hcz21_2, hcz21_3, hcz21_4, hfz21_0⟩ := cz5 BK149) | ((with_reducible refine gC 88 ?_); refine lA (some 5) Try.func88 (spec_l4Station.calls a0_0 true _ A2.out) ?_; rintro _ ⟨nd, rfl⟩) | (go_at_call 88; (with_reducible refine (spec_l4Station.calls a0_1 false _ A4.out).mono ?_); rintro e w' ⟨rfl, ⟨nd, rfl⟩⟩))
   go_ret
   exact ⟨eB, (bW HB)⟩
 ·replace H := iF (by decide) H
  obtain rfl := Option.some.inj H
  go_enter Try.func92, Try.ntmps92
  go_wp2_with (first | ((with_reducible refine gD 1 ?_); refine bxE 1 70 #[.int .i64 a0_0, .int .i64 a0_1, .int .i64 a0_2, .int .i64 a0_3, .int .i64 a0_4] fun gb149 w22 hg hbox hb => ?_; have BK149 := Aside0.mk hbox; have GE149 := gB HB hg; replace HB := uB HB hb; clear hb hbox hg; have ⟨hcz23_0, hcz23_1, hcz23_2, hcz23_3, hcz23_4, hfz23_0⟩ := cz5 BK149) | ((with_reducible refine gC 88 ?_); refine lA (some 5) Try.func88 (spec_l4Station.calls a0_0 false _ A2.out) ?_; rintro _ ⟨nd, rfl⟩))
  go_ret
  exact ⟨eB, (bW HB)⟩

/-! ### spec_l4Legs: function 59 -/
def spec_l4Legs.l0 : Nat → List (S70) → Int → Option (Bool)
 | 0, _, _ => none
 | k + 1, x0, x3 => if x3 < (x0.length : Int) then (if 0 ≤ x3 then ((spec_l4Leg.f ((rd_T70 x0 x3).f0) ((rd_T70 x0 x3).f1) ((rd_T70 x0 x3).f2) ((rd_T70 x0 x3).f3) ((rd_T70 x0 x3).f4)).bind fun t156 => (if t156 = true then (spec_l4Legs.l0 k x0 (wrap64 (x3 + 1))) else (some false))) else (none)) else (some (decide ((x0.length : Int) ≤ 12)))
def spec_l4Legs.f (k : Nat) (l0 : List (S70)) : Option (Bool) := spec_l4Legs.l0 k l0 0
theorem spec_l4Legs.mono_l : ∀ k, (∀ y0 y1, LeO (spec_l4Legs.l0 k y0 y1) (spec_l4Legs.l0 (k + 1) y0 y1))
 | 0 => fun _ _ r h => by simp [spec_l4Legs.l0] at h
 | k + 1 => by
  have ih0 := spec_l4Legs.mono_l k
  ·intro y0 y1
   unfold spec_l4Legs.l0
   repeat' with_reducible first | apply ih0 | exact LeO.refl _ | exact LeO.none _ | refine LeO.ite ?_ ?_ | refine LeO.bind ?_ (fun _ => ?_)
theorem spec_l4Legs.mono : ∀ a0 k, LeO (spec_l4Legs.f k a0) (spec_l4Legs.f (k + 1) a0) := by
 intro a0 k
 have ih0 := spec_l4Legs.mono_l k
 unfold spec_l4Legs.f
 repeat' with_reducible first | apply ih0 | exact LeO.refl _ | exact LeO.none _ | refine LeO.ite ?_ ?_ | refine LeO.bind ?_ (fun _ => ?_)
set_option maxHeartbeats 8000000 in
set_option maxRecDepth 100000 in
theorem spec_l4Legs.calls (k : Nat) (A0 : Option Addr) (c0 : Nat) (l0 : List (S70)) (r : Bool) (w : World) (hr0 : Kd.C k70 w A0 l0.length l0) (hc0 : l0.length ≤ c0) (h : spec_l4Legs.f k l0 = some r) :
  Calls Try.prog 59 #[.slice A0 l0.length c0] w fun e w' => e = .returned (.bool r) ∧ Below w.heap.size w w' := by
 have hu70 := Try.underlying70
 have HR0 := Aside0.mk hr0
 have HC0 := Aside0.mk hc0
 clear hr0 hc0
 have HB := Aside0.mk (Below.refl w.heap.size w)
 have H : (spec_l4Legs.l0 k l0 0) = some r := h
 clear h
 have H' := Aside0.mk H
 clear H
 go_enter Try.func59, Try.ntmps59
 go_wp2
 go_loopg [3] k (fun kq v3 w' => ∃ (x3_1 : Int), v3 = .int .i64 x3_1 ∧ Aside0 (spec_l4Legs.l0 kq l0 x3_1 = some r) ∧ Aside0 (kq ≤ k) ∧ Aside0 (Below w.heap.size w w'))
 case atStart => exact ⟨(0), rB, H', ⟨Nat.le_refl _⟩, (aB HB)⟩
 case round =>
  clear H'
  obtain ⟨x3_1, rfl, HA, HK1, HB⟩ := hrel
  cases gk with
  | zero => exact absurd HA.out (by simp [spec_l4Legs.l0])
  | succ k1 =>
   have H := HA.out
   clear HA
   simp only [spec_l4Legs.l0] at H
   replace H := ifD H
   rcases H with ⟨H, -, c2b0⟩ | ⟨H, -, c2b0⟩
   ·by_cases c3 : 0 ≤ x3_1
    ·rw [if_pos c3] at H
     have c3b0 : decide (0 ≤ x3_1) = true := decide_eq_true c3
     clear c3
     replace H := bA H
     obtain ⟨t156, A4, H⟩ := H
     rcases Bool.eq_false_or_eq_true t156 with rfl | rfl
     ·replace H := iT rfl H
      have H' := Aside0.mk H
      clear H
      have p155 : 0 ≤ (x3_1 : Int) := of_decide_eq_true asmB
      have q155 : x3_1 < (l0.length : Int) := of_decide_eq_true asmB
      obtain ⟨ad155, e155, hx155_0, hx155_1, hx155_2, hx155_3, hx155_4⟩ := at_T70 HR0.out x3_1 p155 q155
      cases e155
      replace hx155_0 := bx HB.out hx155_0
      replace hx155_1 := bx HB.out hx155_1
      replace hx155_2 := bx HB.out hx155_2
      replace hx155_3 := bx HB.out hx155_3
      replace hx155_4 := bx HB.out hx155_4
      replace p155 := eq_true p155
      replace q155 := eq_true q155
      go_wp2_with (first | ((with_reducible refine gC 92 ?_); refine lA (some 14) Try.func92 (spec_l4Leg.calls ((rd_T70 l0 x3_1).f0) ((rd_T70 l0 x3_1).f1) ((rd_T70 l0 x3_1).f2) ((rd_T70 l0 x3_1).f3) ((rd_T70 l0 x3_1).f4) true _ A4.out) ?_; intro w6 hb; replace HB := uB HB hb; (try clear hb)))
      go_roundg k1
      case measure => have := HK1.out; omega
      case rel => exact ⟨(wrap64 (x3_1 + 1)), rB, H', ⟨by have := HK1.out; omega⟩, (aB HB)⟩
     ·replace H := iF (by decide) H
      obtain rfl := Option.some.inj H
      have p155 : 0 ≤ (x3_1 : Int) := of_decide_eq_true asmB
      have q155 : x3_1 < (l0.length : Int) := of_decide_eq_true asmB
      obtain ⟨ad155, e155, hx155_0, hx155_1, hx155_2, hx155_3, hx155_4⟩ := at_T70 HR0.out x3_1 p155 q155
      cases e155
      replace hx155_0 := bx HB.out hx155_0
      replace hx155_1 := bx HB.out hx155_1
      replace hx155_2 := bx HB.out hx155_2
      replace hx155_3 := bx HB.out hx155_3
      replace hx155_4 := bx HB.out hx155_4
      replace p155 := eq_true p155
      replace q155 := eq_true q155
      go_wp2_with (first | ((with_reducible refine gC 92 ?_); refine lA (some 14) Try.func92 (spec_l4Leg.calls ((rd_T70 l0 x3_1).f0) ((rd_T70 l0 x3_1).f1) ((rd_T70 l0 x3_1).f2) ((rd_T70 l0 x3_1).f3) ((rd_T70 l0 x3_1).f4) false _ A4.out) ?_; intro w7 hb; replace HB := uB HB hb; (try clear hb)))
      go_ret
      exact ⟨eB, (bW HB)⟩
    ·rw [if_neg c3] at H
     exact absurd H (by simp)
   ·obtain rfl := Option.some.inj H
    go_wp2
    go_ret
    exact ⟨eB, (bW HB)⟩

end Go.Proofs.Ytfaojmabalplfaa.QFnRenamings
