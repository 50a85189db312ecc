/- Contracts of Go functions that FnLeadTrips reaches: the call computes what the plain function says. No condition. -/
import Derived.Test.YtldgjibimolcdaaQFnLeadTripsx0
import Derived.Test.YtldgjibimolcdaaQFnLeadTripsx2
import Derived.Test.YtldgjibimolcdaaQFnLeadTripsx3
namespace Go.Proofs.Ytldgjibimolcdaa.QFnLeadTrips
open Go.RowKit Go.Proofs.YtldgjibimolcdaaW.PrintWords Go.Proofs.YtldgjibimolcdaaW.PrintLast Go.Proofs.YtldgjibimolcdaaW.PrintMore
attribute [local go_sem] max2_int min2_int max_two min_two max_three min_three max_four min_four   -- for this text's walks alone
set_option linter.unusedVariables false
set_option linter.unusedSimpArgs false

/-! ### spec_l18May: function 52 -/
def spec_l18May.f (a0 a1 : Int) : Option (Bool) := if a0 = 0 then (some (a1 == 1)) else (if a0 = 1 then (some (a1 != 1)) else (if a0 = 3 then (some (a1 == 0)) else (some false)))
set_option maxHeartbeats 8000000 in
set_option maxRecDepth 100000 in
theorem spec_l18May.calls (a0 a1 : Int) (r : Bool) (w : World) (h : spec_l18May.f a0 a1 = some r) :
  Calls Try.prog 52 #[.int .i64 a0, .int .i64 a1] w fun e w' => e = .returned (.bool r) ∧ Drawn0 w w' := by
 have H := h
 clear h
 unfold spec_l18May.f at H
 replace H := ifI H
 rcases H with ⟨H, -, c3b0, c3b1⟩ | ⟨H, c3, c3b0, c3b1⟩
 ·obtain rfl := Option.some.inj H
  go_enter Try.func52, Try.ntmps52
  go_wp2
  go_ret
  exact ⟨rB, by repeat (first | exact Drawn0.refl _ | apply Drawn0.step)⟩
 ·replace H := ifI H
  rcases H with ⟨H, -, c4b0, c4b1⟩ | ⟨H, c4, c4b0, c4b1⟩
  ·obtain rfl := Option.some.inj H
   go_enter Try.func52, Try.ntmps52
   go_wp2
   go_ret
   exact ⟨rB, by repeat (first | exact Drawn0.refl _ | apply Drawn0.step)⟩
  ·replace H := ifI H
   rcases H with ⟨H, -, c5b0, c5b1⟩ | ⟨H, c5, c5b0, c5b1⟩
   ·obtain rfl := Option.some.inj H
    go_enter Try.func52, Try.ntmps52
    go_wp2
    go_ret
    exact ⟨rB, by repeat (first | exact Drawn0.refl _ | apply Drawn0.step)⟩
   ·obtain rfl := Option.some.inj H
    go_enter Try.func52, Try.ntmps52
    go_wp2
    go_ret
    exact ⟨rB, by repeat (first | exact Drawn0.refl _ | apply Drawn0.step)⟩

/-! ### spec_ChangeLead: function 28 -/
mutual
def spec_ChangeLead.j0 : Nat → List (S25) → Int → Int → Bool → Option ((List (S25)) × Bool)
 | 0, _, _, _, _ => none
 | k + 1, x0, x1, x2, x18 => if x18 = true then (some ((([] : List (S25))), false)) else (spec_ChangeLead.l0 k x0 x1 x2 0)
def spec_ChangeLead.l0 : Nat → List (S25) → Int → Int → Int → Option ((List (S25)) × Bool)
 | 0, _, _, _, _ => none
 | k + 1, x0, x1, x2, x8 => if x8 < (x0.length : Int) then (if 0 ≤ x8 then (if ((rd_T25 x0 x8).f0) = x1 then ((spec_l18May.f ((rd_T25 x0 x8).f4) x2).bind fun t120 => (if t120 = true then ((some (([] : List (S25)) : List (S25))).bind fun y121 => (if y121.length + x0.length < 3518437208883 then ((some (y121 ++ x0 : List (S25))).bind fun y124 => (if x8 < (y124.length : Int) then (some ((y124.set (x8 : Int).toNat (⟨(rd_T25 y124 x8).f0, (rd_T25 y124 x8).f1, (rd_T25 y124 x8).f2, (rd_T25 y124 x8).f3, x2⟩ : S25)), true)) else (none))) else (none))) else (spec_ChangeLead.l0 k x0 x1 x2 (wrap64 (x8 + 1))))) else (spec_ChangeLead.l0 k x0 x1 x2 (wrap64 (x8 + 1)))) else (none)) else (some ((([] : List (S25))), false))
end
def spec_ChangeLead.f (k : Nat) (l0 : List (S25)) (a1 a2 : Int) : Option ((List (S25)) × Bool) := (spec_l18Good.f k l0).bind fun t113 => (if t113 = true then ((spec_l18State.f a2).bind fun t114 => (spec_ChangeLead.j0 k l0 a1 a2 (!t114))) else (spec_ChangeLead.j0 k l0 a1 a2 true))
theorem spec_ChangeLead.mono_l : ∀ k, (∀ y0 y1 y2 y3, LeO (spec_ChangeLead.j0 k y0 y1 y2 y3) (spec_ChangeLead.j0 (k + 1) y0 y1 y2 y3)) ∧ (∀ y0 y1 y2 y3, LeO (spec_ChangeLead.l0 k y0 y1 y2 y3) (spec_ChangeLead.l0 (k + 1) y0 y1 y2 y3))
 | 0 => ⟨fun _ _ _ _ r h => by simp [spec_ChangeLead.j0] at h, fun _ _ _ _ r h => by simp [spec_ChangeLead.l0] at h⟩
 | k + 1 => by
  obtain ⟨ih0, ih1⟩ := spec_ChangeLead.mono_l k
  refine ⟨?_, ?_⟩
  ·intro y0 y1 y2 y3
   unfold spec_ChangeLead.j0
   repeat' with_reducible first | apply ih0 | apply ih1 | apply spec_l18Good.mono | exact LeO.refl _ | exact LeO.none _ | refine LeO.ite ?_ ?_ | refine LeO.bind ?_ (fun _ => ?_)
  ·intro y0 y1 y2 y3
   unfold spec_ChangeLead.l0
   repeat' with_reducible first | apply ih0 | apply ih1 | apply spec_l18Good.mono | exact LeO.refl _ | exact LeO.none _ | refine LeO.ite ?_ ?_ | refine LeO.bind ?_ (fun _ => ?_)
theorem spec_ChangeLead.mono : ∀ a0 a1 a2 k, LeO (spec_ChangeLead.f k a0 a1 a2) (spec_ChangeLead.f (k + 1) a0 a1 a2) := by
 intro a0 a1 a2 k
 obtain ⟨ih0, ih1⟩ := spec_ChangeLead.mono_l k
 unfold spec_ChangeLead.f
 repeat' with_reducible first | apply ih0 | apply ih1 | apply spec_l18Good.mono | exact LeO.refl _ | exact LeO.none _ | refine LeO.ite ?_ ?_ | refine LeO.bind ?_ (fun _ => ?_)
set_option maxHeartbeats 8000000 in
set_option maxRecDepth 100000 in
theorem spec_ChangeLead.calls (k : Nat) (A0 : Option Addr) (c0 : Nat) (l0 : List (S25)) (a1 a2 : Int) (r1 : List (S25)) (r2 : Bool) (w : World) (hr0 : Kd.C k25 w A0 l0.length l0) (hc0 : l0.length ≤ c0) (h : spec_ChangeLead.f k l0 a1 a2 = some (r1, r2)) :
  Calls Try.prog 28 #[.slice A0 l0.length c0, .int .i64 a1, .int .i64 a2] w fun e w' => ∃ v0_ : Value, e = .returned (.tuple #[v0_, .bool r2]) ∧ Kd.R k25 25 w' w.heap.size (fun _ => True) v0_ r1 ∧ Below w.heap.size w w' := by
 have hu25 := Try.underlying25
 have HR0 := Aside0.mk hr0
 have HC0 := Aside0.mk hc0
 clear hr0 hc0
 have HB := Aside0.mk (Below.refl w.heap.size w)
 have H := h
 clear h
 unfold spec_ChangeLead.f at H
 have HC4 := Aside0.mk H
 clear H
 go_enter Try.func28, Try.ntmps28
 go_upto_region 1 with (fail)
 go_cut [18] (fun v18 wc => ∃ (kq : Nat) (x18_3 : Bool), v18 = .bool x18_3 ∧ Aside0 (spec_ChangeLead.j0 kq l0 a1 a2 x18_3 = some (r1, r2)) ∧ Aside0 (kq ≤ k) ∧ Aside0 (Below w.heap.size w wc))
 case first =>
  have H := HC4.out
  clear HC4
  replace H := bA H
  obtain ⟨t113, A5, H⟩ := H
  rcases Bool.eq_false_or_eq_true t113 with rfl | rfl
  ·replace H := iT rfl H
   replace H := bA H
   obtain ⟨t114, A7, H⟩ := H
   have H' := Aside0.mk H
   clear H
   go_wp2_with (first | ((with_reducible refine gC 48 ?_); refine lA (some 12) Try.func48 (spec_l18Good.calls k _ _ l0 true _ ?side1 ?side2 A5.out) ?_; (case side1 => repeat (first | exact (Kd.C_below HR0.out HB.out) | (with_reducible refine Kd.C_alloc ?_ _) | (with_reducible refine Kd.C_drewN ?_ _) | (with_reducible refine Kd.C_drew ?_))); (case side2 => exact HC0.out); intro w8 hb; replace HB := uB HB hb; (try clear hb); (try clear hk)) | (go_at_call 51; (with_reducible refine (spec_l18State.calls a2 t114 _ A7.out).mono ?_); rintro e w' ⟨rfl, ⟨nd, rfl⟩⟩))
   go_meet
   case rel => exact ⟨_, (!t114), rB, H', leB, (aB HB)⟩
  ·replace H := iF (by decide) H
   have H' := Aside0.mk H
   clear H
   go_wp2_with (first | ((with_reducible refine gC 48 ?_); refine lA (some 12) Try.func48 (spec_l18Good.calls k _ _ l0 false _ ?side1 ?side2 A5.out) ?_; (case side1 => repeat (first | exact (Kd.C_below HR0.out HB.out) | (with_reducible refine Kd.C_alloc ?_ _) | (with_reducible refine Kd.C_drewN ?_ _) | (with_reducible refine Kd.C_drew ?_))); (case side2 => exact HC0.out); intro w9 hb; replace HB := uB HB hb; (try clear hb); (try clear hk)))
   go_meet
   case rel => exact ⟨_, (true), rB, H', leB, (aB HB)⟩
 case rest =>
  clear HC4
  obtain ⟨kq, x18_3, rfl, HA, HJ3, HB⟩ := hcut
  cases kq with
  | zero => exact absurd HA.out (by simp [spec_ChangeLead.j0])
  | succ kj3 =>
   have H := HA.out
   clear HA
   simp only [spec_ChangeLead.j0] at H
   rcases Bool.eq_false_or_eq_true x18_3 with rfl | rfl
   ·replace H := iT rfl H
    obtain ⟨y115, hy115⟩ : ∃ y_ : List (S25), y_ = (([] : List (S25))) := ⟨_, rfl⟩
    replace H : (some (y115, false)) = some (r1, r2) := by first | (rw [hy115]; with_reducible exact H) | (have H2_ := (Option.bind_some _ _).symm.trans H; rw [hy115]; with_reducible exact H2_) | (have H2_ := (Option.bind_some _ _).symm.trans H; with_reducible exact H2_) | with_reducible exact H | (rw [hy115]; exact H) | exact H
    have Ny115 := Aside0.mk hy115
    clear hy115
    simp only [Option.some.injEq, Prod.mk.injEq] at H
    obtain ⟨rfl, rfl⟩ := H
    go_wp2_with (first | ((with_reducible refine gate_dst (N := 19) rfl ?_); refine Kd.R_lit k25 _ 25 ?hg (N := 19) ?hd (xs := ([] : List (S25))) (inner := []) (ok := fun _ => True) (okp := fun _ => True) ?hr ?hp (fun _ hk => hk) trivial (Below.refl _ _) (Nat.le_refl _) (by simp) ?_; (case hd => rfl); (case hg => rfl); (case hr => first | (go_simp; done) | (go_simp; rfl)); (case hp => exact (Reps.none _ _)); intro v116 w11 ho12 hb hg_ hnew_; clear hg_ hnew_; (first | rw [← Ny115.out] at ho12 | (simp only [Int.reduceToNat] at ho12; rw [← Ny115.out] at ho12)); have HO117 := Aside0.mk (Kd.R_lower ho12 (below_size (bW HB))); replace HB := uB HB hb; clear hb ho12))
    go_ret2
    exact ⟨_, eB, upR HO117.out, (bW HB)⟩
   ·replace H := iF (by decide) H
    have H' := Aside0.mk H
    clear H
    go_wp2
    go_loopg [8] kj3 (fun kq v8 w' => ∃ (x8_2 : Int), v8 = .int .i64 x8_2 ∧ Aside0 (spec_ChangeLead.l0 kq l0 a1 a2 x8_2 = some (r1, r2)) ∧ Aside0 (kq ≤ kj3) ∧ Aside0 (Below w.heap.size w w'))
    case atStart => exact ⟨(0), rB, H', ⟨Nat.le_refl _⟩, (aB HB)⟩
    case round =>
     clear H'
     obtain ⟨x8_2, rfl, HA, HK2, HB⟩ := hrel
     cases gk with
     | zero => exact absurd HA.out (by simp [spec_ChangeLead.l0])
     | succ k2 =>
      have H := HA.out
      clear HA
      simp only [spec_ChangeLead.l0] at H
      replace H := ifD H
      rcases H with ⟨H, -, c13b0⟩ | ⟨H, -, c13b0⟩
      ·by_cases c14 : 0 ≤ x8_2
       ·rw [if_pos c14] at H
        have c14b0 : decide (0 ≤ x8_2) = true := decide_eq_true c14
        clear c14
        replace H := ifI H
        rcases H with ⟨H, -, c15b0, c15b1⟩ | ⟨H, c15, c15b0, c15b1⟩
        ·replace H := bA H
         obtain ⟨t120, A16, H⟩ := H
         rcases Bool.eq_false_or_eq_true t120 with rfl | rfl
         ·replace H := iT rfl H
          obtain ⟨y121, hy121⟩ : ∃ y_ : List (S25), y_ = (([] : List (S25))) := ⟨_, rfl⟩
          replace H : (if y121.length + l0.length < 3518437208883 then ((some (y121 ++ l0 : List (S25))).bind fun y124 => (if x8_2 < (y124.length : Int) then (some ((y124.set (x8_2 : Int).toNat (⟨(rd_T25 y124 x8_2).f0, (rd_T25 y124 x8_2).f1, (rd_T25 y124 x8_2).f2, (rd_T25 y124 x8_2).f3, a2⟩ : S25)), true)) else (none))) else (none)) = some (r1, r2) := by first | (rw [hy121]; with_reducible exact H) | (have H2_ := (Option.bind_some _ _).symm.trans H; rw [hy121]; with_reducible exact H2_) | (have H2_ := (Option.bind_some _ _).symm.trans H; with_reducible exact H2_) | with_reducible exact H | (rw [hy121]; exact H) | exact H
          have Ny121 := Aside0.mk hy121
          clear hy121
          by_cases c18 : y121.length + l0.length < 3518437208883
          ·rw [if_pos c18] at H
           have LMc18 := Aside0.mk c18
           clear c18
           obtain ⟨y124, hy124⟩ : ∃ y_ : List (S25), y_ = (y121 ++ l0) := ⟨_, rfl⟩
           replace H : (if x8_2 < (y124.length : Int) then (some ((y124.set (x8_2 : Int).toNat (⟨(rd_T25 y124 x8_2).f0, (rd_T25 y124 x8_2).f1, (rd_T25 y124 x8_2).f2, (rd_T25 y124 x8_2).f3, a2⟩ : S25)), true)) else (none)) = some (r1, r2) := by first | (rw [hy124]; with_reducible exact H) | (have H2_ := (Option.bind_some _ _).symm.trans H; rw [hy124]; with_reducible exact H2_) | (have H2_ := (Option.bind_some _ _).symm.trans H; with_reducible exact H2_) | with_reducible exact H | (rw [hy124]; exact H) | exact H
           have Ny124 := Aside0.mk hy124
           clear hy124
           by_cases c19 : x8_2 < (y124.length : Int)
           ·rw [if_pos c19] at H
            have c19b0 : decide (x8_2 < (y124.length : Int)) = true := decide_eq_true c19
            clear c19
            obtain ⟨y129, hy129⟩ : ∃ y_ : List (S25), y_ = (y124.set (x8_2 : Int).toNat (⟨(rd_T25 y124 x8_2).f0, (rd_T25 y124 x8_2).f1, (rd_T25 y124 x8_2).f2, (rd_T25 y124 x8_2).f3, a2⟩ : S25)) := ⟨_, rfl⟩
            replace H : (some (y129, true)) = some (r1, r2) := by first | (rw [hy129]; with_reducible exact H) | (have H2_ := (Option.bind_some _ _).symm.trans H; rw [hy129]; with_reducible exact H2_) | (have H2_ := (Option.bind_some _ _).symm.trans H; with_reducible exact H2_) | with_reducible exact H | (rw [hy129]; exact H) | exact H
            have Ny129 := Aside0.mk hy129
            clear hy129
            simp only [Option.some.injEq, Prod.mk.injEq] at H
            obtain ⟨rfl, rfl⟩ := H
            have p118 : 0 ≤ (x8_2 : Int) := of_decide_eq_true asmB
            have q118 : x8_2 < (l0.length : Int) := of_decide_eq_true asmB
            obtain ⟨ad118, e118, hx118_0, hx118_1, hx118_2, hx118_3, hx118_4⟩ := at_T25 HR0.out x8_2 p118 q118
            cases e118
            replace hx118_0 := bx HB.out hx118_0
            replace hx118_1 := bx HB.out hx118_1
            replace hx118_2 := bx HB.out hx118_2
            replace hx118_3 := bx HB.out hx118_3
            replace hx118_4 := bx HB.out hx118_4
            replace p118 := eq_true p118
            replace q118 := eq_true q118
            have p119 : 0 ≤ (x8_2 : Int) := of_decide_eq_true asmB
            have q119 : x8_2 < (l0.length : Int) := of_decide_eq_true asmB
            obtain ⟨ad119, e119, hx119_0, hx119_1, hx119_2, hx119_3, hx119_4⟩ := at_T25 HR0.out x8_2 p119 q119
            obtain rfl : ad118 = ad119 := (by injection e119)
            replace hx119_0 := bx HB.out hx119_0
            replace hx119_1 := bx HB.out hx119_1
            replace hx119_2 := bx HB.out hx119_2
            replace hx119_3 := bx HB.out hx119_3
            replace hx119_4 := bx HB.out hx119_4
            replace p119 := eq_true p119
            replace q119 := eq_true q119
            go_wp2_with (first | (go_at_call 52; (with_reducible refine (spec_l18May.calls ((rd_T25 l0 x8_2).f4) a2 true _ A16.out).mono ?_); rintro e w' ⟨rfl, ⟨nd, rfl⟩⟩; (try (rw [drewN_self wr]; generalize hq_ : World.drewN wr _ = wr; have n0_ : Aside0 (Below w.heap.size w wr) := ⟨by rw [← hq_]; exact (bW HB)⟩; clear HB hq_; have HB := n0_; clear n0_))) | ((with_reducible refine gate_dst (N := 42) rfl ?_); refine Kd.R_lit k25 _ 25 ?hg (N := 42) ?hd (xs := ([] : List (S25))) (inner := []) (ok := fun _ => True) (okp := fun _ => True) ?hr ?hp (fun _ hk => hk) trivial (Below.refl _ _) (Nat.le_refl _) (by simp) ?_; (case hd => rfl); (case hg => rfl); (case hr => first | (go_simp; done) | (go_simp; rfl)); (case hp => exact (Reps.none _ _)); intro v122 w21 ho22 hb hg_ hnew_; clear hg_ hnew_; (first | rw [← Ny121.out] at ho22 | (simp only [Int.reduceToNat] at ho22; rw [← Ny121.out] at ho22)); have HO123 := Aside0.mk (Kd.R_lower ho22 (below_size (bW HB))); replace HB := uB HB hb; clear hb ho22) | ((with_reducible refine gate_builtin (b := .append) (xs := #[.tmp 42, .tmp 43]) rfl ?_); at_builtin; refine Kd.R_append_rows k25 (w0 := w) w.heap.size rfl (.tmp 42) (.tmp 43) 31 25 (.agg #[(.int .i64 0), (.int .i64 0), (.int .i64 0), (.int .i64 0), (.int .i64 0)]) 40 rfl Try.underlying31 info25 rfl (by decide) (by omega) v122 y121 l0 _ _ _ (fun _ => True) (fun _ => False) rfl rfl ?aO ?aR (fun _ _ h => h) (fun _ h => h.elim) ?aF ?aB ?aS ?aL ?_; (case aR => repeat (first | exact (Kd.C_below HR0.out HB.out) | (with_reducible refine Kd.C_alloc ?_ _) | (with_reducible refine Kd.C_drewN ?_ _) | (with_reducible refine Kd.C_drew ?_))); (case aB => exact (bW HB)); (case aF => exact (fun _ _ => trivial)); (case aO => exact (upR HO123.out)); (case aS => exact (below_size (bW HB))); (case aL => have := LMc18.out; omega); intro v125 w23 ho hb hg hat; rw [← Ny124.out] at ho; have HO126 := Aside0.mk (ho); replace HB := Aside0.mk (hb); clear HO123; clear ho hb hg hat; obtain ⟨Ao24, co24, eo24⟩ := Kd.R_slice HO126.out; subst eo24; have p127 : 0 ≤ (x8_2 : Int) := of_decide_eq_true asmB; have q127 : x8_2 < (y124.length : Int) := of_decide_eq_true asmB; obtain ⟨ad127, e127, hx127_0, hx127_1, hx127_2, hx127_3, hx127_4⟩ := at_T25 (Kd.R_reads' HO126.out).2.2 x8_2 p127 q127; cases e127; replace p127 := eq_true p127; replace q127 := eq_true q127) | ((with_reducible refine gD 10 ?_); refine bxE 10 25 #[.int .i64 0, .int .i64 0, .int .i64 0, .int .i64 0, .int .i64 0] fun gb128 w25 hg hbox hb => ?_; have BK128 := Aside0.mk hbox; have GE128 := gB HB hg; replace HO126 := Aside0.mk (Kd.R_below (Kd.R_elderB (upR HO126.out) gb128 (Nat.le_of_eq hg.symm)) hb); replace HB := uB HB hb; clear hb hbox hg; have ⟨hcz26_0, hcz26_1, hcz26_2, hcz26_3, hcz26_4, hfz26_0⟩ := cz5 BK128) | ((with_reducible refine gate_store (t := 25) (p := 10) rfl ?_); refine store_event (t := 25) (p := 10) (v := ?vo_w27) (w1 := (((((w25.setCell ⟨gb128, 0, none⟩ (.int .i64 ((rd_T25 y124 x8_2).f0))).setCell ⟨gb128, 1, none⟩ (.int .i64 ((rd_T25 y124 x8_2).f1))).setCell ⟨gb128, 2, none⟩ (.int .i64 ((rd_T25 y124 x8_2).f2))).setCell ⟨gb128, 3, none⟩ (.int .i64 ((rd_T25 y124 x8_2).f3))).setCell ⟨gb128, 4, none⟩ (.int .i64 ((rd_T25 y124 x8_2).f4)))) ?hg ?ho ?hn ?hr ?_; (case ho => rfl); (case hg => rfl); (case hn => rfl); (case hr => first | (go_simp; done) | (go_simp; rfl)); intro w27 hw; have n0_ : Aside0 (Kd.R k25 25 w27 w.heap.size (fun k_ => k_ ≠ gb128) (.slice (some ad127) y124.length co24) y124) := ⟨(by rw [hw]; exact (by (with_reducible repeat (first | apply Kd.R_alloc | apply Kd.R_drewN | apply Kd.R_drew)); exact Kd.R_mono (Kd.R_far (p := ⟨gb128, 4, none⟩) (Kd.R_far (p := ⟨gb128, 3, none⟩) (Kd.R_far (p := ⟨gb128, 2, none⟩) (Kd.R_far (p := ⟨gb128, 1, none⟩) (Kd.R_far (p := ⟨gb128, 0, none⟩) (Kd.R_mono HO126.out (fun k_ hk => (⟨hk, hk.2⟩ : _ ∧ k_ ≠ gb128))) (fun _ hk => hk.2) (.int .i64 ((rd_T25 y124 x8_2).f0))) (fun _ hk => hk.2) (.int .i64 ((rd_T25 y124 x8_2).f1))) (fun _ hk => hk.2) (.int .i64 ((rd_T25 y124 x8_2).f2))) (fun _ hk => hk.2) (.int .i64 ((rd_T25 y124 x8_2).f3))) (fun _ hk => hk.2) (.int .i64 ((rd_T25 y124 x8_2).f4))) (fun _ hk => hk.1.2)))⟩; have n1_ : Aside0 (w27.heap[gb128]? = some (.cells #[.int .i64 ((rd_T25 y124 x8_2).f0), .int .i64 ((rd_T25 y124 x8_2).f1), .int .i64 ((rd_T25 y124 x8_2).f2), .int .i64 ((rd_T25 y124 x8_2).f3), .int .i64 ((rd_T25 y124 x8_2).f4)] 25 (0, 0))) := ⟨(by rw [hw]; exact (by exact pW BK128))⟩; have n2_ : Aside0 (Below w.heap.size w w27) := ⟨(by rw [hw]; exact (bW HB))⟩; clear hw; clear HO126; clear BK128; clear HB; have HO126 := n0_; have BK128 := n1_; have HB := n2_; clear n0_ n1_ n2_; have ⟨hcz28_0, hcz28_1, hcz28_2, hcz28_3, hcz28_4, hfz28_0⟩ := cz5 BK128) | ((with_reducible refine gate_store (t := 3) (p := 50) rfl ?_); refine store_event (t := 3) (p := 50) (v := ?vo_w29) (w1 := (w27.setCell ⟨gb128, 4, none⟩ (.int .i64 a2))) ?hg ?ho ?hn ?hr ?_; (case ho => rfl); (case hg => rfl); (case hn => rfl); (case hr => first | (go_simp; done) | (go_simp; rfl)); intro w29 hw; have n0_ : Aside0 (Kd.R k25 25 w29 w.heap.size (fun k_ => k_ ≠ gb128) (.slice (some ad127) y124.length co24) y124) := ⟨(by rw [hw]; exact (by (with_reducible repeat (first | apply Kd.R_alloc | apply Kd.R_drewN | apply Kd.R_drew)); exact Kd.R_mono (Kd.R_far (p := ⟨gb128, 4, none⟩) (Kd.R_mono HO126.out (fun k_ hk => (⟨hk, hk⟩ : _ ∧ k_ ≠ gb128))) (fun _ hk => hk.2) (.int .i64 a2)) (fun _ hk => hk.1)))⟩; have n1_ : Aside0 (w29.heap[gb128]? = some (.cells #[.int .i64 ((rd_T25 y124 x8_2).f0), .int .i64 ((rd_T25 y124 x8_2).f1), .int .i64 ((rd_T25 y124 x8_2).f2), .int .i64 ((rd_T25 y124 x8_2).f3), .int .i64 a2] 25 (0, 0))) := ⟨(by rw [hw]; exact (by exact pW BK128))⟩; have n2_ : Aside0 (Below w.heap.size w w29) := ⟨(by rw [hw]; exact (bW HB))⟩; clear hw; clear HO126; clear BK128; clear HB; have HO126 := n0_; have BK128 := n1_; have HB := n2_; clear n0_ n1_ n2_; have ⟨hcz30_0, hcz30_1, hcz30_2, hcz30_3, hcz30_4, hfz30_0⟩ := cz5 BK128; have p20 : 0 ≤ (x8_2 : Int) := of_decide_eq_true asmB; have q20 : (x8_2 : Int) < ((y124.length : Int) : Int) := of_decide_eq_true asmB; obtain ⟨go20, co20, eo20, gb20, gl20, cl20, HG20⟩ := Kd.R_form HO126.out (by omega); (first | cases eo20 | (injection eo20 with ea_ en_ ec_; (first | subst ea_ | (injection ea_ with ea_; subst ea_)); subst ec_; clear en_)); have GB20 := Aside0.mk gb20; have GG20 := Aside0.mk HG20; clear gb20 gl20 HG20; (first | simp only [add_plain] at hx127_0 | skip); (first | simp only [add_plain] at hx127_1 | skip); (first | simp only [add_plain] at hx127_2 | skip); (first | simp only [add_plain] at hx127_3 | skip); (first | simp only [add_plain] at hx127_4 | skip); obtain ⟨ce20, hcl20, hM20, hcc20, hfr20⟩ := Kd.R_elem HO126.out z25 (x8_2 : Int) p20 q20; obtain rfl := k25_openM hM20; have hx20_0 : w29.cell? ⟨go20, (x8_2 : Int).toNat * 5, none⟩ = some (.int .i64 ((rd_T25 y124 x8_2).f0)) := hcc20 0 _ rfl; have hx20_1 : w29.cell? ⟨go20, (x8_2 : Int).toNat * 5 + 1, none⟩ = some (.int .i64 ((rd_T25 y124 x8_2).f1)) := hcc20 1 _ rfl; have hx20_2 : w29.cell? ⟨go20, (x8_2 : Int).toNat * 5 + 2, none⟩ = some (.int .i64 ((rd_T25 y124 x8_2).f2)) := hcc20 2 _ rfl; have hx20_3 : w29.cell? ⟨go20, (x8_2 : Int).toNat * 5 + 3, none⟩ = some (.int .i64 ((rd_T25 y124 x8_2).f3)) := hcc20 3 _ rfl; have hx20_4 : w29.cell? ⟨go20, (x8_2 : Int).toNat * 5 + 4, none⟩ = some (.int .i64 ((rd_T25 y124 x8_2).f4)) := hcc20 4 _ rfl; have hf20_0 : w29.frozen? ⟨go20, (x8_2 : Int).toNat * 5, none⟩ = false := hfr20 0; have hf20_1 : w29.frozen? ⟨go20, (x8_2 : Int).toNat * 5 + 1, none⟩ = false := hfr20 1; have hf20_2 : w29.frozen? ⟨go20, (x8_2 : Int).toNat * 5 + 2, none⟩ = false := hfr20 2; have hf20_3 : w29.frozen? ⟨go20, (x8_2 : Int).toNat * 5 + 3, none⟩ = false := hfr20 3; have hf20_4 : w29.frozen? ⟨go20, (x8_2 : Int).toNat * 5 + 4, none⟩ = false := hfr20 4; clear hcl20 hcc20 hfr20 hM20; replace p20 := eq_true p20; replace q20 := eq_true q20; have HX31 := Aside0.mk (show Kd.R k25 25 w29 w.heap.size (fun k_ => k_ ≠ gb128) (.slice (some ⟨go20, 0, none⟩) y124.length co24) y124 from (upR HO126.out)); obtain ⟨ce31, hcl31, hM31, hcc31, hfr31⟩ := Kd.R_elem HX31.out z25 (x8_2 : Int) (of_decide_eq_true asmB) (by have h_ : (x8_2 : Int) < ((y124.length : Int) : Int) := of_decide_eq_true asmB; first | exact h_ | (have e_ := (Kd.R_reads' HO126.out).1; omega) | simpa using h_); obtain rfl := k25_openM hM31; have HP31 := Kd.R_seg HX31.out (x8_2 : Int) (of_decide_eq_true asmB) (by have h_ : (x8_2 : Int) < ((y124.length : Int) : Int) := of_decide_eq_true asmB; first | exact h_ | (have e_ := (Kd.R_reads' HO126.out).1; omega) | simpa using h_) (seg := [.int .i64 ((rd_T25 y124 x8_2).f0), .int .i64 ((rd_T25 y124 x8_2).f1), .int .i64 ((rd_T25 y124 x8_2).f2), .int .i64 ((rd_T25 y124 x8_2).f3), .int .i64 a2]) (j := 0) hcl31 hcc31 (show 5 ≤ 5 from by decide) (x' := (⟨(rd_T25 y124 x8_2).f0, (rd_T25 y124 x8_2).f1, (rd_T25 y124 x8_2).f2, (rd_T25 y124 x8_2).f3, a2⟩ : S25)) (k25_mkM _ _ _ (⟨(rd_T25 y124 x8_2).f0, (rd_T25 y124 x8_2).f1, (rd_T25 y124 x8_2).f2, (rd_T25 y124 x8_2).f3, a2⟩ : S25) ) (fun _ hk => hk); have hx31_0 := hcc31 0 _ rfl; (try simp only [show (k25).sz = 5 from rfl, Nat.mul_one, Nat.add_zero] at hx31_0); have hf31_0 := hfr31 0; (try simp only [show (k25).sz = 5 from rfl, Nat.mul_one, Nat.add_zero] at hf31_0); have hx31_1 := hcc31 1 _ rfl; (try simp only [show (k25).sz = 5 from rfl, Nat.mul_one, Nat.add_zero] at hx31_1); have hf31_1 := hfr31 1; (try simp only [show (k25).sz = 5 from rfl, Nat.mul_one, Nat.add_zero] at hf31_1); have hx31_2 := hcc31 2 _ rfl; (try simp only [show (k25).sz = 5 from rfl, Nat.mul_one, Nat.add_zero] at hx31_2); have hf31_2 := hfr31 2; (try simp only [show (k25).sz = 5 from rfl, Nat.mul_one, Nat.add_zero] at hf31_2); have hx31_3 := hcc31 3 _ rfl; (try simp only [show (k25).sz = 5 from rfl, Nat.mul_one, Nat.add_zero] at hx31_3); have hf31_3 := hfr31 3; (try simp only [show (k25).sz = 5 from rfl, Nat.mul_one, Nat.add_zero] at hf31_3); have hx31_4 := hcc31 4 _ rfl; (try simp only [show (k25).sz = 5 from rfl, Nat.mul_one, Nat.add_zero] at hx31_4); have hf31_4 := hfr31 4; (try simp only [show (k25).sz = 5 from rfl, Nat.mul_one, Nat.add_zero] at hf31_4); clear hcl31 hcc31 hfr31 hM31) | ((with_reducible refine gate_store (t := 25) (p := 54) rfl ?_); refine store_event (t := 25) (p := 54) (v := ?vo_w32) (w1 := (((((w29.setCell ⟨go20, (x8_2 : Int).toNat * 5, none⟩ (.int .i64 ((rd_T25 y124 x8_2).f0))).setCell ⟨go20, (x8_2 : Int).toNat * 5 + 1, none⟩ (.int .i64 ((rd_T25 y124 x8_2).f1))).setCell ⟨go20, (x8_2 : Int).toNat * 5 + 2, none⟩ (.int .i64 ((rd_T25 y124 x8_2).f2))).setCell ⟨go20, (x8_2 : Int).toNat * 5 + 3, none⟩ (.int .i64 ((rd_T25 y124 x8_2).f3))).setCell ⟨go20, (x8_2 : Int).toNat * 5 + 4, none⟩ (.int .i64 a2))) ?hg ?ho ?hn ?hr ?_; (case ho => rfl); (case hg => rfl); (case hn => rfl); (case hr => first | (go_simp; done) | (go_simp; rfl)); intro w32 hw; have hg : w29.grownBy w32 (some go20) := (by rw [hw]; exact HP31.2); have hp_ : Kd.R k25 25 w32 w.heap.size (fun k_ => k_ ≠ gb128) (.slice (some ⟨go20, 0, none⟩) y124.length co24) y129 := (by rw [hw, Ny129.out]; exact HP31.1); clear HP31; replace BK128 := Aside0.mk (blk_grown (g := gb128) (o := .cells #[.int .i64 ((rd_T25 y124 x8_2).f0), .int .i64 ((rd_T25 y124 x8_2).f1), .int .i64 ((rd_T25 y124 x8_2).f2), .int .i64 ((rd_T25 y124 x8_2).f3), .int .i64 a2] 25 (0, 0)) (upK BK128.out) hg (Kd.R_away HO126.out (fun _ hk => hk))); replace HO126 := Aside0.mk (hp_); replace HB := Aside0.mk ((by rw [hw]; exact below_set (below_set (below_set (below_set (below_set (HB.out) GB20.out) GB20.out) GB20.out) GB20.out) GB20.out : Below w.heap.size w w32)); clear hg hw hp_))
            go_ret2
            exact ⟨_, eB, by (with_reducible repeat (first | apply Kd.R_alloc | apply Kd.R_drewN | apply Kd.R_drew)); exact Kd.R_mono HO126.out (fun _ hk => trivial), (bW HB)⟩
           ·rw [if_neg c19] at H
            exact absurd H (by simp)
          ·rw [if_neg c18] at H
           exact absurd H (by simp)
         ·replace H := iF (by decide) H
          have H' := Aside0.mk H
          clear H
          have p118 : 0 ≤ (x8_2 : Int) := of_decide_eq_true asmB
          have q118 : x8_2 < (l0.length : Int) := of_decide_eq_true asmB
          obtain ⟨ad118, e118, hx118_0, hx118_1, hx118_2, hx118_3, hx118_4⟩ := at_T25 HR0.out x8_2 p118 q118
          cases e118
          replace hx118_0 := bx HB.out hx118_0
          replace hx118_1 := bx HB.out hx118_1
          replace hx118_2 := bx HB.out hx118_2
          replace hx118_3 := bx HB.out hx118_3
          replace hx118_4 := bx HB.out hx118_4
          replace p118 := eq_true p118
          replace q118 := eq_true q118
          have p119 : 0 ≤ (x8_2 : Int) := of_decide_eq_true asmB
          have q119 : x8_2 < (l0.length : Int) := of_decide_eq_true asmB
          obtain ⟨ad119, e119, hx119_0, hx119_1, hx119_2, hx119_3, hx119_4⟩ := at_T25 HR0.out x8_2 p119 q119
          obtain rfl : ad118 = ad119 := (by injection e119)
          replace hx119_0 := bx HB.out hx119_0
          replace hx119_1 := bx HB.out hx119_1
          replace hx119_2 := bx HB.out hx119_2
          replace hx119_3 := bx HB.out hx119_3
          replace hx119_4 := bx HB.out hx119_4
          replace p119 := eq_true p119
          replace q119 := eq_true q119
          go_wp2_with (first | (go_at_call 52; (with_reducible refine (spec_l18May.calls ((rd_T25 l0 x8_2).f4) a2 false _ A16.out).mono ?_); rintro e w' ⟨rfl, ⟨nd, rfl⟩⟩))
          go_roundg k2
          case measure => have := HJ3.out; have := HK2.out; omega
          case rel => exact ⟨(wrap64 (x8_2 + 1)), rB, H', ⟨by have := HJ3.out; have := HK2.out; omega⟩, (aB HB)⟩
        ·have H' := Aside0.mk H
         clear H
         have p118 : 0 ≤ (x8_2 : Int) := of_decide_eq_true asmB
         have q118 : x8_2 < (l0.length : Int) := of_decide_eq_true asmB
         obtain ⟨ad118, e118, hx118_0, hx118_1, hx118_2, hx118_3, hx118_4⟩ := at_T25 HR0.out x8_2 p118 q118
         cases e118
         replace hx118_0 := bx HB.out hx118_0
         replace hx118_1 := bx HB.out hx118_1
         replace hx118_2 := bx HB.out hx118_2
         replace hx118_3 := bx HB.out hx118_3
         replace hx118_4 := bx HB.out hx118_4
         replace p118 := eq_true p118
         replace q118 := eq_true q118
         go_wp2
         go_roundg k2
         case measure => have := HJ3.out; have := HK2.out; omega
         case rel => exact ⟨(wrap64 (x8_2 + 1)), rB, H', ⟨by have := HJ3.out; have := HK2.out; omega⟩, (aB HB)⟩
       ·rw [if_neg c14] at H
        exact absurd H (by simp)
      ·obtain ⟨y130, hy130⟩ : ∃ y_ : List (S25), y_ = (([] : List (S25))) := ⟨_, rfl⟩
       replace H : (some (y130, false)) = some (r1, r2) := by first | (rw [hy130]; with_reducible exact H) | (have H2_ := (Option.bind_some _ _).symm.trans H; rw [hy130]; with_reducible exact H2_) | (have H2_ := (Option.bind_some _ _).symm.trans H; with_reducible exact H2_) | with_reducible exact H | (rw [hy130]; exact H) | exact H
       have Ny130 := Aside0.mk hy130
       clear hy130
       simp only [Option.some.injEq, Prod.mk.injEq] at H
       obtain ⟨rfl, rfl⟩ := H
       go_wp2_with (first | ((with_reducible refine gate_dst (N := 56) rfl ?_); refine Kd.R_lit k25 _ 25 ?hg (N := 56) ?hd (xs := ([] : List (S25))) (inner := []) (ok := fun _ => True) (okp := fun _ => True) ?hr ?hp (fun _ hk => hk) trivial (Below.refl _ _) (Nat.le_refl _) (by simp) ?_; (case hd => rfl); (case hg => rfl); (case hr => first | (go_simp; done) | (go_simp; rfl)); (case hp => exact (Reps.none _ _)); intro v131 w33 ho34 hb hg_ hnew_; clear hg_ hnew_; (first | rw [← Ny130.out] at ho34 | (simp only [Int.reduceToNat] at ho34; rw [← Ny130.out] at ho34)); have HO132 := Aside0.mk (Kd.R_lower ho34 (below_size (bW HB))); replace HB := uB HB hb; clear hb ho34))
       go_ret2
       exact ⟨_, eB, upR HO132.out, (bW HB)⟩

/-! ### impl_within: function 60 -/
def impl_within.f (a0 a1 a2 : Int) : Option (Bool) := if a0 ≥ a1 then (some (decide (a0 ≤ a2))) else (some false)
set_option maxHeartbeats 8000000 in
set_option maxRecDepth 100000 in
theorem impl_within.calls (a0 a1 a2 : Int) (r : Bool) (w : World) (h : impl_within.f a0 a1 a2 = some r) :
  Calls Try.prog 60 #[.int .i64 a0, .int .i64 a1, .int .i64 a2] w fun e w' => e = .returned (.bool r) ∧ Drawn0 w w' := by
 have H := h
 clear h
 unfold impl_within.f at H
 replace H := ifD H
 rcases H with ⟨H, -, c4b0⟩ | ⟨H, -, c4b0⟩
 ·obtain rfl := Option.some.inj H
  go_enter Try.func60, Try.ntmps60
  go_wp2
  go_ret
  exact ⟨rB, by repeat (first | exact Drawn0.refl _ | apply Drawn0.step)⟩
 ·obtain rfl := Option.some.inj H
  go_enter Try.func60, Try.ntmps60
  go_wp2
  go_ret
  exact ⟨rB, by repeat (first | exact Drawn0.refl _ | apply Drawn0.step)⟩

/-! ### impl_isId: function 44 -/
def impl_isId.f (a0 : Int) : Option (Bool) := (impl_within.f a0 1 99).bind fun t133 => (some t133)
set_option maxHeartbeats 8000000 in
set_option maxRecDepth 100000 in
theorem impl_isId.calls (a0 : Int) (r : Bool) (w : World) (h : impl_isId.f a0 = some r) :
  Calls Try.prog 44 #[.int .i64 a0] w fun e w' => e = .returned (.bool r) ∧ Drawn0 w w' := by
 have H := h
 clear h
 unfold impl_isId.f at H
 replace H := bA H
 obtain ⟨t133, A2, H⟩ := H
 obtain rfl := Option.some.inj H
 go_enter Try.func44, Try.ntmps44
 go_wp2_with (first | ((with_reducible refine gC 60 ?_); refine lA (some 4) Try.func60 (impl_within.calls a0 1 99 t133 _ A2.out) ?_; rintro _ ⟨nd, rfl⟩))
 go_ret
 exact ⟨rB, by repeat (first | exact Drawn0.refl _ | apply Drawn0.step)⟩

/-! ### impl_isStation: function 45 -/
def impl_isStation.f (a0 : Int) : Option (Bool) := (impl_within.f a0 0 7).bind fun t134 => (some t134)
set_option maxHeartbeats 8000000 in
set_option maxRecDepth 100000 in
theorem impl_isStation.calls (a0 : Int) (r : Bool) (w : World) (h : impl_isStation.f a0 = some r) :
  Calls Try.prog 45 #[.int .i64 a0] w fun e w' => e = .returned (.bool r) ∧ Drawn0 w w' := by
 have H := h
 clear h
 unfold impl_isStation.f at H
 replace H := bA H
 obtain ⟨t134, A2, H⟩ := H
 obtain rfl := Option.some.inj H
 go_enter Try.func45, Try.ntmps45
 go_wp2_with (first | ((with_reducible refine gC 60 ?_); refine lA (some 4) Try.func60 (impl_within.calls a0 0 7 t134 _ A2.out) ?_; rintro _ ⟨nd, rfl⟩))
 go_ret
 exact ⟨rB, by repeat (first | exact Drawn0.refl _ | apply Drawn0.step)⟩

/-! ### impl_isGrade: function 46 -/
def impl_isGrade.f (a0 : Int) : Option (Bool) := (impl_within.f a0 1 9).bind fun t135 => (some t135)
set_option maxHeartbeats 8000000 in
set_option maxRecDepth 100000 in
theorem impl_isGrade.calls (a0 : Int) (r : Bool) (w : World) (h : impl_isGrade.f a0 = some r) :
  Calls Try.prog 46 #[.int .i64 a0] w fun e w' => e = .returned (.bool r) ∧ Drawn0 w w' := by
 have H := h
 clear h
 unfold impl_isGrade.f at H
 replace H := bA H
 obtain ⟨t135, A2, H⟩ := H
 obtain rfl := Option.some.inj H
 go_enter Try.func46, Try.ntmps46
 go_wp2_with (first | ((with_reducible refine gC 60 ?_); refine lA (some 4) Try.func60 (impl_within.calls a0 1 9 t135 _ A2.out) ?_; rintro _ ⟨nd, rfl⟩))
 go_ret
 exact ⟨rB, by repeat (first | exact Drawn0.refl _ | apply Drawn0.step)⟩

/-! ### impl_isState: function 47 -/
def impl_isState.f (a0 : Int) : Option (Bool) := (impl_within.f a0 0 3).bind fun t136 => (some t136)
set_option maxHeartbeats 8000000 in
set_option maxRecDepth 100000 in
theorem impl_isState.calls (a0 : Int) (r : Bool) (w : World) (h : impl_isState.f a0 = some r) :
  Calls Try.prog 47 #[.int .i64 a0] w fun e w' => e = .returned (.bool r) ∧ Drawn0 w w' := by
 have H := h
 clear h
 unfold impl_isState.f at H
 replace H := bA H
 obtain ⟨t136, A2, H⟩ := H
 obtain rfl := Option.some.inj H
 go_enter Try.func47, Try.ntmps47
 go_wp2_with (first | ((with_reducible refine gC 60 ?_); refine lA (some 4) Try.func60 (impl_within.calls a0 0 3 t136 _ A2.out) ?_; rintro _ ⟨nd, rfl⟩))
 go_ret
 exact ⟨rB, by repeat (first | exact Drawn0.refl _ | apply Drawn0.step)⟩

/-! ### impl_IsLead: function 14 -/
def impl_IsLead.f (a0_0 a0_1 a0_2 a0_3 a0_4 : Int) : Option (Bool) := (impl_isId.f a0_0).bind fun t138 => (if t138 = true then ((impl_isStation.f a0_1).bind fun t139 => (if t139 = true then ((impl_isGrade.f a0_2).bind fun t140 => (if t140 = true then ((impl_isGrade.f a0_3).bind fun t141 => (if t141 = true then ((impl_isState.f a0_4).bind fun t142 => (some t142)) else (some false))) else (some false))) else (some false))) else (some false))
set_option maxHeartbeats 8000000 in
set_option maxRecDepth 100000 in
theorem impl_IsLead.calls (a0_0 a0_1 a0_2 a0_3 a0_4 : Int) (r : Bool) (w : World) (h : impl_IsLead.f a0_0 a0_1 a0_2 a0_3 a0_4 = some r) :
  Calls Try.prog 14 #[.agg #[.int .i64 a0_0, .int .i64 a0_1, .int .i64 a0_2, .int .i64 a0_3, .int .i64 a0_4]] w fun e w' => e = .returned (.bool r) ∧ Below w.heap.size w w' := by
 have hu25 := Try.underlying25
 have HB := Aside0.mk (Below.refl w.heap.size w)
 have H := h
 clear h
 unfold impl_IsLead.f at H
 replace H := bA H
 obtain ⟨t138, A2, H⟩ := H
 rcases Bool.eq_false_or_eq_true t138 with rfl | rfl
 ·replace H := iT rfl H
  replace H := bA H
  obtain ⟨t139, A4, H⟩ := H
  rcases Bool.eq_false_or_eq_true t139 with rfl | rfl
  ·replace H := iT rfl H
   replace H := bA H
   obtain ⟨t140, A6, H⟩ := H
   rcases Bool.eq_false_or_eq_true t140 with rfl | rfl
   ·replace H := iT rfl H
    replace H := bA H
    obtain ⟨t141, A8, H⟩ := H
    rcases Bool.eq_false_or_eq_true t141 with rfl | rfl
    ·replace H := iT rfl H
     replace H := bA H
     obtain ⟨t142, A10, H⟩ := H
     obtain rfl := Option.some.inj H
     go_enter Try.func14, Try.ntmps14
     go_wp2_with (first | ((with_reducible refine gD 1 ?_); refine bxE 1 25 #[.int .i64 a0_0, .int .i64 a0_1, .int .i64 a0_2, .int .i64 a0_3, .int .i64 a0_4] fun gb137 w11 hg hbox hb => ?_; have BK137 := Aside0.mk hbox; have GE137 := gB HB hg; replace HB := uB HB hb; clear hb hbox hg; have ⟨hcz12_0, hcz12_1, hcz12_2, hcz12_3, hcz12_4, hfz12_0⟩ := cz5 BK137) | ((with_reducible refine gC 44 ?_); refine lA (some 5) Try.func44 (impl_isId.calls a0_0 true _ A2.out) ?_; rintro _ ⟨nd, rfl⟩) | (go_at_call 45; (with_reducible refine (impl_isStation.calls a0_1 true _ A4.out).mono ?_); rintro e w' ⟨rfl, ⟨nd, rfl⟩⟩) | (go_at_call 46; (with_reducible refine (impl_isGrade.calls a0_2 true _ A6.out).mono ?_); rintro e w' ⟨rfl, ⟨nd, rfl⟩⟩) | (go_at_call 46; (with_reducible refine (impl_isGrade.calls a0_3 true _ A8.out).mono ?_); rintro e w' ⟨rfl, ⟨nd, rfl⟩⟩) | (go_at_call 47; (with_reducible refine (impl_isState.calls a0_4 t142 _ A10.out).mono ?_); rintro e w' ⟨rfl, ⟨nd, rfl⟩⟩))
     go_ret
     exact ⟨eB, (bW HB)⟩
    ·replace H := iF (by decide) H
     obtain rfl := Option.some.inj H
     go_enter Try.func14, Try.ntmps14
     go_wp2_with (first | ((with_reducible refine gD 1 ?_); refine bxE 1 25 #[.int .i64 a0_0, .int .i64 a0_1, .int .i64 a0_2, .int .i64 a0_3, .int .i64 a0_4] fun gb137 w13 hg hbox hb => ?_; have BK137 := Aside0.mk hbox; have GE137 := gB HB hg; replace HB := uB HB hb; clear hb hbox hg; have ⟨hcz14_0, hcz14_1, hcz14_2, hcz14_3, hcz14_4, hfz14_0⟩ := cz5 BK137) | ((with_reducible refine gC 44 ?_); refine lA (some 5) Try.func44 (impl_isId.calls a0_0 true _ A2.out) ?_; rintro _ ⟨nd, rfl⟩) | (go_at_call 45; (with_reducible refine (impl_isStation.calls a0_1 true _ A4.out).mono ?_); rintro e w' ⟨rfl, ⟨nd, rfl⟩⟩) | (go_at_call 46; (with_reducible refine (impl_isGrade.calls a0_2 true _ A6.out).mono ?_); rintro e w' ⟨rfl, ⟨nd, rfl⟩⟩) | (go_at_call 46; (with_reducible refine (impl_isGrade.calls a0_3 false _ A8.out).mono ?_); rintro e w' ⟨rfl, ⟨nd, rfl⟩⟩))
     go_ret
     exact ⟨eB, (bW HB)⟩
   ·replace H := iF (by decide) H
    obtain rfl := Option.some.inj H
    go_enter Try.func14, Try.ntmps14
    go_wp2_with (first | ((with_reducible refine gD 1 ?_); refine bxE 1 25 #[.int .i64 a0_0, .int .i64 a0_1, .int .i64 a0_2, .int .i64 a0_3, .int .i64 a0_4] fun gb137 w15 hg hbox hb => ?_; have BK137 := Aside0.mk hbox; have GE137 := gB HB hg; replace HB := uB HB hb; clear hb hbox hg; have ⟨hcz16_0, hcz16_1, hcz16_2, hcz16_3, hcz16_4, hfz16_0⟩ := cz5 BK137) | ((with_reducible refine gC 44 ?_); refine lA (some 5) Try.func44 (impl_isId.calls a0_0 true _ A2.out) ?_; rintro _ ⟨nd, rfl⟩) | (go_at_call 45; (with_reducible refine (impl_isStation.calls a0_1 true _ A4.out).mono ?_); rintro e w' ⟨rfl, ⟨nd, rfl⟩⟩) | (go_at_call 46; (with_reducible refine (impl_isGrade.calls a0_2 false _ A6.out).mono ?_); rintro e w' ⟨rfl, ⟨nd, rfl⟩⟩))
    go_ret
    exact ⟨eB, (bW HB)⟩
  ·replace H := iF (by decide) H
   obtain rfl := Option.some.inj H
   go_enter Try.func14, Try.ntmps14
   go_wp2_with (first | ((with_reducible refine gD 1 ?_); refine bxE 1 25 #[.int .i64 a0_0, .int .i64 a0_1, .int .i64 a0_2, .int .i64 a0_3, .int .i64 a0_4] fun gb137 w17 hg hbox hb => ?_; have BK137 := Aside0.mk hbox; have GE137 := gB HB hg; replace HB := uB HB hb; clear hb hbox hg; have ⟨hcz18_0, hcz18_1, hcz18_2, hcz18_3, hcz18_4, hfz18_0⟩ := cz5 BK137) | ((with_reducible refine gC 44 ?_); refine lA (some 5) Try.func44 (impl_isId.calls a0_0 true _ A2.out) ?_; rintro _ ⟨nd, rfl⟩) | (go_at_call 45; (with_reducible refine (impl_isStation.calls a0_1 false _ A4.out).mono ?_); rintro e w' ⟨rfl, ⟨nd, rfl⟩⟩))
   go_ret
   exact ⟨eB, (bW HB)⟩
 ·replace H := iF (by decide) H
  obtain rfl := Option.some.inj H
  go_enter Try.func14, Try.ntmps14
  go_wp2_with (first | ((with_reducible refine gD 1 ?_); refine bxE 1 25 #[.int .i64 a0_0, .int .i64 a0_1, .int .i64 a0_2, .int .i64 a0_3, .int .i64 a0_4] fun gb137 w19 hg hbox hb => ?_; have BK137 := Aside0.mk hbox; have GE137 := gB HB hg; replace HB := uB HB hb; clear hb hbox hg; have ⟨hcz20_0, hcz20_1, hcz20_2, hcz20_3, hcz20_4, hfz20_0⟩ := cz5 BK137) | ((with_reducible refine gC 44 ?_); refine lA (some 5) Try.func44 (impl_isId.calls a0_0 false _ A2.out) ?_; rintro _ ⟨nd, rfl⟩))
  go_ret
  exact ⟨eB, (bW HB)⟩

end Go.Proofs.Ytldgjibimolcdaa.QFnLeadTrips
