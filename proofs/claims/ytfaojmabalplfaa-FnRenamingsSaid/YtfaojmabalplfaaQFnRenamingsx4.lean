/- Contracts of Go functions that FnRenamings reaches: the call computes what the plain function says. No condition. -/
import Derived.Test.YtfaojmabalplfaaQFnRenamingsx0
import Derived.Test.YtfaojmabalplfaaQFnRenamingsx2
import Derived.Test.YtfaojmabalplfaaQFnRenamingsx3
namespace Go.Proofs.Ytfaojmabalplfaa.QFnRenamings
open Go.RowKit Go.Proofs.YtfaojmabalplfaaW.PrintWords Go.Proofs.YtfaojmabalplfaaW.PrintLast Go.Proofs.YtfaojmabalplfaaW.PrintMore
attribute [local go_sem] max2_int min2_int max_two min_two max_three min_three max_four min_four   -- for this text's walks alone
set_option linter.unusedVariables false
set_option linter.unusedSimpArgs false

/-! ### spec_l20Rename: function 71 -/
def spec_l20Rename.f (l0 : List (S70)) (l1 : List Int) : Option ((List (S70))) :=
 if l0.length ≤ 1000000 ∧ (∀ i, i < l0.length → (0 ≤ (l0.getD i z70).f0 ∧ (l0.getD i z70).f0 < (l1.length : Int)) ∧ (0 ≤ (l0.getD i z70).f1 ∧ (l0.getD i z70).f1 < (l1.length : Int))) then
  some (l0.map fun x => ⟨rd l1 x.f0, rd l1 x.f1, x.f2, x.f3, x.f4⟩) else none
theorem info_leg : (Try.prog.info? 70).map (fun i => (i.zero, i.size, i.bytes)) = some (some (.agg #[(.int .i64 0), (.int .i64 0), (.int .i64 0), (.int .i64 0), (.int .i64 0)]), 5, 40) := by kernel_rfl
theorem take_succ_getD {α : Type} (xs : List α) (i : Nat) (d : α) (h : i < xs.length) : xs.take (i + 1) = xs.take i ++ [xs.getD i d] := by
 rw [List.take_succ_eq_append_getElem h]
 simp [List.getD, List.getElem?_eq_getElem h]
set_option maxHeartbeats 8000000 in
set_option maxRecDepth 100000 in
theorem spec_l20Rename.calls (A0 : Option Addr) (c0 : Nat) (l0 : List (S70)) (A1 : Option Addr) (c1 : Nat) (l1 : List Int) (r : List (S70)) (w : World) (hr0 : Kd.C k70 w A0 l0.length l0) (hc0 : l0.length ≤ c0) (hr1 : Kd.C (Kd.int .i64) w A1 l1.length l1) (hc1 : l1.length ≤ c1) (h : spec_l20Rename.f l0 l1 = some r) :
  Calls Try.prog 71 #[.slice A0 l0.length c0, .slice A1 l1.length c1] w fun e w' => ∃ v0_ : Value, e = .returned (v0_) ∧ Kd.R k70 70 w' w.heap.size (fun _ => True) v0_ r ∧ Below w.heap.size w w' := by
 have hu := Try.underlying70
 unfold spec_l20Rename.f at h
 split at h
 ·rename_i hb
  obtain ⟨hm, hin⟩ := hb
  obtain rfl := Option.some.inj h
  clear h
  have hin' := Aside0.mk hin
  clear hin
  go_enter Try.func71, Try.ntmps71
  go_wp2_with ((with_reducible refine gate_dst (N := 8) rfl ?_); refine Kd.R_lit k70 _ 70 ?hg (N := 8) ?hd (xs := ([] : List (S70))) (inner := []) (ok := fun _ => True) (okp := fun _ => True) ?hr ?hp (fun _ hk => hk) trivial (Below.refl _ _) (Nat.le_refl _) (by simp) ?_; (case hd => rfl); (case hg => rfl); (case hr => first | (go_simp; done) | (go_simp; rfl)); (case hp => exact (Reps.none _ _)); intro v1 w1 ho hb1 _ _)
  go_loopw [5, 6] (fun v i wr => ∃ j : Nat, j ≤ l0.length ∧ i = .int .i64 j ∧ Kd.R k70 70 wr w.heap.size (fun _ => True) v ((l0.take j).map fun x => ⟨rd l1 x.f0, rd l1 x.f1, x.f2, x.f3, x.f4⟩) ∧ Below w.heap.size w wr) (fun _ i _ => l0.length - (intOf i).toNat)
  case atStart => exact ⟨0, by omega, rfl, by simpa using ho, hb1⟩
  case round =>
   clear ho hb1
   obtain ⟨j, hj, rfl, ho, hb1⟩ := hrel
   by_cases hlt : j < l0.length
   ·obtain ⟨ad, rfl, h0, h1, h2, h3, h4⟩ := at_T70 (Kd.C_below hr0 hb1) (j : Int) (by omega) (by omega)
    have hx : rd_T70 l0 (j : Int) = l0.getD j z70 := by unfold rd_T70; rw [Int.toNat_natCast]
    have hq := hin'.out j hlt
    have ht := take_succ_getD l0 j z70 hlt
    rw [hx] at h0 h1 h2 h3 h4
    generalize l0.getD j z70 = x at h0 h1 h2 h3 h4 hx hq ht
    clear hx
    rw [Int.toNat_natCast] at h0 h1 h2 h3 h4
    obtain ⟨⟨q1, q2⟩, q3, q4⟩ := hq
    obtain ⟨ad1, rfl, g0⟩ := Kd.at_int (Kd.C_below hr1 hb1) x.f0 q1 q2
    obtain ⟨ad2, e2, g1⟩ := Kd.at_int (Kd.C_below hr1 hb1) x.f1 q3 q4
    obtain rfl : ad1 = ad2 := by injection e2
    have hv0 : ∃ v, rd l1 x.f0 = v := ⟨_, rfl⟩
    obtain ⟨v0, hv0⟩ := hv0
    have hv1 : ∃ v, rd l1 x.f1 = v := ⟨_, rfl⟩
    obtain ⟨v1', hv1⟩ := hv1
    rw [hv0] at g0
    rw [hv1] at g1
    have e0 : ((l0.take (j + 1)).map fun x => (⟨rd l1 x.f0, rd l1 x.f1, x.f2, x.f3, x.f4⟩ : S70)) = ((l0.take j).map fun x => (⟨rd l1 x.f0, rd l1 x.f1, x.f2, x.f3, x.f4⟩ : S70)) ++ [⟨v0, v1', x.f2, x.f3, x.f4⟩] := by rw [ht]; simp [hv0, hv1]
    have HE := Aside0.mk e0
    have HO := Aside0.mk ho
    have HB := Aside0.mk hb1
    have hlen : ((l0.take j).map fun x => (⟨rd l1 x.f0, rd l1 x.f1, x.f2, x.f3, x.f4⟩ : S70)).length ≤ 1000000 := by rw [List.length_map, List.length_take]; omega
    have HL := Aside0.mk hlen
    generalize ((l0.take j).map fun x => (⟨rd l1 x.f0, rd l1 x.f1, x.f2, x.f3, x.f4⟩ : S70)) = zs at HO HE HL
    have b0 := World.block_lt_of_cell? wr _ g0
    have b1 := World.block_lt_of_cell? wr _ g1
    have b2 := World.block_lt_of_cell? wr _ h0
    clear e0 ho hb1 hlen ht hv0 hv1
    generalize x.f0 = f0 at *
    generalize x.f1 = f1 at *
    generalize x.f2 = f2 at *
    generalize x.f3 = f3 at *
    generalize x.f4 = f4 at *
    have d1 := decide_eq_true q1
    have d2 := decide_eq_true q2
    have d3 := decide_eq_true q3
    have d4 := decide_eq_true q4
    go_wp2_with ((with_reducible refine gate_builtin (b := .append) (xs := #[.tmp 37, .tmp 39]) rfl ?_); at_builtin; refine Kd.R_append k70 (w0 := w) w.heap.size rfl (.tmp 37) (.tmp 39) 35 70 (.agg #[(.int .i64 0), (.int .i64 0), (.int .i64 0), (.int .i64 0), (.int .i64 0)]) 40 rfl Try.underlying35 info_leg rfl (by decide) (by omega) _ zs (⟨v0, v1', f2, f3, f4⟩ : S70) [.int .i64 v0, .int .i64 v1', .int .i64 f2, .int .i64 f3, .int .i64 f4] (fun _ => True) (fun _ => False) rfl ?aX (k70_mkM _ _ _ _) (fun _ h => h.elim) (fun _ _ => trivial) ?aO ?aB ?aS ?aL ?_; (case aX => show Value.slice (some ⟨wr.heap.size + 1, 0, none⟩) 1 1 = _; simp); (case aO => exact Kd.R_alloc HO.out _); (case aB => exact below_alloc HB.out _); (case aS => exact below_size (below_alloc HB.out _)); (case aL => have := HL.out; omega); intro v3 w3 ho3 hb3 _ _)
    go_roundw
    case rel => exact ⟨j + 1, by omega, by go_num, by rw [HE.out]; exact ho3, hb3⟩
    case measure => simp [intOf]; omega
   ·have hd : l0.take j = l0 := List.take_of_length_le (by omega)
    rw [hd] at ho
    have HO := Aside0.mk ho
    have HB := Aside0.mk hb1
    clear ho hb1 hd
    go_wp2
    go_ret
    exact ⟨_, rfl, HO.out, HB.out⟩
 ·cases h

/-! ### spec_RenameLegs: function 36 -/
def spec_RenameLegs.f (k : Nat) (l0 : List (S70)) (l1 : List Int) : Option ((List (S70)) × Bool) := (spec_l4Legs.f k l0).bind fun t157 => (if t157 = true then ((spec_l20Good.f k l1).bind fun t158 => (if t158 = true then ((spec_l20Rename.f l0 l1).bind fun t159 => (some (t159, true))) else (some ((([] : List (S70))), false)))) else (some ((([] : List (S70))), false)))
theorem spec_RenameLegs.mono : ∀ a0 a1 k, LeO (spec_RenameLegs.f k a0 a1) (spec_RenameLegs.f (k + 1) a0 a1) := by
 intro a0 a1 k
 unfold spec_RenameLegs.f
 repeat' with_reducible first | apply spec_l20Good.mono | apply spec_l4Legs.mono | exact LeO.refl _ | exact LeO.none _ | refine LeO.ite ?_ ?_ | refine LeO.bind ?_ (fun _ => ?_)
set_option maxHeartbeats 8000000 in
set_option maxRecDepth 100000 in
theorem spec_RenameLegs.calls (k : Nat) (A0 : Option Addr) (c0 : Nat) (l0 : List (S70)) (A1 : Option Addr) (c1 : Nat) (l1 : List Int) (r1 : List (S70)) (r2 : Bool) (w : World) (hr0 : Kd.C k70 w A0 l0.length l0) (hc0 : l0.length ≤ c0) (hr1 : Kd.C (Kd.int .i64) w A1 l1.length l1) (hc1 : l1.length ≤ c1) (h : spec_RenameLegs.f k l0 l1 = some (r1, r2)) :
  Calls Try.prog 36 #[.slice A0 l0.length c0, .slice A1 l1.length c1] w fun e w' => ∃ v0_ : Value, e = .returned (.tuple #[v0_, .bool r2]) ∧ Kd.R k70 70 w' w.heap.size (fun _ => True) v0_ r1 ∧ Below w.heap.size w w' := by
 have HR0 := Aside0.mk hr0
 have HC0 := Aside0.mk hc0
 clear hr0 hc0
 have HR1 := Aside0.mk hr1
 have HC1 := Aside0.mk hc1
 clear hr1 hc1
 have HB := Aside0.mk (Below.refl w.heap.size w)
 have H := h
 clear h
 unfold spec_RenameLegs.f at H
 replace H := bA H
 obtain ⟨t157, A3, H⟩ := H
 rcases Bool.eq_false_or_eq_true t157 with rfl | rfl
 ·replace H := iT rfl H
  replace H := bA H
  obtain ⟨t158, A5, H⟩ := H
  rcases Bool.eq_false_or_eq_true t158 with rfl | rfl
  ·replace H := iT rfl H
   replace H := bA H
   obtain ⟨t159, A7, H⟩ := H
   simp only [Option.some.injEq, Prod.mk.injEq] at H
   obtain ⟨rfl, rfl⟩ := H
   go_enter Try.func36, Try.ntmps36
   go_wp2_with (first | ((with_reducible refine gC 59 ?_); refine lA (some 7) Try.func59 (spec_l4Legs.calls k _ _ l0 true _ ?side1 ?side2 A3.out) ?_; (case side1 => repeat (first | exact HR0.out | (with_reducible refine Kd.C_alloc ?_ _) | (with_reducible refine Kd.C_drewN ?_ _) | (with_reducible refine Kd.C_drew ?_))); (case side2 => exact HC0.out); intro w8 hb; replace HB := uB HB hb; (try clear hb); (try clear hk)) | (go_at_call 56; (with_reducible refine (spec_l20Good.calls k _ _ l1 true _ ?side1 ?side2 A5.out).mono ?_); (case side1 => repeat (first | exact (Kd.C_below HR1.out HB.out) | (with_reducible refine Kd.C_alloc ?_ _) | (with_reducible refine Kd.C_drewN ?_ _) | (with_reducible refine Kd.C_drew ?_))); (case side2 => exact HC1.out); rintro e w' ⟨rfl, ⟨nd, rfl⟩⟩) | ((with_reducible refine gate_callee (f := 71) rfl ?_); refine goesL_ (some 17) rfl rfl Try.func71 (by kernel_rfl) rfl #[.slice A0 l0.length c0, .slice A1 l1.length c1] rfl argsB ?_; (with_reducible refine (spec_l20Rename.calls _ _ l0 _ _ l1 t159 _ ?side1 ?side2 ?side3 ?side4 A7.out).mono ?_); (case side1 => repeat (first | exact (Kd.C_below HR0.out (bW HB)) | (with_reducible refine Kd.C_alloc ?_ _) | (with_reducible refine Kd.C_drewN ?_ _) | (with_reducible refine Kd.C_drew ?_))); (case side2 => exact HC0.out); (case side3 => repeat (first | exact (Kd.C_below HR1.out (bW HB)) | (with_reducible refine Kd.C_alloc ?_ _) | (with_reducible refine Kd.C_drewN ?_ _) | (with_reducible refine Kd.C_drew ?_))); (case side4 => exact HC1.out); rintro e w9 ⟨v160, rfl, ho0, hb⟩; refine ⟨_, rfl, ?_⟩; have HO161 := Aside0.mk (Kd.R_lower ho0 (below_size (bW HB))); replace HB := uB HB hb; (try clear hb); (try clear hk); (try clear ho0)))
   go_ret2
   exact ⟨_, eB, upR HO161.out, (bW HB)⟩
  ·replace H := iF (by decide) H
   obtain ⟨y162, hy162⟩ : ∃ y_ : List (S70), y_ = (([] : List (S70))) := ⟨_, rfl⟩
   replace H : (some (y162, false)) = some (r1, r2) := by first | (rw [hy162]; with_reducible exact H) | (have H2_ := (Option.bind_some _ _).symm.trans H; rw [hy162]; with_reducible exact H2_) | (have H2_ := (Option.bind_some _ _).symm.trans H; with_reducible exact H2_) | with_reducible exact H | (rw [hy162]; exact H) | exact H
   have Ny162 := Aside0.mk hy162
   clear hy162
   simp only [Option.some.injEq, Prod.mk.injEq] at H
   obtain ⟨rfl, rfl⟩ := H
   go_enter Try.func36, Try.ntmps36
   go_wp2_with (first | ((with_reducible refine gC 59 ?_); refine lA (some 7) Try.func59 (spec_l4Legs.calls k _ _ l0 true _ ?side1 ?side2 A3.out) ?_; (case side1 => repeat (first | exact HR0.out | (with_reducible refine Kd.C_alloc ?_ _) | (with_reducible refine Kd.C_drewN ?_ _) | (with_reducible refine Kd.C_drew ?_))); (case side2 => exact HC0.out); intro w10 hb; replace HB := uB HB hb; (try clear hb); (try clear hk)) | (go_at_call 56; (with_reducible refine (spec_l20Good.calls k _ _ l1 false _ ?side1 ?side2 A5.out).mono ?_); (case side1 => repeat (first | exact (Kd.C_below HR1.out HB.out) | (with_reducible refine Kd.C_alloc ?_ _) | (with_reducible refine Kd.C_drewN ?_ _) | (with_reducible refine Kd.C_drew ?_))); (case side2 => exact HC1.out); rintro e w' ⟨rfl, ⟨nd, rfl⟩⟩) | ((with_reducible refine gate_dst (N := 14) rfl ?_); refine Kd.R_lit k70 _ 70 ?hg (N := 14) ?hd (xs := ([] : List (S70))) (inner := []) (ok := fun _ => True) (okp := fun _ => True) ?hr ?hp (fun _ hk => hk) trivial (Below.refl _ _) (Nat.le_refl _) (by simp) ?_; (case hd => rfl); (case hg => rfl); (case hr => first | (go_simp; done) | (go_simp; rfl)); (case hp => exact (Reps.none _ _)); intro v163 w11 ho12 hb hg_ hnew_; clear hg_ hnew_; (first | rw [← Ny162.out] at ho12 | (simp only [Int.reduceToNat] at ho12; rw [← Ny162.out] at ho12)); have HO164 := Aside0.mk (Kd.R_lower ho12 (below_size (bW HB))); replace HB := uB HB hb; clear hb ho12))
   go_ret2
   exact ⟨_, eB, upR HO164.out, (bW HB)⟩
 ·replace H := iF (by decide) H
  obtain ⟨y165, hy165⟩ : ∃ y_ : List (S70), y_ = (([] : List (S70))) := ⟨_, rfl⟩
  replace H : (some (y165, false)) = some (r1, r2) := by first | (rw [hy165]; with_reducible exact H) | (have H2_ := (Option.bind_some _ _).symm.trans H; rw [hy165]; with_reducible exact H2_) | (have H2_ := (Option.bind_some _ _).symm.trans H; with_reducible exact H2_) | with_reducible exact H | (rw [hy165]; exact H) | exact H
  have Ny165 := Aside0.mk hy165
  clear hy165
  simp only [Option.some.injEq, Prod.mk.injEq] at H
  obtain ⟨rfl, rfl⟩ := H
  go_enter Try.func36, Try.ntmps36
  go_wp2_with (first | ((with_reducible refine gC 59 ?_); refine lA (some 7) Try.func59 (spec_l4Legs.calls k _ _ l0 false _ ?side1 ?side2 A3.out) ?_; (case side1 => repeat (first | exact HR0.out | (with_reducible refine Kd.C_alloc ?_ _) | (with_reducible refine Kd.C_drewN ?_ _) | (with_reducible refine Kd.C_drew ?_))); (case side2 => exact HC0.out); intro w13 hb; replace HB := uB HB hb; (try clear hb); (try clear hk)) | ((with_reducible refine gate_dst (N := 14) rfl ?_); refine Kd.R_lit k70 _ 70 ?hg (N := 14) ?hd (xs := ([] : List (S70))) (inner := []) (ok := fun _ => True) (okp := fun _ => True) ?hr ?hp (fun _ hk => hk) trivial (Below.refl _ _) (Nat.le_refl _) (by simp) ?_; (case hd => rfl); (case hg => rfl); (case hr => first | (go_simp; done) | (go_simp; rfl)); (case hp => exact (Reps.none _ _)); intro v166 w14 ho15 hb hg_ hnew_; clear hg_ hnew_; (first | rw [← Ny165.out] at ho15 | (simp only [Int.reduceToNat] at ho15; rw [← Ny165.out] at ho15)); have HO167 := Aside0.mk (Kd.R_lower ho15 (below_size (bW HB))); replace HB := uB HB hb; clear hb ho15))
  go_ret2
  exact ⟨_, eB, upR HO167.out, (bW HB)⟩

/-! ### impl_isBearing: function 110 -/
def impl_isBearing.f (a0 : Int) : Option (Bool) := (impl_within.f a0 0 359).bind fun t168 => (some t168)
set_option maxHeartbeats 8000000 in
set_option maxRecDepth 100000 in
theorem impl_isBearing.calls (a0 : Int) (r : Bool) (w : World) (h : impl_isBearing.f a0 = some r) :
  Calls Try.prog 110 #[.int .i64 a0] w fun e w' => e = .returned (.bool r) ∧ Drawn0 w w' := by
 have H := h
 clear h
 unfold impl_isBearing.f at H
 replace H := bA H
 obtain ⟨t168, A2, H⟩ := H
 obtain rfl := Option.some.inj H
 go_enter Try.func110, Try.ntmps110
 go_wp2_with (first | ((with_reducible refine gC 90 ?_); refine lA (some 4) Try.func90 (impl_within.calls a0 0 359 t168 _ A2.out) ?_; rintro _ ⟨nd, rfl⟩))
 go_ret
 exact ⟨rB, by repeat (first | exact Drawn0.refl _ | apply Drawn0.step)⟩

/-! ### impl_IsLeg: function 87 -/
def impl_IsLeg.f (a0_0 a0_1 a0_2 a0_3 a0_4 : Int) : Option (Bool) := (impl_isStation.f a0_0).bind fun t170 => (if t170 = true then ((impl_isStation.f a0_1).bind fun t171 => (if t171 = true then (if a0_0 = a0_1 then (some false) else ((impl_within.f a0_2 1 500).bind fun t172 => (if t172 = true then ((impl_isBearing.f a0_3).bind fun t173 => (if t173 = true then ((impl_within.f a0_4 (-90) 90).bind fun t174 => (some t174)) else (some false))) else (some false)))) else (some false))) else (some false))
set_option maxHeartbeats 8000000 in
set_option maxRecDepth 100000 in
theorem impl_IsLeg.calls (a0_0 a0_1 a0_2 a0_3 a0_4 : Int) (r : Bool) (w : World) (h : impl_IsLeg.f a0_0 a0_1 a0_2 a0_3 a0_4 = some r) :
  Calls Try.prog 87 #[.agg #[.int .i64 a0_0, .int .i64 a0_1, .int .i64 a0_2, .int .i64 a0_3, .int .i64 a0_4]] w fun e w' => e = .returned (.bool r) ∧ Below w.heap.size w w' := by
 have hu70 := Try.underlying70
 have HB := Aside0.mk (Below.refl w.heap.size w)
 have H := h
 clear h
 unfold impl_IsLeg.f at H
 replace H := bA H
 obtain ⟨t170, A2, H⟩ := H
 rcases Bool.eq_false_or_eq_true t170 with rfl | rfl
 ·replace H := iT rfl H
  replace H := bA H
  obtain ⟨t171, A4, H⟩ := H
  rcases Bool.eq_false_or_eq_true t171 with rfl | rfl
  ·replace H := iT rfl H
   replace H := ifI H
   rcases H with ⟨H, -, c6b0, c6b1⟩ | ⟨H, c6, c6b0, c6b1⟩
   ·obtain rfl := Option.some.inj H
    go_enter Try.func87, Try.ntmps87
    go_wp2_with (first | ((with_reducible refine gD 1 ?_); refine bxE 1 70 #[.int .i64 a0_0, .int .i64 a0_1, .int .i64 a0_2, .int .i64 a0_3, .int .i64 a0_4] fun gb169 w7 hg hbox hb => ?_; have BK169 := Aside0.mk hbox; have GE169 := gB HB hg; replace HB := uB HB hb; clear hb hbox hg; have ⟨hcz8_0, hcz8_1, hcz8_2, hcz8_3, hcz8_4, hfz8_0⟩ := cz5 BK169) | ((with_reducible refine gC 57 ?_); refine lA (some 5) Try.func57 (impl_isStation.calls a0_0 true _ A2.out) ?_; rintro _ ⟨nd, rfl⟩) | (go_at_call 57; (with_reducible refine (impl_isStation.calls a0_1 true _ A4.out).mono ?_); rintro e w' ⟨rfl, ⟨nd, rfl⟩⟩))
    go_ret
    exact ⟨eB, (bW HB)⟩
   ·replace H := bA H
    obtain ⟨t172, A9, H⟩ := H
    rcases Bool.eq_false_or_eq_true t172 with rfl | rfl
    ·replace H := iT rfl H
     replace H := bA H
     obtain ⟨t173, A11, H⟩ := H
     rcases Bool.eq_false_or_eq_true t173 with rfl | rfl
     ·replace H := iT rfl H
      replace H := bA H
      obtain ⟨t174, A13, H⟩ := H
      obtain rfl := Option.some.inj H
      go_enter Try.func87, Try.ntmps87
      go_wp2_with (first | ((with_reducible refine gD 1 ?_); refine bxE 1 70 #[.int .i64 a0_0, .int .i64 a0_1, .int .i64 a0_2, .int .i64 a0_3, .int .i64 a0_4] fun gb169 w14 hg hbox hb => ?_; have BK169 := Aside0.mk hbox; have GE169 := gB HB hg; replace HB := uB HB hb; clear hb hbox hg; have ⟨hcz15_0, hcz15_1, hcz15_2, hcz15_3, hcz15_4, hfz15_0⟩ := cz5 BK169) | ((with_reducible refine gC 57 ?_); refine lA (some 5) Try.func57 (impl_isStation.calls a0_0 true _ A2.out) ?_; rintro _ ⟨nd, rfl⟩) | (go_at_call 57; (with_reducible refine (impl_isStation.calls a0_1 true _ A4.out).mono ?_); rintro e w' ⟨rfl, ⟨nd, rfl⟩⟩) | (go_at_call 90; (with_reducible refine (impl_within.calls a0_2 1 500 true _ A9.out).mono ?_); rintro e w' ⟨rfl, ⟨nd, rfl⟩⟩) | (go_at_call 110; (with_reducible refine (impl_isBearing.calls a0_3 true _ A11.out).mono ?_); rintro e w' ⟨rfl, ⟨nd, rfl⟩⟩) | (go_at_call 90; (with_reducible refine (impl_within.calls a0_4 (-90) 90 t174 _ A13.out).mono ?_); rintro e w' ⟨rfl, ⟨nd, rfl⟩⟩))
      go_ret
      exact ⟨eB, (bW HB)⟩
     ·replace H := iF (by decide) H
      obtain rfl := Option.some.inj H
      go_enter Try.func87, Try.ntmps87
      go_wp2_with (first | ((with_reducible refine gD 1 ?_); refine bxE 1 70 #[.int .i64 a0_0, .int .i64 a0_1, .int .i64 a0_2, .int .i64 a0_3, .int .i64 a0_4] fun gb169 w16 hg hbox hb => ?_; have BK169 := Aside0.mk hbox; have GE169 := gB HB hg; replace HB := uB HB hb; clear hb hbox hg; have ⟨hcz17_0, hcz17_1, hcz17_2, hcz17_3, hcz17_4, hfz17_0⟩ := cz5 BK169) | ((with_reducible refine gC 57 ?_); refine lA (some 5) Try.func57 (impl_isStation.calls a0_0 true _ A2.out) ?_; rintro _ ⟨nd, rfl⟩) | (go_at_call 57; (with_reducible refine (impl_isStation.calls a0_1 true _ A4.out).mono ?_); rintro e w' ⟨rfl, ⟨nd, rfl⟩⟩) | (go_at_call 90; (with_reducible refine (impl_within.calls a0_2 1 500 true _ A9.out).mono ?_); rintro e w' ⟨rfl, ⟨nd, rfl⟩⟩) | (go_at_call 110; (with_reducible refine (impl_isBearing.calls a0_3 false _ A11.out).mono ?_); rintro e w' ⟨rfl, ⟨nd, rfl⟩⟩))
      go_ret
      exact ⟨eB, (bW HB)⟩
    ·replace H := iF (by decide) H
     obtain rfl := Option.some.inj H
     go_enter Try.func87, Try.ntmps87
     go_wp2_with (first | ((with_reducible refine gD 1 ?_); refine bxE 1 70 #[.int .i64 a0_0, .int .i64 a0_1, .int .i64 a0_2, .int .i64 a0_3, .int .i64 a0_4] fun gb169 w18 hg hbox hb => ?_; have BK169 := Aside0.mk hbox; have GE169 := gB HB hg; replace HB := uB HB hb; clear hb hbox hg; have ⟨hcz19_0, hcz19_1, hcz19_2, hcz19_3, hcz19_4, hfz19_0⟩ := cz5 BK169) | ((with_reducible refine gC 57 ?_); refine lA (some 5) Try.func57 (impl_isStation.calls a0_0 true _ A2.out) ?_; rintro _ ⟨nd, rfl⟩) | (go_at_call 57; (with_reducible refine (impl_isStation.calls a0_1 true _ A4.out).mono ?_); rintro e w' ⟨rfl, ⟨nd, rfl⟩⟩) | (go_at_call 90; (with_reducible refine (impl_within.calls a0_2 1 500 false _ A9.out).mono ?_); rintro e w' ⟨rfl, ⟨nd, rfl⟩⟩))
     go_ret
     exact ⟨eB, (bW HB)⟩
  ·replace H := iF (by decide) H
   obtain rfl := Option.some.inj H
   go_enter Try.func87, Try.ntmps87
   go_wp2_with (first | ((with_reducible refine gD 1 ?_); refine bxE 1 70 #[.int .i64 a0_0, .int .i64 a0_1, .int .i64 a0_2, .int .i64 a0_3, .int .i64 a0_4] fun gb169 w20 hg hbox hb => ?_; have BK169 := Aside0.mk hbox; have GE169 := gB HB hg; replace HB := uB HB hb; clear hb hbox hg; have ⟨hcz21_0, hcz21_1, hcz21_2, hcz21_3, hcz21_4, hfz21_0⟩ := cz5 BK169) | ((with_reducible refine gC 57 ?_); refine lA (some 5) Try.func57 (impl_isStation.calls a0_0 true _ A2.out) ?_; rintro _ ⟨nd, rfl⟩) | (go_at_call 57; (with_reducible refine (impl_isStation.calls a0_1 false _ A4.out).mono ?_); rintro e w' ⟨rfl, ⟨nd, rfl⟩⟩))
   go_ret
   exact ⟨eB, (bW HB)⟩
 ·replace H := iF (by decide) H
  obtain rfl := Option.some.inj H
  go_enter Try.func87, Try.ntmps87
  go_wp2_with (first | ((with_reducible refine gD 1 ?_); refine bxE 1 70 #[.int .i64 a0_0, .int .i64 a0_1, .int .i64 a0_2, .int .i64 a0_3, .int .i64 a0_4] fun gb169 w22 hg hbox hb => ?_; have BK169 := Aside0.mk hbox; have GE169 := gB HB hg; replace HB := uB HB hb; clear hb hbox hg; have ⟨hcz23_0, hcz23_1, hcz23_2, hcz23_3, hcz23_4, hfz23_0⟩ := cz5 BK169) | ((with_reducible refine gC 57 ?_); refine lA (some 5) Try.func57 (impl_isStation.calls a0_0 false _ A2.out) ?_; rintro _ ⟨nd, rfl⟩))
  go_ret
  exact ⟨eB, (bW HB)⟩

/-! ### impl_areLegs: function 62 -/
def impl_areLegs.l0 : Nat → List (S70) → List (S70) → Int → Int → Option (Bool)
 | 0, _, _, _, _ => none
 | k + 1, x0, x5, x6, x7 => if x7 < x6 then (if 0 ≤ x7 then (if x7 < (x5.length : Int) then ((impl_IsLeg.f ((rd_T70 x5 x7).f0) ((rd_T70 x5 x7).f1) ((rd_T70 x5 x7).f2) ((rd_T70 x5 x7).f3) ((rd_T70 x5 x7).f4)).bind fun t177 => (if t177 = true then (impl_areLegs.l0 k x0 x5 x6 (wrap64 (x7 + 1))) else (some false))) else (none)) else (none)) else (some (decide ((x0.length : Int) ≤ 12)))
def impl_areLegs.f (k : Nat) (l0 : List (S70)) : Option (Bool) := impl_areLegs.l0 k l0 l0 (l0.length : Int) 0
theorem impl_areLegs.mono_l : ∀ k, (∀ y0 y1 y2 y3, LeO (impl_areLegs.l0 k y0 y1 y2 y3) (impl_areLegs.l0 (k + 1) y0 y1 y2 y3))
 | 0 => fun _ _ _ _ r h => by simp [impl_areLegs.l0] at h
 | k + 1 => by
  have ih0 := impl_areLegs.mono_l k
  ·intro y0 y1 y2 y3
   unfold impl_areLegs.l0
   repeat' with_reducible first | apply ih0 | exact LeO.refl _ | exact LeO.none _ | refine LeO.ite ?_ ?_ | refine LeO.bind ?_ (fun _ => ?_)
theorem impl_areLegs.mono : ∀ a0 k, LeO (impl_areLegs.f k a0) (impl_areLegs.f (k + 1) a0) := by
 intro a0 k
 have ih0 := impl_areLegs.mono_l k
 unfold impl_areLegs.f
 repeat' with_reducible first | apply ih0 | exact LeO.refl _ | exact LeO.none _ | refine LeO.ite ?_ ?_ | refine LeO.bind ?_ (fun _ => ?_)
set_option maxHeartbeats 8000000 in
set_option maxRecDepth 100000 in
theorem impl_areLegs.calls (k : Nat) (A0 : Option Addr) (c0 : Nat) (l0 : List (S70)) (r : Bool) (w : World) (hr0 : Kd.C k70 w A0 l0.length l0) (hc0 : l0.length ≤ c0) (h : impl_areLegs.f k l0 = some r) :
  Calls Try.prog 62 #[.slice A0 l0.length c0] w fun e w' => e = .returned (.bool r) ∧ Below w.heap.size w w' := by
 have hu70 := Try.underlying70
 have HR0 := Aside0.mk hr0
 have HC0 := Aside0.mk hc0
 clear hr0 hc0
 have HB := Aside0.mk (Below.refl w.heap.size w)
 have H : (impl_areLegs.l0 k l0 l0 (l0.length : Int) 0) = some r := h
 clear h
 have H' := Aside0.mk H
 clear H
 go_enter Try.func62, Try.ntmps62
 go_wp2
 go_loopg [7] k (fun kq v7 w' => ∃ (x7_1 : Int), v7 = .int .i64 x7_1 ∧ Aside0 (impl_areLegs.l0 kq l0 l0 (l0.length : Int) x7_1 = some r) ∧ Aside0 (kq ≤ k) ∧ Aside0 (Below w.heap.size w w'))
 case atStart => exact ⟨(0), rB, H', ⟨Nat.le_refl _⟩, (aB HB)⟩
 case round =>
  clear H'
  obtain ⟨x7_1, rfl, HA, HK1, HB⟩ := hrel
  cases gk with
  | zero => exact absurd HA.out (by simp [impl_areLegs.l0])
  | succ k1 =>
   have H := HA.out
   clear HA
   simp only [impl_areLegs.l0] at H
   replace H := ifD H
   rcases H with ⟨H, -, c2b0⟩ | ⟨H, -, c2b0⟩
   ·by_cases c3 : 0 ≤ x7_1
    ·rw [if_pos c3] at H
     have c3b0 : decide (0 ≤ x7_1) = true := decide_eq_true c3
     clear c3
     by_cases c4 : x7_1 < (l0.length : Int)
     ·rw [if_pos c4] at H
      have c4b0 : decide (x7_1 < (l0.length : Int)) = true := decide_eq_true c4
      clear c4
      replace H := bA H
      obtain ⟨t177, A5, H⟩ := H
      rcases Bool.eq_false_or_eq_true t177 with rfl | rfl
      ·replace H := iT rfl H
       have H' := Aside0.mk H
       clear H
       have p175 : 0 ≤ (x7_1 : Int) := of_decide_eq_true asmB
       have q175 : x7_1 < (l0.length : Int) := of_decide_eq_true asmB
       obtain ⟨ad175, e175, hx175_0, hx175_1, hx175_2, hx175_3, hx175_4⟩ := at_T70 HR0.out x7_1 p175 q175
       cases e175
       replace hx175_0 := bx HB.out hx175_0
       replace hx175_1 := bx HB.out hx175_1
       replace hx175_2 := bx HB.out hx175_2
       replace hx175_3 := bx HB.out hx175_3
       replace hx175_4 := bx HB.out hx175_4
       replace p175 := eq_true p175
       replace q175 := eq_true q175
       go_wp2_with (first | ((with_reducible refine gD 4 ?_); refine bxE 4 70 #[.int .i64 0, .int .i64 0, .int .i64 0, .int .i64 0, .int .i64 0] fun gb176 w7 hg hbox hb => ?_; have BK176 := Aside0.mk hbox; have GE176 := gB HB hg; replace HB := uB HB hb; clear hb hbox hg; have ⟨hcz8_0, hcz8_1, hcz8_2, hcz8_3, hcz8_4, hfz8_0⟩ := cz5 BK176) | ((with_reducible refine gC 87 ?_); refine lA (some 12) Try.func87 (impl_IsLeg.calls ((rd_T70 l0 x7_1).f0) ((rd_T70 l0 x7_1).f1) ((rd_T70 l0 x7_1).f2) ((rd_T70 l0 x7_1).f3) ((rd_T70 l0 x7_1).f4) true _ A5.out) ?_; intro w9 hb; replace BK176 := uQ BK176 hb #[.int .i64 ((rd_T70 l0 x7_1).f0), .int .i64 ((rd_T70 l0 x7_1).f1), .int .i64 ((rd_T70 l0 x7_1).f2), .int .i64 ((rd_T70 l0 x7_1).f3), .int .i64 ((rd_T70 l0 x7_1).f4)]; replace HB := uB HB hb; (try clear hb)))
       go_roundg k1
       case measure => have := HK1.out; omega
       case rel => exact ⟨(wrap64 (x7_1 + 1)), rB, H', ⟨by have := HK1.out; omega⟩, (aB HB)⟩
      ·replace H := iF (by decide) H
       obtain rfl := Option.some.inj H
       have p175 : 0 ≤ (x7_1 : Int) := of_decide_eq_true asmB
       have q175 : x7_1 < (l0.length : Int) := of_decide_eq_true asmB
       obtain ⟨ad175, e175, hx175_0, hx175_1, hx175_2, hx175_3, hx175_4⟩ := at_T70 HR0.out x7_1 p175 q175
       cases e175
       replace hx175_0 := bx HB.out hx175_0
       replace hx175_1 := bx HB.out hx175_1
       replace hx175_2 := bx HB.out hx175_2
       replace hx175_3 := bx HB.out hx175_3
       replace hx175_4 := bx HB.out hx175_4
       replace p175 := eq_true p175
       replace q175 := eq_true q175
       go_wp2_with (first | ((with_reducible refine gD 4 ?_); refine bxE 4 70 #[.int .i64 0, .int .i64 0, .int .i64 0, .int .i64 0, .int .i64 0] fun gb176 w10 hg hbox hb => ?_; have BK176 := Aside0.mk hbox; have GE176 := gB HB hg; replace HB := uB HB hb; clear hb hbox hg; have ⟨hcz11_0, hcz11_1, hcz11_2, hcz11_3, hcz11_4, hfz11_0⟩ := cz5 BK176) | ((with_reducible refine gC 87 ?_); refine lA (some 12) Try.func87 (impl_IsLeg.calls ((rd_T70 l0 x7_1).f0) ((rd_T70 l0 x7_1).f1) ((rd_T70 l0 x7_1).f2) ((rd_T70 l0 x7_1).f3) ((rd_T70 l0 x7_1).f4) false _ A5.out) ?_; intro w12 hb; replace BK176 := uQ BK176 hb #[.int .i64 ((rd_T70 l0 x7_1).f0), .int .i64 ((rd_T70 l0 x7_1).f1), .int .i64 ((rd_T70 l0 x7_1).f2), .int .i64 ((rd_T70 l0 x7_1).f3), .int .i64 ((rd_T70 l0 x7_1).f4)]; replace HB := uB HB hb; (try clear hb)))
       go_ret
       exact ⟨eB, (bW HB)⟩
     ·rw [if_neg c4] at H
      exact absurd H (by simp)
    ·rw [if_neg c3] at H
     exact absurd H (by simp)
   ·obtain rfl := Option.some.inj H
    go_wp2
    go_ret
    exact ⟨eB, (bW HB)⟩

/-! ### impl_renamed: function 72 -/
def impl_renamed.f (a0_0 a0_1 a0_2 a0_3 a0_4 : Int) (l1 : List Int) : Option (Int × Int × Int × Int × Int) :=
 if 0 ≤ a0_0 ∧ a0_0 < (l1.length : Int) ∧ 0 ≤ a0_1 ∧ a0_1 < (l1.length : Int) then some (rd l1 a0_0, rd l1 a0_1, a0_2, a0_3, a0_4) else none
set_option maxHeartbeats 8000000 in
set_option maxRecDepth 100000 in
theorem impl_renamed.calls (a0_0 a0_1 a0_2 a0_3 a0_4 : Int) (A1 : Option Addr) (c1 : Nat) (l1 : List Int) (r1 r2 r3 r4 r5 : Int) (w : World) (hr1 : Kd.C (Kd.int .i64) w A1 l1.length l1) (hc1 : l1.length ≤ c1) (h : impl_renamed.f a0_0 a0_1 a0_2 a0_3 a0_4 l1 = some (r1, r2, r3, r4, r5)) :
  Calls Try.prog 72 #[.agg #[.int .i64 a0_0, .int .i64 a0_1, .int .i64 a0_2, .int .i64 a0_3, .int .i64 a0_4], .slice A1 l1.length c1] w fun e w' => e = .returned (.agg #[.int .i64 r1, .int .i64 r2, .int .i64 r3, .int .i64 r4, .int .i64 r5]) ∧ Below w.heap.size w w' := by
 have hu := Try.underlying70
 unfold impl_renamed.f at h
 split at h
 ·rename_i hb
  obtain ⟨b1, b2, b3, b4⟩ := hb
  simp only [Option.some.injEq, Prod.mk.injEq] at h
  obtain ⟨rfl, rfl, rfl, rfl, rfl⟩ := h
  obtain ⟨ad, e0, h0⟩ := Kd.at_int hr1 a0_0 b1 b2
  obtain ⟨ad', e1, h1⟩ := Kd.at_int hr1 a0_1 b3 b4
  subst e0
  obtain rfl : ad = ad' := by injection e1
  have hl0 := World.block_lt_of_cell? w _ h0
  have hl1 := World.block_lt_of_cell? w _ h1
  generalize rd l1 a0_0 = v0 at h0 ⊢
  generalize rd l1 a0_1 = v1 at h1 ⊢
  have d1 := decide_eq_true b1
  have d2 := decide_eq_true b2
  have d3 := decide_eq_true b3
  have d4 := decide_eq_true b4
  go_enter Try.func72, Try.ntmps72
  go_wp2
  go_wp2
  go_region
  all_goals
   go_wp2
   exact bodyPost_ret (v := .agg #[.int .i64 v0, .int .i64 v1, .int .i64 a0_2, .int .i64 a0_3, .int .i64 a0_4]) (by simp [results, Try.results72, go_sem]) rfl ⟨rfl, (((Below.refl _ w).alloc (Nat.le_refl _) _).alloc (by simp) _).drew⟩
 ·cases h

/-! ### impl_RenameLegs: function 37 -/
mutual
def impl_RenameLegs.j0 : Nat → List (S70) → List Int → Bool → Option ((List (S70)) × Bool)
 | 0, _, _, _ => none
 | k + 1, x0, x1, x16 => if x16 = true then (some (([] : List (S70)), false)) else (impl_RenameLegs.l0 k x1 ([] : List (S70)) x0 (x0.length : Int) 0)
def impl_RenameLegs.l0 : Nat → List Int → List (S70) → List (S70) → Int → Int → Option ((List (S70)) × Bool)
 | 0, _, _, _, _, _ => none
 | k + 1, x1, x6, x17, x18, x19 => if x19 < x18 then (if 0 ≤ x19 then (if x19 < (x17.length : Int) then ((impl_renamed.f ((rd_T70 x17 x19).f0) ((rd_T70 x17 x19).f1) ((rd_T70 x17 x19).f2) ((rd_T70 x17 x19).f3) ((rd_T70 x17 x19).f4) x1).bind fun bt182 => (if x6.length < 3518437208883 then (impl_RenameLegs.l0 k x1 (x6 ++ [(⟨bt182.1, bt182.2.1, bt182.2.2.1, bt182.2.2.2.1, bt182.2.2.2.2⟩ : S70)]) x17 x18 (wrap64 (x19 + 1))) else (none))) else (none)) else (none)) else (some (x6, true))
end
def impl_RenameLegs.f (k : Nat) (l0 : List (S70)) (l1 : List Int) : Option ((List (S70)) × Bool) := (impl_areLegs.f k l0).bind fun t178 => (if t178 = true then ((impl_IsRenaming.f k l1).bind fun t179 => (impl_RenameLegs.j0 k l0 l1 (!t179))) else (impl_RenameLegs.j0 k l0 l1 true))
theorem impl_RenameLegs.mono_l : ∀ k, (∀ y0 y1 y2, LeO (impl_RenameLegs.j0 k y0 y1 y2) (impl_RenameLegs.j0 (k + 1) y0 y1 y2)) ∧ (∀ y0 y1 y2 y3 y4, LeO (impl_RenameLegs.l0 k y0 y1 y2 y3 y4) (impl_RenameLegs.l0 (k + 1) y0 y1 y2 y3 y4))
 | 0 => ⟨fun _ _ _ r h => by simp [impl_RenameLegs.j0] at h, fun _ _ _ _ _ r h => by simp [impl_RenameLegs.l0] at h⟩
 | k + 1 => by
  obtain ⟨ih0, ih1⟩ := impl_RenameLegs.mono_l k
  refine ⟨?_, ?_⟩
  ·intro y0 y1 y2
   unfold impl_RenameLegs.j0
   repeat' with_reducible first | apply ih0 | apply ih1 | apply impl_IsRenaming.mono | apply impl_areLegs.mono | exact LeO.refl _ | exact LeO.none _ | refine LeO.ite ?_ ?_ | refine LeO.bind ?_ (fun _ => ?_)
  ·intro y0 y1 y2 y3 y4
   unfold impl_RenameLegs.l0
   repeat' with_reducible first | apply ih0 | apply ih1 | apply impl_IsRenaming.mono | apply impl_areLegs.mono | exact LeO.refl _ | exact LeO.none _ | refine LeO.ite ?_ ?_ | refine LeO.bind ?_ (fun _ => ?_)
theorem impl_RenameLegs.mono : ∀ a0 a1 k, LeO (impl_RenameLegs.f k a0 a1) (impl_RenameLegs.f (k + 1) a0 a1) := by
 intro a0 a1 k
 obtain ⟨ih0, ih1⟩ := impl_RenameLegs.mono_l k
 unfold impl_RenameLegs.f
 repeat' with_reducible first | apply ih0 | apply ih1 | apply impl_IsRenaming.mono | apply impl_areLegs.mono | exact LeO.refl _ | exact LeO.none _ | refine LeO.ite ?_ ?_ | refine LeO.bind ?_ (fun _ => ?_)
set_option maxHeartbeats 8000000 in
set_option maxRecDepth 100000 in
theorem impl_RenameLegs.calls (k : Nat) (A0 : Option Addr) (c0 : Nat) (l0 : List (S70)) (A1 : Option Addr) (c1 : Nat) (l1 : List Int) (r1 : List (S70)) (r2 : Bool) (w : World) (hr0 : Kd.C k70 w A0 l0.length l0) (hc0 : l0.length ≤ c0) (hr1 : Kd.C (Kd.int .i64) w A1 l1.length l1) (hc1 : l1.length ≤ c1) (h : impl_RenameLegs.f k l0 l1 = some (r1, r2)) :
  Calls Try.prog 37 #[.slice A0 l0.length c0, .slice A1 l1.length c1] w fun e w' => ∃ v0_ : Value, e = .returned (.tuple #[v0_, .bool r2]) ∧ Kd.R k70 70 w' w.heap.size (fun _ => True) v0_ r1 ∧ Below w.heap.size w w' := by
 have hu70 := Try.underlying70
 have HR0 := Aside0.mk hr0
 have HC0 := Aside0.mk hc0
 clear hr0 hc0
 have HR1 := Aside0.mk hr1
 have HC1 := Aside0.mk hc1
 clear hr1 hc1
 have HB := Aside0.mk (Below.refl w.heap.size w)
 have H := h
 clear h
 unfold impl_RenameLegs.f at H
 have HC3 := Aside0.mk H
 clear H
 go_enter Try.func37, Try.ntmps37
 go_upto_region 1 with (fail)
 go_cut [16] (fun v16 wc => ∃ (kq : Nat) (x16_2 : Bool), v16 = .bool x16_2 ∧ Aside0 (impl_RenameLegs.j0 kq l0 l1 x16_2 = some (r1, r2)) ∧ Aside0 (kq ≤ k) ∧ Aside0 (Below w.heap.size w wc))
 case first =>
  have H := HC3.out
  clear HC3
  replace H := bA H
  obtain ⟨t178, A4, H⟩ := H
  rcases Bool.eq_false_or_eq_true t178 with rfl | rfl
  ·replace H := iT rfl H
   replace H := bA H
   obtain ⟨t179, A6, H⟩ := H
   have H' := Aside0.mk H
   clear H
   go_wp2_with (first | ((with_reducible refine gC 62 ?_); refine lA (some 10) Try.func62 (impl_areLegs.calls k _ _ l0 true _ ?side1 ?side2 A4.out) ?_; (case side1 => repeat (first | exact (Kd.C_below HR0.out HB.out) | (with_reducible refine Kd.C_alloc ?_ _) | (with_reducible refine Kd.C_drewN ?_ _) | (with_reducible refine Kd.C_drew ?_))); (case side2 => exact HC0.out); intro w7 hb; replace HB := uB HB hb; (try clear hb); (try clear hk)) | (go_at_call 16; (with_reducible refine (impl_IsRenaming.calls k _ _ l1 t179 _ ?side1 ?side2 A6.out).mono ?_); (case side1 => repeat (first | exact (Kd.C_below HR1.out HB.out) | (with_reducible refine Kd.C_alloc ?_ _) | (with_reducible refine Kd.C_drewN ?_ _) | (with_reducible refine Kd.C_drew ?_))); (case side2 => exact HC1.out); rintro e w' ⟨rfl, ⟨nd, rfl⟩⟩))
   go_meet
   case rel => exact ⟨_, (!t179), rB, H', leB, (aB HB)⟩
  ·replace H := iF (by decide) H
   have H' := Aside0.mk H
   clear H
   go_wp2_with (first | ((with_reducible refine gC 62 ?_); refine lA (some 10) Try.func62 (impl_areLegs.calls k _ _ l0 false _ ?side1 ?side2 A4.out) ?_; (case side1 => repeat (first | exact (Kd.C_below HR0.out HB.out) | (with_reducible refine Kd.C_alloc ?_ _) | (with_reducible refine Kd.C_drewN ?_ _) | (with_reducible refine Kd.C_drew ?_))); (case side2 => exact HC0.out); intro w8 hb; replace HB := uB HB hb; (try clear hb); (try clear hk)))
   go_meet
   case rel => exact ⟨_, (true), rB, H', leB, (aB HB)⟩
 case rest =>
  clear HC3
  try clear c1
  obtain ⟨kq, x16_2, rfl, HA, HJ2, HB⟩ := hcut
  cases kq with
  | zero => exact absurd HA.out (by simp [impl_RenameLegs.j0])
  | succ kj2 =>
   have H := HA.out
   clear HA
   simp only [impl_RenameLegs.j0] at H
   rcases Bool.eq_false_or_eq_true x16_2 with rfl | rfl
   ·replace H := iT rfl H
    simp only [Option.some.injEq, Prod.mk.injEq] at H
    obtain ⟨rfl, rfl⟩ := H
    go_wp2
    go_ret2
    exact ⟨_, eB, by first | exact Kd.R_nil _ _ _ _ _ | exact Kd.N_nil _ _ _ _ _ | exact Kd.V_nil _ _ _ _ _ | exact Kd.Q_nil _ _ _ _ _ | exact Kd.S_nil _ _ _ _ _, (bW HB)⟩
   ·replace H := iF (by decide) H
    have H' := Aside0.mk H
    clear H
    go_wp2
    go_loopg [6, 19] kj2 (fun kq v6 v19 w' => ∃ (x6_2 : List (S70)) (x19_2 : Int), v19 = .int .i64 x19_2 ∧ Aside0 (impl_RenameLegs.l0 kq l1 x6_2 l0 (l0.length : Int) x19_2 = some (r1, r2)) ∧ Aside0 (kq ≤ kj2) ∧ Aside0 (Kd.R k70 70 w' w.heap.size (fun _ => True) v6 x6_2) ∧ Aside0 (Below w.heap.size w w'))
    case atStart => exact ⟨(([] : List (S70))), (0), rB, H', ⟨Nat.le_refl _⟩, ⟨by first | exact Kd.R_nil _ _ _ _ _ | exact Kd.N_nil _ _ _ _ _ | exact Kd.V_nil _ _ _ _ _ | exact Kd.Q_nil _ _ _ _ _ | exact Kd.S_nil _ _ _ _ _⟩, (aB HB)⟩
    case round =>
     clear H'
     try clear c1
     obtain ⟨x6_2, x19_2, rfl, HA, HK2, HO_6, HB⟩ := hrel
     cases gk with
     | zero => exact absurd HA.out (by simp [impl_RenameLegs.l0])
     | succ k2 =>
      have H := HA.out
      clear HA
      simp only [impl_RenameLegs.l0] at H
      replace H := ifD H
      rcases H with ⟨H, -, c10b0⟩ | ⟨H, -, c10b0⟩
      ·by_cases c11 : 0 ≤ x19_2
       ·rw [if_pos c11] at H
        have c11b0 : decide (0 ≤ x19_2) = true := decide_eq_true c11
        clear c11
        by_cases c12 : x19_2 < (l0.length : Int)
        ·rw [if_pos c12] at H
         have c12b0 : decide (x19_2 < (l0.length : Int)) = true := decide_eq_true c12
         clear c12
         replace H := Option.bind_eq_some_iff.mp H
         obtain ⟨⟨t182, t183, t184, t185, t186⟩, A130, H⟩ := H
         replace H : (if x6_2.length < 3518437208883 then (impl_RenameLegs.l0 k2 l1 (x6_2 ++ [(⟨t182, t183, t184, t185, t186⟩ : S70)]) l0 (l0.length : Int) (wrap64 (x19_2 + 1))) else (none)) = some (r1, r2) := H
         have A13 := Aside0.mk A130
         clear A130
         by_cases c14 : x6_2.length < 3518437208883
         ·rw [if_pos c14] at H
          have LMc14 := Aside0.mk c14
          clear c14
          obtain ⟨y187, hy187⟩ : ∃ y_ : List (S70), y_ = (x6_2 ++ [(⟨t182, t183, t184, t185, t186⟩ : S70)]) := ⟨_, rfl⟩
          replace H : (impl_RenameLegs.l0 k2 l1 y187 l0 (l0.length : Int) (wrap64 (x19_2 + 1))) = some (r1, r2) := by first | (rw [hy187]; with_reducible exact H) | (have H2_ := (Option.bind_some _ _).symm.trans H; rw [hy187]; with_reducible exact H2_) | (have H2_ := (Option.bind_some _ _).symm.trans H; with_reducible exact H2_) | with_reducible exact H | (rw [hy187]; exact H) | exact H
          have Ny187 := Aside0.mk hy187
          clear hy187
          have H' := Aside0.mk H
          clear H
          have p180 : 0 ≤ (x19_2 : Int) := of_decide_eq_true asmB
          have q180 : x19_2 < (l0.length : Int) := of_decide_eq_true asmB
          obtain ⟨ad180, e180, hx180_0, hx180_1, hx180_2, hx180_3, hx180_4⟩ := at_T70 HR0.out x19_2 p180 q180
          cases e180
          replace hx180_0 := bx HB.out hx180_0
          replace hx180_1 := bx HB.out hx180_1
          replace hx180_2 := bx HB.out hx180_2
          replace hx180_3 := bx HB.out hx180_3
          replace hx180_4 := bx HB.out hx180_4
          replace p180 := eq_true p180
          replace q180 := eq_true q180
          go_wp2_with (first | ((with_reducible refine gD 8 ?_); refine bxE 8 70 #[.int .i64 0, .int .i64 0, .int .i64 0, .int .i64 0, .int .i64 0] fun gb181 w15 hg hbox hb => ?_; have BK181 := Aside0.mk hbox; have GE181 := gB HB hg; replace HO_6 := Aside0.mk (Kd.R_below (Kd.R_elderB (upR HO_6.out) gb181 (Nat.le_of_eq hg.symm)) hb); replace HB := uB HB hb; clear hb hbox hg; have ⟨hcz16_0, hcz16_1, hcz16_2, hcz16_3, hcz16_4, hfz16_0⟩ := cz5 BK181) | ((with_reducible refine gC 72 ?_); refine lA (some 26) Try.func72 (impl_renamed.calls ((rd_T70 l0 x19_2).f0) ((rd_T70 l0 x19_2).f1) ((rd_T70 l0 x19_2).f2) ((rd_T70 l0 x19_2).f3) ((rd_T70 l0 x19_2).f4) _ _ l1 t182 t183 t184 t185 t186 _ ?side1 ?side2 A13.out) ?_; (case side1 => exact Kd.C_below HR1.out (bW HB)); (case side2 => exact HC1.out); intro w17 hb; replace HO_6 := Aside0.mk (Kd.R_below (by (with_reducible repeat (first | apply Kd.R_alloc | apply Kd.R_drewN | apply Kd.R_drew)); exact (Kd.R_mono (Kd.R_far (p := ⟨gb181, 4, none⟩) (Kd.R_far (p := ⟨gb181, 3, none⟩) (Kd.R_far (p := ⟨gb181, 2, none⟩) (Kd.R_far (p := ⟨gb181, 1, none⟩) (Kd.R_far (p := ⟨gb181, 0, none⟩) (Kd.R_mono HO_6.out (fun k_ hk => (⟨hk, hk.2⟩ : _ ∧ k_ ≠ gb181))) (fun _ hk => hk.2) (.int .i64 ((rd_T70 l0 x19_2).f0))) (fun _ hk => hk.2) (.int .i64 ((rd_T70 l0 x19_2).f1))) (fun _ hk => hk.2) (.int .i64 ((rd_T70 l0 x19_2).f2))) (fun _ hk => hk.2) (.int .i64 ((rd_T70 l0 x19_2).f3))) (fun _ hk => hk.2) (.int .i64 ((rd_T70 l0 x19_2).f4))) (fun _ h_ => h_.1))) hb); replace BK181 := uQ BK181 hb #[.int .i64 ((rd_T70 l0 x19_2).f0), .int .i64 ((rd_T70 l0 x19_2).f1), .int .i64 ((rd_T70 l0 x19_2).f2), .int .i64 ((rd_T70 l0 x19_2).f3), .int .i64 ((rd_T70 l0 x19_2).f4)]; replace HB := uB HB hb; (try clear hb); (try clear hk)) | ((with_reducible refine gate_builtin (b := .append) (xs := #[.tmp 23, .tmp 27]) rfl ?_); at_builtin; refine Kd.R_append k70 (w0 := w) w.heap.size rfl (.tmp 23) (.tmp 27) 35 70 (.agg #[(.int .i64 0), (.int .i64 0), (.int .i64 0), (.int .i64 0), (.int .i64 0)]) 40 rfl Try.underlying35 info70 rfl (by decide) (by omega) u6 x6_2 (⟨t182, t183, t184, t185, t186⟩ : S70) [.int .i64 t182, .int .i64 t183, .int .i64 t184, .int .i64 t185, .int .i64 t186] (fun k_ => k_ ≠ gb181) (fun _ => False) rfl rfl ?aP (fun _ hk => hk.elim) ?aF ?aO ?aB ?aS ?aL ?_; (case aP => exact k70_mkM _ _ _ (⟨t182, t183, t184, t185, t186⟩ : S70)); (case aB => exact (bW HB)); (case aF => exact (fun k_ hk => Kd.freshB (g := gb181) (o := .cells #[.int .i64 ((rd_T70 l0 x19_2).f0), .int .i64 ((rd_T70 l0 x19_2).f1), .int .i64 ((rd_T70 l0 x19_2).f2), .int .i64 ((rd_T70 l0 x19_2).f3), .int .i64 ((rd_T70 l0 x19_2).f4)] 70 (0, 0)) (upK BK181.out) k_ hk)); (case aO => exact (by (with_reducible repeat (first | apply Kd.R_alloc | apply Kd.R_drewN | apply Kd.R_drew)); exact Kd.R_mono HO_6.out (fun _ hk => hk.2))); (case aS => exact (below_size (bW HB))); (case aL => have := LMc14.out; omega); intro v188 w18 ho hb hg hat; rw [← Ny187.out] at ho; have HO189 := Aside0.mk (ho); replace BK181 := Aside0.mk (blk_grown (g := gb181) (o := .cells #[.int .i64 ((rd_T70 l0 x19_2).f0), .int .i64 ((rd_T70 l0 x19_2).f1), .int .i64 ((rd_T70 l0 x19_2).f2), .int .i64 ((rd_T70 l0 x19_2).f3), .int .i64 ((rd_T70 l0 x19_2).f4)] 70 (0, 0)) (upK BK181.out) hg (Kd.R_away HO_6.out (fun _ hk => hk.2))); replace HB := Aside0.mk (hb); clear HO_6; clear ho hb hg hat))
          go_roundg k2
          case measure => have := HJ2.out; have := HK2.out; omega
          case rel => exact ⟨(y187), (wrap64 (x19_2 + 1)), rB, H', ⟨by have := HJ2.out; have := HK2.out; omega⟩, ⟨by (with_reducible repeat (first | apply Kd.R_alloc | apply Kd.R_drewN | apply Kd.R_drew)); exact Kd.R_mono HO189.out (fun _ hk => trivial)⟩, (aB HB)⟩
         ·rw [if_neg c14] at H
          exact absurd H (by simp)
        ·rw [if_neg c12] at H
         exact absurd H (by simp)
       ·rw [if_neg c11] at H
        exact absurd H (by simp)
      ·simp only [Option.some.injEq, Prod.mk.injEq] at H
       obtain ⟨rfl, rfl⟩ := H
       go_wp2
       go_ret2
       exact ⟨_, eB, upR HO_6.out, (bW HB)⟩

/-! ### spec_l4Reverse: function 95 -/
def spec_l4Reverse.f (a0_0 a0_1 a0_2 a0_3 a0_4 : Int) : Option (Int × Int × Int × Int × Int) := some (a0_1, a0_0, a0_2, Int.tmod (wrap64 (a0_3 + 180)) 360, wrap64 (-a0_4))
set_option maxHeartbeats 8000000 in
set_option maxRecDepth 100000 in
theorem spec_l4Reverse.calls (a0_0 a0_1 a0_2 a0_3 a0_4 r1 r2 r3 r4 r5 : Int) (w : World) (h : spec_l4Reverse.f a0_0 a0_1 a0_2 a0_3 a0_4 = some (r1, r2, r3, r4, r5)) :
  Calls Try.prog 95 #[.agg #[.int .i64 a0_0, .int .i64 a0_1, .int .i64 a0_2, .int .i64 a0_3, .int .i64 a0_4]] w fun e w' => e = .returned (.agg #[.int .i64 r1, .int .i64 r2, .int .i64 r3, .int .i64 r4, .int .i64 r5]) ∧ Below w.heap.size w w' := by
 have hu70 := Try.underlying70
 have HB := Aside0.mk (Below.refl w.heap.size w)
 have H := h
 clear h
 unfold spec_l4Reverse.f at H
 simp only [Option.some.injEq, Prod.mk.injEq] at H
 obtain ⟨rfl, rfl, rfl, rfl, rfl⟩ := H
 go_enter Try.func95, Try.ntmps95
 go_wp2_with (first | ((with_reducible refine gD 1 ?_); refine bxE 1 70 #[.int .i64 a0_0, .int .i64 a0_1, .int .i64 a0_2, .int .i64 a0_3, .int .i64 a0_4] fun gb190 w2 hg hbox hb => ?_; have BK190 := Aside0.mk hbox; have GE190 := gB HB hg; replace HB := uB HB hb; clear hb hbox hg) | ((with_reducible refine gD 2 ?_); refine bxE 2 70 #[.int .i64 0, .int .i64 0, .int .i64 0, .int .i64 0, .int .i64 0] fun gb191 w3 hg hbox hb => ?_; have BK191 := Aside0.mk hbox; have GE191 := gB HB hg; have ⟨NB190_191, NB191_190⟩ := nB BK190 hg; replace BK190 := uK BK190 hb; replace HB := uB HB hb; clear hb hbox hg; have hnb4 := NB190_191.out; have hnc4 := NB191_190.out; have ⟨hcz5_0, hcz5_1, hcz5_2, hcz5_3, hcz5_4, hfz5_0⟩ := cz5 BK190; have ⟨hcz6_0, hcz6_1, hcz6_2, hcz6_3, hcz6_4, hfz6_0⟩ := cz5 BK191))
 refine bodyPost_ret (results_cell_row rfl _ _ gb191 70 #[.int .i64 a0_1, .int .i64 a0_0, .int .i64 a0_2, .int .i64 (Int.tmod (wrap64 (a0_3 + 180)) 360), .int .i64 (wrap64 (-a0_4))] (0, 0) _ rfl (by exact pW BK191) Try.underlying70 rfl (by kernel_rfl)) rfl ?_
 exact ⟨eB, (bW HB)⟩

/-! ### spec_l1Least: function 113 -/
def spec_l1Least.f (a0 a1 : Int) : Option (Int) := if a0 < a1 then (some a0) else (some a1)
set_option maxHeartbeats 8000000 in
set_option maxRecDepth 100000 in
theorem spec_l1Least.calls (a0 a1 r : Int) (w : World) (h : spec_l1Least.f a0 a1 = some r) :
  Calls Try.prog 113 #[.int .i64 a0, .int .i64 a1] w fun e w' => e = .returned (.int .i64 r) ∧ Drawn0 w w' := by
 have H : (if a0 < a1 then (some a0) else (some a1)) = some r := h
 clear h
 replace H := ifD H
 rcases H with ⟨H, -, c3b0⟩ | ⟨H, -, c3b0⟩
 ·obtain rfl := Option.some.inj H
  go_enter Try.func113, Try.ntmps113
  go_wp2
  go_ret
  exact ⟨rB, by repeat (first | exact Drawn0.refl _ | apply Drawn0.step)⟩
 ·obtain rfl := Option.some.inj H
  go_enter Try.func113, Try.ntmps113
  go_wp2
  go_ret
  exact ⟨rB, by repeat (first | exact Drawn0.refl _ | apply Drawn0.step)⟩

/-! ### spec_TurnBetween: function 96 -/
def spec_TurnBetween.f (a0 a1 : Int) : Option (Int × Bool) := (spec_l2Bearing.f a0).bind fun t192 => (if t192 = true then ((spec_l2Bearing.f a1).bind fun t193 => (if t193 = true then ((spec_l1Least.f (Int.tmod (wrap64 ((wrap64 (a0 - a1)) + 360)) 360) (wrap64 (360 - (Int.tmod (wrap64 ((wrap64 (a0 - a1)) + 360)) 360)))).bind fun t194 => (some (t194, true))) else (some (0, false)))) else (some (0, false)))
set_option maxHeartbeats 8000000 in
set_option maxRecDepth 100000 in
theorem spec_TurnBetween.calls (a0 a1 r1 : Int) (r2 : Bool) (w : World) (h : spec_TurnBetween.f a0 a1 = some (r1, r2)) :
  Calls Try.prog 96 #[.int .i64 a0, .int .i64 a1] w fun e w' => e = .returned (.tuple #[.int .i64 r1, .bool r2]) ∧ Drawn0 w w' := by
 have H := h
 clear h
 unfold spec_TurnBetween.f at H
 replace H := bA H
 obtain ⟨t192, A3, H⟩ := H
 rcases Bool.eq_false_or_eq_true t192 with rfl | rfl
 ·replace H := iT rfl H
  replace H := bA H
  obtain ⟨t193, A5, H⟩ := H
  rcases Bool.eq_false_or_eq_true t193 with rfl | rfl
  ·replace H := iT rfl H
   replace H := bA H
   obtain ⟨t194, A7, H⟩ := H
   simp only [Option.some.injEq, Prod.mk.injEq] at H
   obtain ⟨rfl, rfl⟩ := H
   go_enter Try.func96, Try.ntmps96
   go_wp2_with (first | ((with_reducible refine gC 112 ?_); refine lA (some 8) Try.func112 (spec_l2Bearing.calls a0 true _ A3.out) ?_; rintro _ ⟨nd, rfl⟩) | (go_at_call 112; (with_reducible refine (spec_l2Bearing.calls a1 true _ A5.out).mono ?_); rintro e w' ⟨rfl, ⟨nd, rfl⟩⟩) | ((with_reducible refine gC 113 ?_); refine lA (some 23) Try.func113 (spec_l1Least.calls (Int.tmod (wrap64 ((wrap64 (a0 - a1)) + 360)) 360) (wrap64 (360 - (Int.tmod (wrap64 ((wrap64 (a0 - a1)) + 360)) 360))) t194 _ A7.out) ?_; rintro _ ⟨nd, rfl⟩))
   go_ret2
   exact ⟨rB, by repeat (first | exact Drawn0.refl _ | apply Drawn0.step)⟩
  ·replace H := iF (by decide) H
   simp only [Option.some.injEq, Prod.mk.injEq] at H
   obtain ⟨rfl, rfl⟩ := H
   go_enter Try.func96, Try.ntmps96
   go_wp2_with (first | ((with_reducible refine gC 112 ?_); refine lA (some 8) Try.func112 (spec_l2Bearing.calls a0 true _ A3.out) ?_; rintro _ ⟨nd, rfl⟩) | (go_at_call 112; (with_reducible refine (spec_l2Bearing.calls a1 false _ A5.out).mono ?_); rintro e w' ⟨rfl, ⟨nd, rfl⟩⟩))
   go_ret2
   exact ⟨rB, by repeat (first | exact Drawn0.refl _ | apply Drawn0.step)⟩
 ·replace H := iF (by decide) H
  simp only [Option.some.injEq, Prod.mk.injEq] at H
  obtain ⟨rfl, rfl⟩ := H
  go_enter Try.func96, Try.ntmps96
  go_wp2_with (first | ((with_reducible refine gC 112 ?_); refine lA (some 8) Try.func112 (spec_l2Bearing.calls a0 false _ A3.out) ?_; rintro _ ⟨nd, rfl⟩))
  go_ret2
  exact ⟨rB, by repeat (first | exact Drawn0.refl _ | apply Drawn0.step)⟩

/-! ### spec_l1Most: function 97 -/
def spec_l1Most.f (a0 a1 : Int) : Option (Int) := if a0 > a1 then (some a0) else (some a1)
set_option maxHeartbeats 8000000 in
set_option maxRecDepth 100000 in
theorem spec_l1Most.calls (a0 a1 r : Int) (w : World) (h : spec_l1Most.f a0 a1 = some r) :
  Calls Try.prog 97 #[.int .i64 a0, .int .i64 a1] w fun e w' => e = .returned (.int .i64 r) ∧ Drawn0 w w' := by
 have H : (if a0 > a1 then (some a0) else (some a1)) = some r := h
 clear h
 replace H := ifD H
 rcases H with ⟨H, -, c3b0⟩ | ⟨H, -, c3b0⟩
 ·obtain rfl := Option.some.inj H
  go_enter Try.func97, Try.ntmps97
  go_wp2
  go_ret
  exact ⟨rB, by repeat (first | exact Drawn0.refl _ | apply Drawn0.step)⟩
 ·obtain rfl := Option.some.inj H
  go_enter Try.func97, Try.ntmps97
  go_wp2
  go_ret
  exact ⟨rB, by repeat (first | exact Drawn0.refl _ | apply Drawn0.step)⟩

end Go.Proofs.Ytfaojmabalplfaa.QFnRenamings
