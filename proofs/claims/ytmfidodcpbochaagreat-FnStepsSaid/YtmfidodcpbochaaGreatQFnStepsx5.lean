/- Contracts of Go functions that FnSteps reaches: the call computes what the plain function says. No condition. -/
import Derived.Test.YtmfidodcpbochaaGreatQFnStepsx0
import Derived.Test.YtmfidodcpbochaaGreatQFnStepsx1
import Derived.Test.YtmfidodcpbochaaGreatQFnStepsx4
namespace Go.Proofs.YtmfidodcpbochaaGreat.QFnSteps
open Go.RowKit Go.Proofs.YtmfidodcpbochaaGreatW.PrintWords Go.Proofs.YtmfidodcpbochaaGreatW.PrintLast Go.Proofs.YtmfidodcpbochaaGreatW.PrintMore
attribute [local go_sem] max2_int min2_int max_two min_two max_three min_three max_four min_four   -- for this text's walks alone
set_option linter.unusedVariables false
set_option linter.unusedSimpArgs false

/-! ### spec_l1Cur_caves: function 36 -/
def spec_l1Cur_caves.f (k : Nat) (s0_0 : List Int) (s0_1 s0_2 : Int) : Option ((List (S32)) × Int × Int) := (spec_l1Cur_cave.f k s0_0 s0_1 s0_2).bind fun bt338 => ((spec_l1Cur_one.f s0_0 bt338.2.1 bt338.2.2 2).bind fun bt343 => (if bt343.1 = true then (if (bt338.1.length : Int) > 1 then ((spec_l1Cur_pick.f s0_0 bt343.2.1 bt343.2.2 (bt338.1.length : Int)).bind fun bt346 => ((some (([] : List (S32)) : List (S32))).bind fun y349 => (if 0 ≤ bt346.1 then (if bt346.1 ≤ (bt338.1.length : Int) then ((some (bt338.1.take (bt346.1 : Int).toNat : List (S32))).bind fun y352 => (if y349.length + y352.length < 3518437208883 then ((some (y349 ++ y352 : List (S32))).bind fun y356 => (if 0 ≤ (wrap64 (bt346.1 + 1)) then (if (wrap64 (bt346.1 + 1)) ≤ (bt338.1.length : Int) then ((some (bt338.1.drop ((wrap64 (bt346.1 + 1)) : Int).toNat : List (S32))).bind fun y359 => (if y356.length + y359.length < 3518437208883 then (some ((y356 ++ y359), bt346.2.1, bt346.2.2)) else (none))) else (none)) else (none))) else (none))) else (none)) else (none)))) else (some (bt338.1, bt343.2.1, bt343.2.2))) else (some (bt338.1, bt343.2.1, bt343.2.2))))
theorem spec_l1Cur_caves.mono : ∀ a0 a1 a2 k, LeO (spec_l1Cur_caves.f k a0 a1 a2) (spec_l1Cur_caves.f (k + 1) a0 a1 a2) := by
 intro a0 a1 a2 k
 unfold spec_l1Cur_caves.f
 repeat' with_reducible first | apply spec_l1Cur_cave.mono | exact LeO.refl _ | exact LeO.none _ | refine LeO.ite ?_ ?_ | refine LeO.bind ?_ (fun _ => ?_)
def spec_l1Cur_caves.T4 : Bool × List (List Nat × List Nat) := (true, [([], []), ([], []), ([], []), ([1, 2], [1, 2]), ([0, 3], [0, 3]), ([], []), ([], []), ([6], [6]), ([5, 7], [5, 7]), ([4, 8, 4], [4, 8]), ([9, 9, 0, 1, 2, 3, 4, 5, 6, 7, 8, 9], [1, 5, 9])])
def spec_l1Cur_caves.B4 : List Nat := [0, 0, 0, 6, 15, 0, 0, 64, 224, 511, 1023]
theorem spec_l1Cur_caves.tab4 : rtab .any (opsOf Tryz.f36 4) = spec_l1Cur_caves.T4 := by kernel_rfl
theorem spec_l1Cur_caves.bits4 : waitsOk spec_l1Cur_caves.T4.2 spec_l1Cur_caves.B4 = true := by kernel_rfl
set_option maxHeartbeats 8000000 in
set_option maxRecDepth 100000 in
theorem spec_l1Cur_caves.calls (k g : Nat) (s0_0 : List Int) (s0_1 s0_2 : Int) (r1 : List (S32)) (r2 r3 : Int) (w0 w : World) (hI : IsS54 w0 w g s0_0 s0_1 s0_2) (hB : Below w0.heap.size w0 w) (h : spec_l1Cur_caves.f k s0_0 s0_1 s0_2 = some (r1, r2, r3)) :
 Calls Tryz.prog 36 #[.pointer (some ⟨g, 0, none⟩)] w fun e w' => ∃ v0_ : Value, e = .returned (v0_) ∧ Kd.R k32 32 w' w.heap.size (fun _ => True) v0_ r1 ∧ IsS54 w0 w' g s0_0 r2 r3 ∧ Below w0.heap.size w0 w' ∧ KeepBut w w' g none := by
 have HI0 := Aside0.mk hI
 have HK := Aside0.mk (KeepBut.refl w g none)
 have HL := Aside0.mk hB.size
 clear hI
 have HW0 := Aside0.mk hB.size
 have HB := Aside0.mk hB
 clear hB
 have H := h
 clear h
 unfold spec_l1Cur_caves.f at H
 replace H := Option.bind_eq_some_iff.mp H
 obtain ⟨⟨t338, t341, t342⟩, A20, H⟩ := H
 (try dsimp only at H)
 have A2 := Aside0.mk A20
 clear A20
 replace H := Option.bind_eq_some_iff.mp H
 obtain ⟨⟨t343, t344, t345⟩, A30, H⟩ := H
 (try dsimp only at H)
 have A3 := Aside0.mk A30
 clear A30
 rcases Bool.eq_false_or_eq_true t343 with rfl | rfl
 ·replace H := iT rfl H
  replace H := ifD H
  rcases H with ⟨H, c5, c5b0⟩ | ⟨H, c5, c5b0⟩
  ·have c5b1 : decide (1 < t338.length) = true := decide_eq_true (by omega)
   clear c5
   replace H := Option.bind_eq_some_iff.mp H
   obtain ⟨⟨t346, t347, t348⟩, A60, H⟩ := H
   (try dsimp only at H)
   have A6 := Aside0.mk A60
   clear A60
   replace H := zS H
   obtain ⟨y349, Ny349, H⟩ := H
   replace H := zM H
   obtain ⟨c7, H⟩ := H
   have c7b0 := eq_true c7
   have c7b1 : decide (0 ≤ t346) = true := decide_eq_true c7
   clear c7
   replace H := zM H
   obtain ⟨c8, H⟩ := H
   have c8b0 := eq_true c8
   have c8b1 : decide (t346 ≤ (t338.length : Int)) = true := decide_eq_true c8
   clear c8
   replace H := zS H
   obtain ⟨y352, Ny352, H⟩ := H
   replace H := zM H
   obtain ⟨c9, H⟩ := H
   have LMc9 := Aside0.mk c9
   clear c9
   replace H := zS H
   obtain ⟨y356, Ny356, H⟩ := H
   obtain ⟨ji10, hji10⟩ : ∃ j_ : Int, (wrap64 (t346 + 1)) = j_ := ⟨_, rfl⟩
   replace H : (if 0 ≤ (ji10) then (if (ji10) ≤ (t338.length : Int) then ((some (t338.drop ((ji10) : Int).toNat : List (S32))).bind fun y359 => (if y356.length + y359.length < 3518437208883 then (some ((y356 ++ y359), t347, t348)) else (none))) else (none)) else (none)) = some (r1, r2, r3) := by first | (rw [hji10] at H; exact H) | (simp only [hji10] at H ⊢; exact H)
   (try rw [hji10] at A2)
   (try rw [hji10] at A3)
   (try rw [hji10] at A6)
   have hji10w : (IntKind.i64.wrap (t346 + 1)) = ji10 := (i64_w _).trans hji10
   replace H := zM H
   obtain ⟨c11, H⟩ := H
   have c11b0 := eq_true c11
   have c11b1 : decide (0 ≤ (ji10)) = true := decide_eq_true c11
   clear c11
   replace H := zM H
   obtain ⟨c12, H⟩ := H
   have c12b0 := eq_true c12
   have c12b1 : decide ((ji10) ≤ (t338.length : Int)) = true := decide_eq_true c12
   clear c12
   replace H := zS H
   obtain ⟨y359, Ny359, H⟩ := H
   replace H := zM H
   obtain ⟨c13, H⟩ := H
   have LMc13 := Aside0.mk c13
   clear c13
   obtain ⟨y363, hy363⟩ : ∃ y_ : List (S32), y_ = (y356 ++ y359) := ⟨_, rfl⟩
   rw [← hy363] at H
   have Ny363 := Aside0.mk hy363
   clear hy363
   simp only [Option.some.injEq, Prod.mk.injEq] at H
   obtain ⟨rfl, rfl, rfl⟩ := H
   go_enter Tryz.func36, Tryz.ntmps36
   try go_wp2_with (first | ((with_reducible refine gC 58 ?_); refine zG (some 6) Tryz.func58 (spec_l1Cur_cave.calls k g s0_0 s0_1 s0_2 t338 t341 t342 w0 _ (zI HI0) (zB HB HI0) A2.out) ?_; rintro e w14 ⟨v339, rfl, ho0, hi, hb, hk⟩; refine ⟨_, rfl, ?_⟩; have HO340 := Aside0.mk (Kd.R_lower ho0 (keep_size (w := w) (g := g) (row := none) (zK HK))); replace HK := zKK HK hk; replace HB := Aside0.mk (hb); replace HI0 := Aside0.mk (hi); (try clear hb); (try clear hk); (try clear hi); (try clear ho0)) | ((with_reducible refine gC 59 ?_); refine zG (some 8) Tryz.func59 (spec_l1Cur_one.calls g s0_0 t341 t342 2 true t344 t345 w0 _ (zI HI0) (zB HB HI0) A3.out) ?_; rintro e w15 ⟨rfl, hi, hb, hk⟩; refine ⟨_, rfl, ?_⟩; replace HO340 := zO t341 t342 HI0 HO340 hk; replace HK := zKK HK hk; replace HB := Aside0.mk (hb); replace HI0 := Aside0.mk (hi); (try clear hb); (try clear hk); (try clear hi); obtain ⟨Ao16, co16, eo16⟩ := Kd.R_slice HO340.out; subst eo16) | ((with_reducible refine gC 60 ?_); refine zG (some 17) Tryz.func60 (spec_l1Cur_pick.calls g s0_0 t344 t345 (t338.length : Int) t346 t347 t348 w0 _ (zI HI0) (zB HB HI0) A6.out) ?_; rintro e w17 ⟨rfl, hi, hb, hk⟩; refine ⟨_, rfl, ?_⟩; replace HO340 := zO t344 t345 HI0 HO340 hk; replace HK := zKK HK hk; replace HB := Aside0.mk (hb); replace HI0 := Aside0.mk (hi); (try clear hb); (try clear hk); (try clear hi)))
   replace HO340 := Aside0.mk (Kd.R_drew HO340.out)
   replace HI0 := Aside0.mk (IsS54.drew HI0.out)
   replace HK := Aside0.mk (keep_drew HK.out)
   replace HB := Aside0.mk (below_drew1 HB.out)
   have q19 : (t346 : Int) ≤ ((t338.length : Int) : Int) := of_decide_eq_true asmB
   obtain ⟨i019, hi019, _, hsz19, _⟩ := info_parts info32
   have hroom19 : t338.length ≤ co16 := (Kd.R_reads' HO340.out).2.1
   have hC19 : Kd.C k32 _ Ao16 t338.length t338 := (Kd.R_reads' HO340.out).2.2
   have hcut19 := cut_to (P := Tryz.prog) 24 32 .i64 Tryz.underlying24 hi019 Ao16 t338.length co16 t346 (of_decide_eq_true asmB) q19 hroom19
   have hr19 := Kd.C_take (m := (t346 : Int).toNat) hC19 (by omega)
   have hy19 : y352.length = (t346 : Int).toNat := (by rw [Ny352.out, List.length_take]; omega)
   rw [← Ny352.out] at hr19
   rw [← hy19] at hcut19
   have HR355 := Aside0.mk hr19
   have HC355 := Aside0.mk (show y352.length ≤ co16 from by omega)
   clear hr19 hC19 hroom19 hi019 hsz19
   have KY19 := Aside0.mk hy19
   clear hy19
   have KL19 := Aside0.mk (show (t346 : Int).toNat ≤ t338.length from by omega)
   replace q19 := eq_true q19
   have q20 : ((ji10) : Int) ≤ ((t338.length : Int) : Int) := of_decide_eq_true asmB
   obtain ⟨i020, hi020, _, hsz20, _⟩ := info_parts info32
   have hroom20 : t338.length ≤ co16 := (Kd.R_reads' HO340.out).2.1
   have hC20 : Kd.C k32 _ Ao16 t338.length t338 := (Kd.R_reads' HO340.out).2.2
   have q020 : (0 : Int) ≤ ((ji10) : Int) := of_decide_eq_true asmB
   have hcut20 := cut_from (P := Tryz.prog) 24 32 .i64 Tryz.underlying24 hi020 5 hsz20 Ao16 t338.length co16 (ji10) q020 q20
   have hr20 := Kd.C_drop (m := ((ji10) : Int).toNat) (c := co16) hC20 (by omega) hroom20
   obtain ⟨A20, hA20⟩ : ∃ Az_, Az_ = (if co16 = ((ji10) : Int).toNat then Ao16 else (Ao16 : Option Addr).map (·.add (((ji10) : Int).toNat * 5))) := ⟨_, rfl⟩
   obtain ⟨c20, hc20⟩ : ∃ c1, c1 = co16 - ((ji10) : Int).toNat := ⟨_, rfl⟩
   have hy20 : y359.length = t338.length - ((ji10) : Int).toNat := (by rw [Ny359.out, List.length_drop] <;> omega)
   rw [show (t338).drop ((ji10) : Int).toNat = y359 from Ny359.out.symm] at hr20
   replace hr20 : Kd.C k32 _ A20 y359.length y359 := (by rw [hA20]; exact hr20)
   rw [← hy20, ← hA20, ← hc20] at hcut20
   have HR362 := Aside0.mk hr20
   have HC362 := Aside0.mk (show y359.length ≤ c20 from by rw [hy20, hc20]; exact Nat.sub_le_sub_right hroom20 _)
   clear hr20 hC20 hroom20 hi020 hsz20 hc20
   have KY20 := Aside0.mk hy20
   have KA20 := Aside0.mk hA20
   clear hy20 hA20
   have KL20 := Aside0.mk (show ((ji10) : Int).toNat ≤ t338.length from by omega)
   replace q20 := eq_true q20
   refine start_ (n := 11) (S := fun w' => True) (ds := []) #[false, false, false, false, false, false, false, false, false, false, false] (by kernel_rfl) rfl rfl trivial (fun hHeld => ?_); refine with_tabW spec_l1Cur_caves.tab4 spec_l1Cur_caves.bits4 (fun HT_ HW_ => ?_)
   generalize w17.drew = w18 at HO340 HI0 HK HB HR355 HR362 hHeld ⊢
   refine pA 1 19 HT_ ?_
   refine pA 2 20 HT_ ?_
   refine pA 3 21 HT_ ?_
   refine pA 5 23 HT_ ?_
   refine pA 6 24 HT_ ?_
   refine pA 7 25 HT_ ?_
   refine pA 8 26 HT_ ?_
   refine oA 0 (some 18) HT_ fun K hK => ?_
   refine Kd.R_lit_step k32 _ 32 ?hg (N := 18) ?hd (xs := ([] : List (S32))) (inner := []) (ok := fun _ => True) (okp := fun _ => True) ?hr ?hp (fun _ hk => hk) trivial (Below.refl _ _) (Nat.le_refl _) (by simp) ?_; (case hd => rfl); (case hg => rfl); (case hr => first | (go_simp; done) | (go_simp; rfl)); (case hp => exact (Reps.none _ _))
   intro v350 w21 ho22 hb hg_ hnew_
   clear hg_ hnew_
   (first | rw [← Ny349.out] at ho22 | (simp only [Int.reduceToNat] at ho22; rw [← Ny349.out] at ho22))
   have HO351 := Aside0.mk (Kd.R_lower (Kd.R_new' ho22 (Kd.R_lt (upR HO340.out))) (keep_size (w := w) (g := g) (row := none) (zK HK)))
   replace HO340 := Aside0.mk (Kd.R_elder' (upR HO340.out) (Kd.R_base ho22) hb)
   replace HR355 := Aside0.mk (Kd.C_below (by repeat (first | (with_reducible exact HR355.out) | (with_reducible refine Kd.C_alloc ?_ _) | (with_reducible refine Kd.C_drewN ?_ _) | (with_reducible refine Kd.C_drew ?_) | exact HR355.out)) hb)
   replace HR362 := Aside0.mk (Kd.C_below (by repeat (first | (with_reducible exact HR362.out) | (with_reducible refine Kd.C_alloc ?_ _) | (with_reducible refine Kd.C_drewN ?_ _) | (with_reducible refine Kd.C_drew ?_) | exact HR362.out)) hb)
   replace HK := zKK HK (KeepBut.of_below hb g none)
   replace HB := Aside0.mk (below_step (zB HB HI0) hb)
   replace HI0 := Aside0.mk (IsS54.below (keepF_ HI0 <| zI HI0) hb)
   clear hb ho22
   refine hK.out _ _ trivial (fun hHeld => ?_)
   clear hK K
   refine nA ?_ (some 18)
   refine oA 4 (some 22) HT_ fun K hK => ?_
   refine Kd.R_append_rows_step k32 w.heap.size (by rfl) (.tmp 18) (.tmp 21) 24 32 (.agg #[(.int .i64 0), (.int .i64 0), (.int .i64 0), (.int .i64 0), (.int .i64 0)]) 40 rfl Tryz.underlying24 info32 rfl (by decide) (by omega) v350 y349 y352 _ _ _ (fun k_ => some k_ ≠ (.slice Ao16 t338.length co16 : Value).ownBlock) (fun _ => False) rfl rfl ?aO ?aR (fun _ _ h => h) (fun _ h => h.elim) ?aF (Below.refl _ _) ?aS ?aL ?_
   (case aR => repeat (first | exact (by repeat (first | (with_reducible exact HR355.out) | (with_reducible refine Kd.C_alloc ?_ _) | (with_reducible refine Kd.C_drewN ?_ _) | (with_reducible refine Kd.C_drew ?_) | exact HR355.out)) | (with_reducible refine Kd.C_alloc ?_ _) | (with_reducible refine Kd.C_drewN ?_ _) | (with_reducible refine Kd.C_drew ?_)))
   (case aF => exact (fun k_ hk => Kd.fresh' (Kd.R_lt (upR HO340.out)) k_ hk))
   (case aO => exact (Kd.R_mono (upR HO351.out) (fun _ hk => hk.2)))
   (case aS => exact (keep_size (w := w) (g := g) (row := none) (zK HK)))
   (case aL => have := LMc9.out; omega)
   intro v357 w23 ho hb hg hat
   rw [← Ny356.out] at ho
   have HO358 := Aside0.mk (ho)
   replace HB := Aside0.mk (below_weaken (zB HB HI0) HL.out hb)
   replace HI0 := Aside0.mk (IsS54.grown (keepF_ HI0 <| zI HI0) hg (IsS54.own_ne HI0.out HO351.out (by decide)))
   replace HK := Aside0.mk (KeepBut.trans (zK HK) (KeepBut.of_grown hg g) (Kd.R_base2 HO351.out))
   replace HR355 := Aside0.mk ((show Kd.C k32 w23 Ao16 y352.length y352 from by rw [Ny352.out]; exact Kd.C_take (m := (t346 : Int).toNat) ((Kd.R_reads' (Kd.R_after (ok := (fun _ => True)) (upR HO340.out) hg hat)).2.2) KL19.out))
   replace HR362 := Aside0.mk ((show Kd.C k32 w23 A20 y359.length y359 from by rw [Ny359.out, KA20.out]; exact Kd.C_drop (m := ((ji10) : Int).toNat) (c := co16) ((Kd.R_reads' (Kd.R_after (ok := (fun _ => True)) (upR HO340.out) hg hat)).2.2) KL20.out ((Kd.R_reads' (Kd.R_after (ok := (fun _ => True)) (upR HO340.out) hg hat)).2.1)))
   replace HO340 := Aside0.mk (Kd.R_after (ok := (fun _ => True)) (upR HO340.out) hg hat)
   clear HO351
   clear ho hb hg hat
   refine hK.out _ _ trivial (fun hHeld => ?_)
   clear hK K
   refine nA ?_ (some 22)
   refine oA 9 (some 27) HT_ fun K hK => ?_
   refine Kd.R_append_rows_step k32 w.heap.size (by rfl) (.tmp 22) (.tmp 26) 24 32 (.agg #[(.int .i64 0), (.int .i64 0), (.int .i64 0), (.int .i64 0), (.int .i64 0)]) 40 rfl Tryz.underlying24 info32 rfl (by decide) (by omega) v357 y356 y359 _ _ _ (fun k_ => some k_ ≠ (.slice Ao16 t338.length co16 : Value).ownBlock) (fun _ => False) rfl rfl ?aO ?aR (fun _ _ h => h) (fun _ h => h.elim) ?aF (Below.refl _ _) ?aS ?aL ?_
   (case aR => repeat (first | exact (by repeat (first | (with_reducible exact HR362.out) | (with_reducible refine Kd.C_alloc ?_ _) | (with_reducible refine Kd.C_drewN ?_ _) | (with_reducible refine Kd.C_drew ?_) | exact HR362.out)) | (with_reducible refine Kd.C_alloc ?_ _) | (with_reducible refine Kd.C_drewN ?_ _) | (with_reducible refine Kd.C_drew ?_)))
   (case aF => exact (fun k_ hk => Kd.fresh' (Kd.R_lt (upR HO340.out)) k_ hk))
   (case aO => exact (upR HO358.out))
   (case aS => exact (keep_size (w := w) (g := g) (row := none) (zK HK)))
   (case aL => have := LMc13.out; omega)
   intro v364 w24 ho hb hg hat
   rw [← Ny363.out] at ho
   have HO365 := Aside0.mk (ho)
   replace HB := Aside0.mk (below_weaken (zB HB HI0) HL.out hb)
   replace HI0 := Aside0.mk (IsS54.grown (keepF_ HI0 <| zI HI0) hg (IsS54.own_ne HI0.out HO358.out (by decide)))
   replace HK := Aside0.mk (KeepBut.trans (zK HK) (KeepBut.of_grown hg g) (Kd.R_base2 HO358.out))
   replace HR355 := Aside0.mk ((show Kd.C k32 w24 Ao16 y352.length y352 from by rw [Ny352.out]; exact Kd.C_take (m := (t346 : Int).toNat) ((Kd.R_reads' (Kd.R_after (ok := (fun _ => True)) (upR HO340.out) hg hat)).2.2) KL19.out))
   replace HR362 := Aside0.mk ((show Kd.C k32 w24 A20 y359.length y359 from by rw [Ny359.out, KA20.out]; exact Kd.C_drop (m := ((ji10) : Int).toNat) (c := co16) ((Kd.R_reads' (Kd.R_after (ok := (fun _ => True)) (upR HO340.out) hg hat)).2.2) KL20.out ((Kd.R_reads' (Kd.R_after (ok := (fun _ => True)) (upR HO340.out) hg hat)).2.1)))
   replace HO340 := Aside0.mk (Kd.R_after (ok := (fun _ => True)) (upR HO340.out) hg hat)
   clear HO358
   clear ho hb hg hat
   refine hK.out _ _ trivial (fun hHeld => ?_)
   clear hK K
   refine nA ?_ (some 27)
   refine pA 10 3 HT_ ?_
   refine done_ (done_of HT_.out (by kernel_rfl)) ?_
   try go_wp2
   go_ret
   exact ⟨_, by first | rfl | (simp [errW_none, errW_some] <;> rfl) | (simp only [← hji10]; first | rfl | (simp [errW_none, errW_some] <;> rfl)) | (simp [*, errW_none, errW_some] <;> rfl), Kd.R_mono (upR HO365.out) (fun _ hk => trivial), zI HI0, zB HB HI0, zK HK⟩
  ·have c5b1 : decide (1 < t338.length) = false := decide_eq_false (by omega)
   clear c5
   simp only [Option.some.injEq, Prod.mk.injEq] at H
   obtain ⟨rfl, rfl, rfl⟩ := H
   go_enter Tryz.func36, Tryz.ntmps36
   go_wp2_with (first | ((with_reducible refine gC 58 ?_); refine zG (some 6) Tryz.func58 (spec_l1Cur_cave.calls k g s0_0 s0_1 s0_2 t338 t341 t342 w0 _ (zI HI0) (zB HB HI0) A2.out) ?_; rintro e w25 ⟨v339, rfl, ho0, hi, hb, hk⟩; refine ⟨_, rfl, ?_⟩; have HO340 := Aside0.mk (Kd.R_lower ho0 (keep_size (w := w) (g := g) (row := none) (zK HK))); replace HK := zKK HK hk; replace HB := Aside0.mk (hb); replace HI0 := Aside0.mk (hi); (try clear hb); (try clear hk); (try clear hi); (try clear ho0)) | ((with_reducible refine gC 59 ?_); refine zG (some 8) Tryz.func59 (spec_l1Cur_one.calls g s0_0 t341 t342 2 true t344 t345 w0 _ (zI HI0) (zB HB HI0) A3.out) ?_; rintro e w26 ⟨rfl, hi, hb, hk⟩; refine ⟨_, rfl, ?_⟩; replace HO340 := zO t341 t342 HI0 HO340 hk; replace HK := zKK HK hk; replace HB := Aside0.mk (hb); replace HI0 := Aside0.mk (hi); (try clear hb); (try clear hk); (try clear hi); obtain ⟨Ao27, co27, eo27⟩ := Kd.R_slice HO340.out; subst eo27))
   go_ret
   exact ⟨_, eB, upR HO340.out, zI HI0, zB HB HI0, zK HK⟩
 ·replace H := iF (by decide) H
  simp only [Option.some.injEq, Prod.mk.injEq] at H
  obtain ⟨rfl, rfl, rfl⟩ := H
  go_enter Tryz.func36, Tryz.ntmps36
  go_wp2_with (first | ((with_reducible refine gC 58 ?_); refine zG (some 6) Tryz.func58 (spec_l1Cur_cave.calls k g s0_0 s0_1 s0_2 t338 t341 t342 w0 _ (zI HI0) (zB HB HI0) A2.out) ?_; rintro e w28 ⟨v339, rfl, ho0, hi, hb, hk⟩; refine ⟨_, rfl, ?_⟩; have HO340 := Aside0.mk (Kd.R_lower ho0 (keep_size (w := w) (g := g) (row := none) (zK HK))); replace HK := zKK HK hk; replace HB := Aside0.mk (hb); replace HI0 := Aside0.mk (hi); (try clear hb); (try clear hk); (try clear hi); (try clear ho0)) | ((with_reducible refine gC 59 ?_); refine zG (some 8) Tryz.func59 (spec_l1Cur_one.calls g s0_0 t341 t342 2 false t344 t345 w0 _ (zI HI0) (zB HB HI0) A3.out) ?_; rintro e w29 ⟨rfl, hi, hb, hk⟩; refine ⟨_, rfl, ?_⟩; replace HO340 := zO t341 t342 HI0 HO340 hk; replace HK := zKK HK hk; replace HB := Aside0.mk (hb); replace HI0 := Aside0.mk (hi); (try clear hb); (try clear hk); (try clear hi)))
  go_ret
  exact ⟨_, eB, upR HO340.out, zI HI0, zB HB HI0, zK HK⟩

/-! ### spec_l1Cur_entrances: function 37 -/
def spec_l1Cur_entrances.l0 : Nat → List Int → Int → List Int → Int → Int → Option (List Int × Int × Int)
 | 0, _, _, _, _, _ => none
 | k + 1, x3, x4, x1000, x1001, x1002 => if x4 < 7 then ((spec_l1Cur_one.f x1000 x1001 x1002 3).bind fun bt369 => (if bt369.1 = true then (if x3.length < 17592186044416 then (spec_l1Cur_entrances.l0 k (x3 ++ [x4]) (wrap64 (x4 + 1)) x1000 bt369.2.1 bt369.2.2) else (none)) else (spec_l1Cur_entrances.l0 k x3 (wrap64 (x4 + 1)) x1000 bt369.2.1 bt369.2.2))) else ((spec_l1Cur_one.f x1000 x1001 x1002 24).bind fun bt375 => (if bt375.1 = true then ((spec_l1Cur_among.f x1000 bt375.2.1 bt375.2.2 (([0, 7, 8] : List Int))).bind fun bt381 => (if x3.length < 17592186044416 then (some ((x3 ++ [bt381.1]), bt381.2.1, bt381.2.2)) else (none))) else (some (x3, bt375.2.1, bt375.2.2))))
def spec_l1Cur_entrances.f (k : Nat) (s0_0 : List Int) (s0_1 s0_2 : Int) : Option (List Int × Int × Int) := spec_l1Cur_entrances.l0 k (([] : List Int)) 0 s0_0 s0_1 s0_2
theorem spec_l1Cur_entrances.mono_l : ∀ k, (∀ y0 y1 y2 y3 y4, LeO (spec_l1Cur_entrances.l0 k y0 y1 y2 y3 y4) (spec_l1Cur_entrances.l0 (k + 1) y0 y1 y2 y3 y4))
 | 0 => fun _ _ _ _ _ r h => by simp [spec_l1Cur_entrances.l0] at h
 | k + 1 => by
  have ih0 := spec_l1Cur_entrances.mono_l k
  ·intro y0 y1 y2 y3 y4
   unfold spec_l1Cur_entrances.l0
   repeat' with_reducible first | apply ih0 | exact LeO.refl _ | exact LeO.none _ | refine LeO.ite ?_ ?_ | refine LeO.bind ?_ (fun _ => ?_)
theorem spec_l1Cur_entrances.mono : ∀ a0 a1 a2 k, LeO (spec_l1Cur_entrances.f k a0 a1 a2) (spec_l1Cur_entrances.f (k + 1) a0 a1 a2) := by
 intro a0 a1 a2 k
 have ih0 := spec_l1Cur_entrances.mono_l k
 unfold spec_l1Cur_entrances.f
 repeat' with_reducible first | apply ih0 | exact LeO.refl _ | exact LeO.none _ | refine LeO.ite ?_ ?_ | refine LeO.bind ?_ (fun _ => ?_)
set_option maxHeartbeats 8000000 in
set_option maxRecDepth 100000 in
theorem spec_l1Cur_entrances.calls (k g : Nat) (s0_0 : List Int) (s0_1 s0_2 : Int) (r1 : List Int) (r2 r3 : Int) (w0 w : World) (hI : IsS54 w0 w g s0_0 s0_1 s0_2) (hB : Below w0.heap.size w0 w) (h : spec_l1Cur_entrances.f k s0_0 s0_1 s0_2 = some (r1, r2, r3)) :
 Calls Tryz.prog 37 #[.pointer (some ⟨g, 0, none⟩)] w fun e w' => ∃ v0_ : Value, e = .returned (v0_) ∧ Kd.R (Kd.int .i64) 3 w' w.heap.size (fun _ => True) v0_ r1 ∧ IsS54 w0 w' g s0_0 r2 r3 ∧ Below w0.heap.size w0 w' ∧ KeepBut w w' g none := by
 have HI0 := Aside0.mk hI
 have HK := Aside0.mk (KeepBut.refl w g none)
 have HL := Aside0.mk hB.size
 clear hI
 have HW0 := Aside0.mk hB.size
 have HB := Aside0.mk hB
 clear hB
 have H := h
 clear h
 unfold spec_l1Cur_entrances.f at H
 obtain ⟨y366, hy366⟩ : ∃ y_ : List Int, y_ = (([] : List Int)) := ⟨_, rfl⟩
 rw [← hy366] at H
 have Ny366 := Aside0.mk hy366
 clear hy366
 have H' := Aside0.mk H
 clear H
 go_enter Tryz.func37, Tryz.ntmps37
 go_wp2_with (first | ((with_reducible refine gate_dst (N := 5) rfl ?_); refine Kd.R_lit (Kd.int .i64) _ 3 ?hg (N := 5) ?hd (xs := ([] : List Int)) (inner := []) (ok := fun _ => True) (okp := fun _ => True) ?hr ?hp (fun _ hk => hk) trivial (Below.refl _ _) (Nat.le_refl _) (by simp) ?_; (case hd => rfl); (case hg => rfl); (case hr => first | (go_simp; done) | (go_simp; rfl)); (case hp => exact (Reps.none _ _)); intro v367 w2 ho3 hb hg_ hnew_; clear hg_ hnew_; (first | rw [← Ny366.out] at ho3 | (simp only [Int.reduceToNat] at ho3; rw [← Ny366.out] at ho3)); have HO368 := Aside0.mk (Kd.R_lower ho3 (keep_size (w := w) (g := g) (row := none) (zK HK))); replace HK := zKK HK (KeepBut.of_below hb g none); replace HB := Aside0.mk (below_step (zB HB HI0) hb); replace HI0 := Aside0.mk (IsS54.below (keepF_ HI0 <| zI HI0) hb); clear hb ho3))
 (try simp only [Act.put, List.setIfInBounds_toArray, List.set_cons_zero, List.set_cons_succ])
 go_loopg [3, 4] k (fun kq v3 v4 w' => ∃ (x3_1 : List Int) (x4_1 x1001_1 x1002_1 : Int), v4 = .int .i64 x4_1 ∧ Aside0 (spec_l1Cur_entrances.l0 kq x3_1 x4_1 s0_0 x1001_1 x1002_1 = some (r1, r2, r3)) ∧ Aside0 (kq ≤ k) ∧ Aside0 (Kd.R (Kd.int .i64) 3 w' w.heap.size (fun _ => True) v3 x3_1) ∧ Aside0 (IsS54 w0 w' g s0_0 x1001_1 x1002_1) ∧ Aside0 (KeepBut w w' g none) ∧ Aside0 (Below w0.heap.size w0 w'))
 case atStart => exact ⟨(y366), (0), (s0_1), (s0_2), rB, H', ⟨Nat.le_refl _⟩, ⟨upR HO368.out⟩, ⟨zI HI0⟩, ⟨zK HK⟩, ⟨zB HB HI0⟩⟩
 case round =>
  clear H'
  obtain ⟨x3_1, x4_1, x1001_1, x1002_1, rfl, HA, HK1, HO_3, HI0, HK, HB⟩ := hrel
  cases gk with
  | zero => exact absurd HA.out (by simp [spec_l1Cur_entrances.l0])
  | succ k1 =>
   have H := HA.out
   clear HA
   simp only [spec_l1Cur_entrances.l0] at H
   replace H := ifD H
   rcases H with ⟨H, -, c4b0⟩ | ⟨H, -, c4b0⟩
   ·replace H := Option.bind_eq_some_iff.mp H
    obtain ⟨⟨t369, t370, t371⟩, A50, H⟩ := H
    (try dsimp only at H)
    have A5 := Aside0.mk A50
    clear A50
    rcases Bool.eq_false_or_eq_true t369 with rfl | rfl
    ·replace H := iT rfl H
     replace H := zM H
     obtain ⟨c7, H⟩ := H
     have LMc7 := Aside0.mk c7
     clear c7
     obtain ⟨y372, hy372⟩ : ∃ y_ : List Int, y_ = (x3_1 ++ [x4_1]) := ⟨_, rfl⟩
     rw [← hy372] at H
     have Ny372 := Aside0.mk hy372
     clear hy372
     have H' := Aside0.mk H
     clear H
     go_wp2_with (first | ((with_reducible refine gC 59 ?_); refine zG (some 11) Tryz.func59 (spec_l1Cur_one.calls g s0_0 x1001_1 x1002_1 3 true t370 t371 w0 _ (zI HI0) (zB HB HI0) A5.out) ?_; rintro e w8 ⟨rfl, hi, hb, hk⟩; refine ⟨_, rfl, ?_⟩; replace HO_3 := zO x1001_1 x1002_1 HI0 HO_3 hk; replace HK := zKK HK hk; replace HB := Aside0.mk (hb); replace HI0 := Aside0.mk (hi); (try clear hb); (try clear hk); (try clear hi)) | ((with_reducible refine gate_builtin (b := .append) (xs := #[.tmp 12, .tmp 14]) rfl ?_); at_builtin; refine Kd.R_append (Kd.int .i64) w.heap.size rfl (.tmp 12) (.tmp 14) 25 3 (.int .i64 0) 8 rfl Tryz.underlying25 info3 rfl (by decide) (by omega) u3 x3_1 x4_1 [.int .i64 x4_1] (fun _ => True) (fun _ => False) rfl rfl ?aP (fun _ hk => hk.elim) ?aF ?aO (Below.refl _ _) ?aS ?aL ?_; (case aP => exact rfl); (case aF => exact (fun _ _ => trivial)); (case aO => exact (upR HO_3.out)); (case aS => exact (keep_size (w := w) (g := g) (row := none) (zK HK))); (case aL => have := LMc7.out; omega); intro v373 w9 ho hb hg hat; rw [← Ny372.out] at ho; have HO374 := Aside0.mk (ho); replace HB := Aside0.mk (below_weaken (zB HB HI0) HL.out hb); replace HI0 := Aside0.mk (IsS54.grown (keepF_ HI0 <| zI HI0) hg (IsS54.own_ne HI0.out HO_3.out (by decide))); replace HK := Aside0.mk (KeepBut.trans (zK HK) (KeepBut.of_grown hg g) (Kd.R_base2 HO_3.out)); clear HO_3; clear ho hb hg hat))
     go_roundg k1
     case measure => have := HK1.out; omega
     case rel => exact ⟨(y372), (wrap64 (x4_1 + 1)), (t370), (t371), rB, H', ⟨by have := HK1.out; omega⟩, ⟨upR HO374.out⟩, ⟨zI HI0⟩, ⟨zK HK⟩, ⟨zB HB HI0⟩⟩
    ·replace H := iF (by decide) H
     have H' := Aside0.mk H
     clear H
     go_wp2_with (first | ((with_reducible refine gC 59 ?_); refine zG (some 11) Tryz.func59 (spec_l1Cur_one.calls g s0_0 x1001_1 x1002_1 3 false t370 t371 w0 _ (zI HI0) (zB HB HI0) A5.out) ?_; rintro e w10 ⟨rfl, hi, hb, hk⟩; refine ⟨_, rfl, ?_⟩; replace HO_3 := zO x1001_1 x1002_1 HI0 HO_3 hk; replace HK := zKK HK hk; replace HB := Aside0.mk (hb); replace HI0 := Aside0.mk (hi); (try clear hb); (try clear hk); (try clear hi)))
     go_roundg k1
     case measure => have := HK1.out; omega
     case rel => exact ⟨(x3_1), (wrap64 (x4_1 + 1)), (t370), (t371), rB, H', ⟨by have := HK1.out; omega⟩, ⟨upR HO_3.out⟩, ⟨zI HI0⟩, ⟨zK HK⟩, ⟨zB HB HI0⟩⟩
   ·replace H := Option.bind_eq_some_iff.mp H
    obtain ⟨⟨t375, t376, t377⟩, A110, H⟩ := H
    (try dsimp only at H)
    have A11 := Aside0.mk A110
    clear A110
    rcases Bool.eq_false_or_eq_true t375 with rfl | rfl
    ·replace H := iT rfl H
     obtain ⟨y378, hy378⟩ : ∃ y_ : List Int, y_ = (([0, 7, 8] : List Int)) := ⟨_, rfl⟩
     rw [← hy378] at H
     have Ny378 := Aside0.mk hy378
     clear hy378
     replace H := Option.bind_eq_some_iff.mp H
     obtain ⟨⟨t381, t382, t383⟩, A130, H⟩ := H
     (try dsimp only at H)
     have A13 := Aside0.mk A130
     clear A130
     replace H := zM H
     obtain ⟨c14, H⟩ := H
     have LMc14 := Aside0.mk c14
     clear c14
     obtain ⟨y384, hy384⟩ : ∃ y_ : List Int, y_ = (x3_1 ++ [t381]) := ⟨_, rfl⟩
     rw [← hy384] at H
     have Ny384 := Aside0.mk hy384
     clear hy384
     simp only [Option.some.injEq, Prod.mk.injEq] at H
     obtain ⟨rfl, rfl, rfl⟩ := H
     go_wp2_with (first | ((with_reducible refine gC 59 ?_); refine zG (some 17) Tryz.func59 (spec_l1Cur_one.calls g s0_0 x1001_1 x1002_1 24 true t376 t377 w0 _ (zI HI0) (zB HB HI0) A11.out) ?_; rintro e w15 ⟨rfl, hi, hb, hk⟩; refine ⟨_, rfl, ?_⟩; replace HO_3 := zO x1001_1 x1002_1 HI0 HO_3 hk; replace HK := zKK HK hk; replace HB := Aside0.mk (hb); replace HI0 := Aside0.mk (hi); (try clear hb); (try clear hk); (try clear hi)) | ((with_reducible refine gate_dst (N := 20) rfl ?_); refine Kd.R_lit (Kd.int .i64) _ 3 ?hg (N := 20) ?hd (xs := ([0, 7, 8] : List Int)) (inner := [.int .i64 0, .int .i64 7, .int .i64 8]) (ok := fun _ => True) (okp := fun _ => True) ?hr ?hp (fun _ hk => hk) trivial (Below.refl _ _) (Nat.le_refl _) (by simp) ?_; (case hd => rfl); (case hg => rfl); (case hr => first | (go_simp; done) | (go_simp; rfl)); (case hp => exact zInts _); intro v379 w16 ho17 hb hg_ hnew_; clear hg_ hnew_; (first | rw [← Ny378.out] at ho17 | (simp only [Int.reduceToNat] at ho17; rw [← Ny378.out] at ho17)); have HO380 := Aside0.mk (Kd.R_lower (Kd.R_new' ho17 (Kd.R_lt (upR HO_3.out))) (keep_size (w := w) (g := g) (row := none) (zK HK))); replace HO_3 := Aside0.mk (Kd.R_elder' (upR HO_3.out) (Kd.R_base ho17) hb); replace HK := zKK HK (KeepBut.of_below hb g none); replace HB := Aside0.mk (below_step (zB HB HI0) hb); replace HI0 := Aside0.mk (IsS54.below (keepF_ HI0 <| zI HI0) hb); clear hb ho17; obtain ⟨Ao18, co18, eo18⟩ := Kd.R_slice HO380.out; subst eo18) | ((with_reducible refine gC 61 ?_); refine zG (some 21) Tryz.func61 (spec_l1Cur_among.calls g s0_0 t376 t377 _ _ y378 t381 t382 t383 w0 _ (zI HI0) (zB HB HI0) (zCR HO380) ((Kd.R_reads' HO380.out).2.1) (far_slice (IsS54.own_ne HI0.out HO380.out (by decide))) A13.out) ?_; rintro e w19 ⟨rfl, hi, hb, hk⟩; refine ⟨_, rfl, ?_⟩; replace HO_3 := zO t376 t377 HI0 HO_3 hk; replace HO380 := zO t376 t377 HI0 HO380 hk; replace HK := zKK HK hk; replace HB := Aside0.mk (hb); replace HI0 := Aside0.mk (hi); (try clear hb); (try clear hk); (try clear hi)) | ((with_reducible refine gate_builtin (b := .append) (xs := #[.tmp 18, .tmp 22]) rfl ?_); at_builtin; refine Kd.R_append (Kd.int .i64) w.heap.size rfl (.tmp 18) (.tmp 22) 25 3 (.int .i64 0) 8 rfl Tryz.underlying25 info3 rfl (by decide) (by omega) u3 x3_1 t381 [.int .i64 t381] (fun k_ => some k_ ≠ (.slice Ao18 y378.length co18 : Value).ownBlock) (fun _ => False) rfl rfl ?aP (fun _ hk => hk.elim) ?aF ?aO (Below.refl _ _) ?aS ?aL ?_; (case aP => exact rfl); (case aF => exact (fun k_ hk => Kd.fresh' (Kd.R_lt (upR HO380.out)) k_ hk)); (case aO => exact (Kd.R_mono (upR HO_3.out) (fun _ hk => hk.2))); (case aS => exact (keep_size (w := w) (g := g) (row := none) (zK HK))); (case aL => have := LMc14.out; omega); intro v385 w20 ho hb hg hat; rw [← Ny384.out] at ho; have HO386 := Aside0.mk (ho); replace HO380 := Aside0.mk (Kd.R_after (ok := (fun _ => True)) (upR HO380.out) hg hat); replace HB := Aside0.mk (below_weaken (zB HB HI0) HL.out hb); replace HI0 := Aside0.mk (IsS54.grown (keepF_ HI0 <| zI HI0) hg (IsS54.own_ne HI0.out HO_3.out (by decide))); replace HK := Aside0.mk (KeepBut.trans (zK HK) (KeepBut.of_grown hg g) (Kd.R_base2 HO_3.out)); clear HO_3; clear ho hb hg hat))
     go_ret
     exact ⟨_, eB, Kd.R_mono (upR HO386.out) (fun _ hk => trivial), zI HI0, zB HB HI0, zK HK⟩
    ·replace H := iF (by decide) H
     simp only [Option.some.injEq, Prod.mk.injEq] at H
     obtain ⟨rfl, rfl, rfl⟩ := H
     go_wp2_with (first | ((with_reducible refine gC 59 ?_); refine zG (some 17) Tryz.func59 (spec_l1Cur_one.calls g s0_0 x1001_1 x1002_1 24 false t376 t377 w0 _ (zI HI0) (zB HB HI0) A11.out) ?_; rintro e w21 ⟨rfl, hi, hb, hk⟩; refine ⟨_, rfl, ?_⟩; replace HO_3 := zO x1001_1 x1002_1 HI0 HO_3 hk; replace HK := zKK HK hk; replace HB := Aside0.mk (hb); replace HI0 := Aside0.mk (hi); (try clear hb); (try clear hk); (try clear hi)))
     go_ret
     exact ⟨_, eB, upR HO_3.out, zI HI0, zB HB HI0, zK HK⟩

/-! ### spec_DrawThroughTrips: function 21 -/
def spec_DrawThroughTrips.f (k : Nat) (l0 : List Int) : Option ((List (S32)) × List Int) := (spec_l1Cur_caves.f k l0 0 0).bind fun bt388 => ((spec_l1Cur_entrances.f k l0 bt388.2.1 bt388.2.2).bind fun bt393 => (some (bt388.1, bt393.1)))
theorem spec_DrawThroughTrips.mono : ∀ a0 k, LeO (spec_DrawThroughTrips.f k a0) (spec_DrawThroughTrips.f (k + 1) a0) := by
 intro a0 k
 unfold spec_DrawThroughTrips.f
 repeat' with_reducible first | apply spec_l1Cur_caves.mono | apply spec_l1Cur_entrances.mono | exact LeO.refl _ | exact LeO.none _ | refine LeO.ite ?_ ?_ | refine LeO.bind ?_ (fun _ => ?_)
set_option maxHeartbeats 8000000 in
set_option maxRecDepth 100000 in
theorem spec_DrawThroughTrips.calls (k : Nat) (A0 : Option Addr) (c0 : Nat) (l0 : List Int) (r1 : List (S32)) (r2 : List Int) (w : World) (hr0 : Kd.C (Kd.int .u8) w A0 l0.length l0) (hc0 : l0.length ≤ c0) (h : spec_DrawThroughTrips.f k l0 = some (r1, r2)) :
 Calls Tryz.prog 21 #[.slice A0 l0.length c0] w fun e w' => ∃ v0_ v1_ : Value, e = .returned (.tuple #[v0_, v1_]) ∧ Kd.R k32 32 w' w.heap.size (fun _ => True) v0_ r1 ∧ Kd.R (Kd.int .i64) 3 w' w.heap.size (fun _ => True) v1_ r2 ∧ Below w.heap.size w w' := by
 have hu54 := Tryz.underlying54
 have HR0 := Aside0.mk hr0
 have HC0 := Aside0.mk hc0
 clear hr0 hc0
 have HB := Aside0.mk (Below.refl w.heap.size w)
 have H := h
 clear h
 unfold spec_DrawThroughTrips.f at H
 replace H := Option.bind_eq_some_iff.mp H
 obtain ⟨⟨t388, t391, t392⟩, A20, H⟩ := H
 (try dsimp only at H)
 have A2 := Aside0.mk A20
 clear A20
 replace H := Option.bind_eq_some_iff.mp H
 obtain ⟨⟨t393, t396, t397⟩, A30, H⟩ := H
 (try dsimp only at H)
 have A3 := Aside0.mk A30
 clear A30
 simp only [Option.some.injEq, Prod.mk.injEq] at H
 obtain ⟨rfl, rfl⟩ := H
 go_enter Tryz.func21, Tryz.ntmps21
 go_wp2_with (first | ((with_reducible refine gD 7 ?_); refine bxE 7 54 #[.slice A0 l0.length c0, .int .i64 0, .int .u64 0] fun gb387 w4 hg hbox hb => ?_; have GE387 := gB HB hg; have HI387 := Aside0.mk ((⟨_, _, hbox, (by rw [hg]; exact (below_size (bW HB)) : w.heap.size ≤ gb387), HR0.out⟩ : IsS54 w w4 gb387 l0 0 0)); replace HB := uB HB hb; clear hb hbox hg) | ((with_reducible refine gC 36 ?_); refine zG (some 9) Tryz.func36 (spec_l1Cur_caves.calls k gb387 l0 0 0 t388 t391 t392 w _ (zI HI387) (zB HB HI387) A2.out) ?_; rintro e w5 ⟨v389, rfl, ho0, hi, hb, hk⟩; refine ⟨_, rfl, ?_⟩; have HO390 := Aside0.mk (Kd.R_lower ho0 (below_size (zB HB HI387))); replace HB := Aside0.mk (hb); replace HI387 := Aside0.mk (hi); (try clear hb); (try clear hk); (try clear hi); (try clear ho0)) | ((with_reducible refine gC 37 ?_); refine zG (some 11) Tryz.func37 (spec_l1Cur_entrances.calls k gb387 l0 t391 t392 t393 t396 t397 w _ (zI HI387) (zB HB HI387) A3.out) ?_; rintro e w6 ⟨v394, rfl, ho0, hi, hb, hk⟩; refine ⟨_, rfl, ?_⟩; have HO395 := Aside0.mk (Kd.R_lower ho0 (below_size (zB HB HI387))); replace HO390 := Aside0.mk (Kd.R_mono (Kd.R_keep (IsS54.apart (show IsS54 w _ gb387 l0 t391 t392 from zI HI387) (upR HO390.out) (by decide)) hk (fun _ h => h.2)) (fun _ h => h.1)); replace HB := Aside0.mk (hb); replace HI387 := Aside0.mk (hi); (try clear hb); (try clear hk); (try clear hi); (try clear ho0)))
 go_ret2
 exact ⟨_, _, eB, upR HO390.out, upR HO395.out, zB HB HI387⟩

/-! ### spec_DrawStepsFrom: function 5 -/
def spec_DrawStepsFrom.f (k : Nat) (l0 : List Int) : Option ((List (S32)) × List Int) := (spec_DrawThroughTrips.f k l0).bind fun bt398 => (some (bt398.1, bt398.2))
theorem spec_DrawStepsFrom.mono : ∀ a0 k, LeO (spec_DrawStepsFrom.f k a0) (spec_DrawStepsFrom.f (k + 1) a0) := by
 intro a0 k
 unfold spec_DrawStepsFrom.f
 repeat' with_reducible first | apply spec_DrawThroughTrips.mono | exact LeO.refl _ | exact LeO.none _ | refine LeO.ite ?_ ?_ | refine LeO.bind ?_ (fun _ => ?_)
set_option maxHeartbeats 8000000 in
set_option maxRecDepth 100000 in
theorem spec_DrawStepsFrom.calls (k : Nat) (A0 : Option Addr) (c0 : Nat) (l0 : List Int) (r1 : List (S32)) (r2 : List Int) (w : World) (hr0 : Kd.C (Kd.int .u8) w A0 l0.length l0) (hc0 : l0.length ≤ c0) (h : spec_DrawStepsFrom.f k l0 = some (r1, r2)) :
 Calls Tryz.prog 5 #[.slice A0 l0.length c0] w fun e w' => ∃ v0_ v1_ : Value, e = .returned (.tuple #[v0_, v1_]) ∧ Kd.R k32 32 w' w.heap.size (fun _ => True) v0_ r1 ∧ Kd.R (Kd.int .i64) 3 w' w.heap.size (fun _ => True) v1_ r2 ∧ Below w.heap.size w w' := by
 have HR0 := Aside0.mk hr0
 have HC0 := Aside0.mk hc0
 clear hr0 hc0
 have HB := Aside0.mk (Below.refl w.heap.size w)
 have H := h
 clear h
 unfold spec_DrawStepsFrom.f at H
 replace H := Option.bind_eq_some_iff.mp H
 obtain ⟨⟨t398, t399⟩, A20, H⟩ := H
 (try dsimp only at H)
 have A2 := Aside0.mk A20
 clear A20
 simp only [Option.some.injEq, Prod.mk.injEq] at H
 obtain ⟨rfl, rfl⟩ := H
 go_enter Tryz.func5, Tryz.ntmps5
 go_wp2_with (first | ((with_reducible refine gC 21 ?_); refine zG (some 5) Tryz.func21 (spec_DrawThroughTrips.calls k _ _ l0 t398 t399 _ (zC HR0) (HC0.out) A2.out) ?_; rintro e w3 ⟨v400, v402, rfl, ho0, ho1, hb⟩; refine ⟨_, rfl, ?_⟩; have HO401 := Aside0.mk (Kd.R_lower ho0 (below_size (bW HB))); have HO403 := Aside0.mk (Kd.R_lower ho1 (below_size (bW HB))); replace HB := uB HB hb; (try clear hb); (try clear ho0); (try clear ho1)))
 go_ret2
 exact ⟨_, _, eB, upR HO401.out, upR HO403.out, (bW HB)⟩

/-! ### impl_within: function 62 -/
def impl_within.f (a0 a1 a2 : Int) : Option (Bool) := if a0 ≥ a1 then (some (decide (a0 ≤ a2))) else (some false)
set_option maxHeartbeats 8000000 in
set_option maxRecDepth 100000 in
theorem impl_within.calls (a0 a1 a2 : Int) (r : Bool) (w : World) (h : impl_within.f a0 a1 a2 = some r) :
 Calls Tryz.prog 62 #[.int .i64 a0, .int .i64 a1, .int .i64 a2] w fun e w' => e = .returned (.bool r) ∧ Drawn0 w w' := by
 have H := h
 clear h
 unfold impl_within.f at H
 replace H := ifD H
 rcases H with ⟨H, -, c4b0⟩ | ⟨H, -, c4b0⟩
 ·obtain rfl := Option.some.inj H
  go_enter Tryz.func62, Tryz.ntmps62
  go_wp2
  go_ret
  exact ⟨rB, by repeat (first | exact Drawn0.refl _ | apply Drawn0.step)⟩
 ·obtain rfl := Option.some.inj H
  go_enter Tryz.func62, Tryz.ntmps62
  go_wp2
  go_ret
  exact ⟨rB, by repeat (first | exact Drawn0.refl _ | apply Drawn0.step)⟩

/-! ### impl_isStation: function 65 -/
def impl_isStation.f (a0 : Int) : Option (Bool) := (impl_within.f a0 0 7).bind fun t404 => (some t404)
set_option maxHeartbeats 8000000 in
set_option maxRecDepth 100000 in
theorem impl_isStation.calls (a0 : Int) (r : Bool) (w : World) (h : impl_isStation.f a0 = some r) :
 Calls Tryz.prog 65 #[.int .i64 a0] w fun e w' => e = .returned (.bool r) ∧ Drawn0 w w' := by
 have H := h
 clear h
 unfold impl_isStation.f at H
 replace H := bA H
 obtain ⟨t404, A2, H⟩ := H
 obtain rfl := Option.some.inj H
 go_enter Tryz.func65, Tryz.ntmps65
 go_wp2_with (first | ((with_reducible refine gC 62 ?_); refine lA (some 4) Tryz.func62 (impl_within.calls a0 0 7 t404 _ A2.out) ?_; rintro _ ⟨nd, rfl⟩))
 go_ret
 exact ⟨rB, by repeat (first | exact Drawn0.refl _ | apply Drawn0.step)⟩

/-! ### impl_isBearing: function 66 -/
def impl_isBearing.f (a0 : Int) : Option (Bool) := (impl_within.f a0 0 359).bind fun t405 => (some t405)
set_option maxHeartbeats 8000000 in
set_option maxRecDepth 100000 in
theorem impl_isBearing.calls (a0 : Int) (r : Bool) (w : World) (h : impl_isBearing.f a0 = some r) :
 Calls Tryz.prog 66 #[.int .i64 a0] w fun e w' => e = .returned (.bool r) ∧ Drawn0 w w' := by
 have H := h
 clear h
 unfold impl_isBearing.f at H
 replace H := bA H
 obtain ⟨t405, A2, H⟩ := H
 obtain rfl := Option.some.inj H
 go_enter Tryz.func66, Tryz.ntmps66
 go_wp2_with (first | ((with_reducible refine gC 62 ?_); refine lA (some 4) Tryz.func62 (impl_within.calls a0 0 359 t405 _ A2.out) ?_; rintro _ ⟨nd, rfl⟩))
 go_ret
 exact ⟨rB, by repeat (first | exact Drawn0.refl _ | apply Drawn0.step)⟩

/-! ### impl_IsLeg: function 44 -/
def impl_IsLeg.f (a0_0 a0_1 a0_2 a0_3 a0_4 : Int) : Option (Bool) := (impl_isStation.f a0_0).bind fun t407 => (if t407 = true then ((impl_isStation.f a0_1).bind fun t408 => (if t408 = true then (if a0_0 = a0_1 then (some false) else ((impl_within.f a0_2 1 500).bind fun t409 => (if t409 = true then ((impl_isBearing.f a0_3).bind fun t410 => (if t410 = true then ((impl_within.f a0_4 (-90) 90).bind fun t411 => (some t411)) else (some false))) else (some false)))) else (some false))) else (some false))
set_option maxHeartbeats 8000000 in
set_option maxRecDepth 100000 in
theorem impl_IsLeg.calls (a0_0 a0_1 a0_2 a0_3 a0_4 : Int) (r : Bool) (w : World) (h : impl_IsLeg.f a0_0 a0_1 a0_2 a0_3 a0_4 = some r) :
 Calls Tryz.prog 44 #[.agg #[.int .i64 a0_0, .int .i64 a0_1, .int .i64 a0_2, .int .i64 a0_3, .int .i64 a0_4]] w fun e w' => e = .returned (.bool r) ∧ Below w.heap.size w w' := by
 have hu32 := Tryz.underlying32
 have HB := Aside0.mk (Below.refl w.heap.size w)
 have H := h
 clear h
 unfold impl_IsLeg.f at H
 replace H := bA H
 obtain ⟨t407, A2, H⟩ := H
 rcases Bool.eq_false_or_eq_true t407 with rfl | rfl
 ·replace H := iT rfl H
  replace H := bA H
  obtain ⟨t408, A4, H⟩ := H
  rcases Bool.eq_false_or_eq_true t408 with rfl | rfl
  ·replace H := iT rfl H
   replace H := ifI H
   rcases H with ⟨H, -, c6b0, c6b1⟩ | ⟨H, c6, c6b0, c6b1⟩
   ·obtain rfl := Option.some.inj H
    go_enter Tryz.func44, Tryz.ntmps44
    go_wp2_with (first | ((with_reducible refine gD 1 ?_); refine bxE 1 32 #[.int .i64 a0_0, .int .i64 a0_1, .int .i64 a0_2, .int .i64 a0_3, .int .i64 a0_4] fun gb406 w7 hg hbox hb => ?_; have BK406 := Aside0.mk hbox; have GE406 := gB HB hg; replace HB := uB HB hb; clear hb hbox hg; have ⟨hcz8_0, hcz8_1, hcz8_2, hcz8_3, hcz8_4, hfz8_0⟩ := cz5 BK406) | ((with_reducible refine gC 65 ?_); refine lA (some 5) Tryz.func65 (impl_isStation.calls a0_0 true _ A2.out) ?_; rintro _ ⟨nd, rfl⟩) | (go_at_call 65; (with_reducible refine (impl_isStation.calls a0_1 true _ A4.out).mono ?_); rintro e w' ⟨rfl, ⟨nd, rfl⟩⟩))
    go_ret
    exact ⟨eB, (bW HB)⟩
   ·replace H := bA H
    obtain ⟨t409, A9, H⟩ := H
    rcases Bool.eq_false_or_eq_true t409 with rfl | rfl
    ·replace H := iT rfl H
     replace H := bA H
     obtain ⟨t410, A11, H⟩ := H
     rcases Bool.eq_false_or_eq_true t410 with rfl | rfl
     ·replace H := iT rfl H
      replace H := bA H
      obtain ⟨t411, A13, H⟩ := H
      obtain rfl := Option.some.inj H
      go_enter Tryz.func44, Tryz.ntmps44
      go_wp2_with (first | ((with_reducible refine gD 1 ?_); refine bxE 1 32 #[.int .i64 a0_0, .int .i64 a0_1, .int .i64 a0_2, .int .i64 a0_3, .int .i64 a0_4] fun gb406 w14 hg hbox hb => ?_; have BK406 := Aside0.mk hbox; have GE406 := gB HB hg; replace HB := uB HB hb; clear hb hbox hg; have ⟨hcz15_0, hcz15_1, hcz15_2, hcz15_3, hcz15_4, hfz15_0⟩ := cz5 BK406) | ((with_reducible refine gC 65 ?_); refine lA (some 5) Tryz.func65 (impl_isStation.calls a0_0 true _ A2.out) ?_; rintro _ ⟨nd, rfl⟩) | (go_at_call 65; (with_reducible refine (impl_isStation.calls a0_1 true _ A4.out).mono ?_); rintro e w' ⟨rfl, ⟨nd, rfl⟩⟩) | (go_at_call 62; (with_reducible refine (impl_within.calls a0_2 1 500 true _ A9.out).mono ?_); rintro e w' ⟨rfl, ⟨nd, rfl⟩⟩) | (go_at_call 66; (with_reducible refine (impl_isBearing.calls a0_3 true _ A11.out).mono ?_); rintro e w' ⟨rfl, ⟨nd, rfl⟩⟩) | (go_at_call 62; (with_reducible refine (impl_within.calls a0_4 (-90) 90 t411 _ A13.out).mono ?_); rintro e w' ⟨rfl, ⟨nd, rfl⟩⟩))
      go_ret
      exact ⟨eB, (bW HB)⟩
     ·replace H := iF (by decide) H
      obtain rfl := Option.some.inj H
      go_enter Tryz.func44, Tryz.ntmps44
      go_wp2_with (first | ((with_reducible refine gD 1 ?_); refine bxE 1 32 #[.int .i64 a0_0, .int .i64 a0_1, .int .i64 a0_2, .int .i64 a0_3, .int .i64 a0_4] fun gb406 w16 hg hbox hb => ?_; have BK406 := Aside0.mk hbox; have GE406 := gB HB hg; replace HB := uB HB hb; clear hb hbox hg; have ⟨hcz17_0, hcz17_1, hcz17_2, hcz17_3, hcz17_4, hfz17_0⟩ := cz5 BK406) | ((with_reducible refine gC 65 ?_); refine lA (some 5) Tryz.func65 (impl_isStation.calls a0_0 true _ A2.out) ?_; rintro _ ⟨nd, rfl⟩) | (go_at_call 65; (with_reducible refine (impl_isStation.calls a0_1 true _ A4.out).mono ?_); rintro e w' ⟨rfl, ⟨nd, rfl⟩⟩) | (go_at_call 62; (with_reducible refine (impl_within.calls a0_2 1 500 true _ A9.out).mono ?_); rintro e w' ⟨rfl, ⟨nd, rfl⟩⟩) | (go_at_call 66; (with_reducible refine (impl_isBearing.calls a0_3 false _ A11.out).mono ?_); rintro e w' ⟨rfl, ⟨nd, rfl⟩⟩))
      go_ret
      exact ⟨eB, (bW HB)⟩
    ·replace H := iF (by decide) H
     obtain rfl := Option.some.inj H
     go_enter Tryz.func44, Tryz.ntmps44
     go_wp2_with (first | ((with_reducible refine gD 1 ?_); refine bxE 1 32 #[.int .i64 a0_0, .int .i64 a0_1, .int .i64 a0_2, .int .i64 a0_3, .int .i64 a0_4] fun gb406 w18 hg hbox hb => ?_; have BK406 := Aside0.mk hbox; have GE406 := gB HB hg; replace HB := uB HB hb; clear hb hbox hg; have ⟨hcz19_0, hcz19_1, hcz19_2, hcz19_3, hcz19_4, hfz19_0⟩ := cz5 BK406) | ((with_reducible refine gC 65 ?_); refine lA (some 5) Tryz.func65 (impl_isStation.calls a0_0 true _ A2.out) ?_; rintro _ ⟨nd, rfl⟩) | (go_at_call 65; (with_reducible refine (impl_isStation.calls a0_1 true _ A4.out).mono ?_); rintro e w' ⟨rfl, ⟨nd, rfl⟩⟩) | (go_at_call 62; (with_reducible refine (impl_within.calls a0_2 1 500 false _ A9.out).mono ?_); rintro e w' ⟨rfl, ⟨nd, rfl⟩⟩))
     go_ret
     exact ⟨eB, (bW HB)⟩
  ·replace H := iF (by decide) H
   obtain rfl := Option.some.inj H
   go_enter Tryz.func44, Tryz.ntmps44
   go_wp2_with (first | ((with_reducible refine gD 1 ?_); refine bxE 1 32 #[.int .i64 a0_0, .int .i64 a0_1, .int .i64 a0_2, .int .i64 a0_3, .int .i64 a0_4] fun gb406 w20 hg hbox hb => ?_; have BK406 := Aside0.mk hbox; have GE406 := gB HB hg; replace HB := uB HB hb; clear hb hbox hg; have ⟨hcz21_0, hcz21_1, hcz21_2, hcz21_3, hcz21_4, hfz21_0⟩ := cz5 BK406) | ((with_reducible refine gC 65 ?_); refine lA (some 5) Tryz.func65 (impl_isStation.calls a0_0 true _ A2.out) ?_; rintro _ ⟨nd, rfl⟩) | (go_at_call 65; (with_reducible refine (impl_isStation.calls a0_1 false _ A4.out).mono ?_); rintro e w' ⟨rfl, ⟨nd, rfl⟩⟩))
   go_ret
   exact ⟨eB, (bW HB)⟩
 ·replace H := iF (by decide) H
  obtain rfl := Option.some.inj H
  go_enter Tryz.func44, Tryz.ntmps44
  go_wp2_with (first | ((with_reducible refine gD 1 ?_); refine bxE 1 32 #[.int .i64 a0_0, .int .i64 a0_1, .int .i64 a0_2, .int .i64 a0_3, .int .i64 a0_4] fun gb406 w22 hg hbox hb => ?_; have BK406 := Aside0.mk hbox; have GE406 := gB HB hg; replace HB := uB HB hb; clear hb hbox hg; have ⟨hcz23_0, hcz23_1, hcz23_2, hcz23_3, hcz23_4, hfz23_0⟩ := cz5 BK406) | ((with_reducible refine gC 65 ?_); refine lA (some 5) Tryz.func65 (impl_isStation.calls a0_0 false _ A2.out) ?_; rintro _ ⟨nd, rfl⟩))
  go_ret
  exact ⟨eB, (bW HB)⟩

end Go.Proofs.YtmfidodcpbochaaGreat.QFnSteps
