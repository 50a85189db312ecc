/- Contracts of Go functions that FnVersions reaches: the call computes what the plain function says. No condition. -/
import Derived.Test.YtinelmmnajelaaaQFnVersionsx0
import Derived.Test.YtinelmmnajelaaaQFnVersionsx3
import Derived.Test.YtinelmmnajelaaaQFnVersionsx8
import Derived.Test.YtinelmmnajelaaaQFnVersionsx9
namespace Go.Proofs.Ytinelmmnajelaaa.QFnVersions
open Go.RowKit Go.Proofs.YtinelmmnajelaaaW.PrintWords Go.Proofs.YtinelmmnajelaaaW.PrintLast Go.Proofs.YtinelmmnajelaaaW.PrintMore
attribute [local go_sem] max2_int min2_int max_two min_two max_three min_three max_four min_four   -- for this text's walks alone
set_option linter.unusedVariables false
set_option linter.unusedSimpArgs false

/-! ### spec_UndoEdits: function 45 -/
mutual
def spec_UndoEdits.j0 : Nat → List (S28) → Int → List (S28) → Bool → Option ((List (S28)) × Bool)
 | 0, _, _, _, _ => none
 | k + 1, x1, x2, x8, x21 => if x21 = true then (some (x8, false)) else (spec_UndoEdits.l0 k x1 x2 x8 (wrap64 ((x1.length : Int) - 1)))
def spec_UndoEdits.l0 : Nat → List (S28) → Int → List (S28) → Int → Option ((List (S28)) × Bool)
 | 0, _, _, _, _ => none
 | k + 1, x1, x2, x8, x9 => if x9 ≥ (wrap64 ((x1.length : Int) - x2)) then (if 0 ≤ x9 then (if x9 < (x1.length : Int) then ((spec_l19Inverse.f ((rd_T28 x1 x9).f0) ((rd_T28 x1 x9).f1) ((rd_T28 x1 x9).f2.f0) ((rd_T28 x1 x9).f2.f1) ((rd_T28 x1 x9).f2.f2) ((rd_T28 x1 x9).f2.f3) ((rd_T28 x1 x9).f2.f4) ((rd_T28 x1 x9).f3.f0) ((rd_T28 x1 x9).f3.f1) ((rd_T28 x1 x9).f3.f2) ((rd_T28 x1 x9).f3.f3) ((rd_T28 x1 x9).f3.f4)).bind fun bt312 => (if x8.length < 1466015503701 then (spec_UndoEdits.l0 k x1 x2 (x8 ++ [(⟨bt312.1, bt312.2.1, (⟨bt312.2.2.1, bt312.2.2.2.1, bt312.2.2.2.2.1, bt312.2.2.2.2.2.1, bt312.2.2.2.2.2.2.1⟩ : S26), (⟨bt312.2.2.2.2.2.2.2.1, bt312.2.2.2.2.2.2.2.2.1, bt312.2.2.2.2.2.2.2.2.2.1, bt312.2.2.2.2.2.2.2.2.2.2.1, bt312.2.2.2.2.2.2.2.2.2.2.2⟩ : S26)⟩ : S28)]) (wrap64 (x9 - 1))) else (none))) else (none)) else (none)) else (some (x8, true))
end
def spec_UndoEdits.f (k : Nat) (l0 : List (S26)) (l1 : List (S28)) (a2 : Int) : Option ((List (S28)) × Bool) := (some (([] : List (S28)) : List (S28))).bind fun y306 => ((spec_l19Good.f k l0 l1).bind fun t309 => (if t309 = true then ((spec_l1In.f a2 0 (l1.length : Int)).bind fun t310 => (spec_UndoEdits.j0 k l1 a2 y306 (!t310))) else (spec_UndoEdits.j0 k l1 a2 y306 true)))
theorem spec_UndoEdits.mono_l : ∀ k, (∀ y0 y1 y2 y3, LeO (spec_UndoEdits.j0 k y0 y1 y2 y3) (spec_UndoEdits.j0 (k + 1) y0 y1 y2 y3)) ∧ (∀ y0 y1 y2 y3, LeO (spec_UndoEdits.l0 k y0 y1 y2 y3) (spec_UndoEdits.l0 (k + 1) y0 y1 y2 y3))
 | 0 => ⟨fun _ _ _ _ r h => by simp [spec_UndoEdits.j0] at h, fun _ _ _ _ r h => by simp [spec_UndoEdits.l0] at h⟩
 | k + 1 => by
  obtain ⟨ih0, ih1⟩ := spec_UndoEdits.mono_l k
  refine ⟨?_, ?_⟩
  ·intro y0 y1 y2 y3
   unfold spec_UndoEdits.j0
   repeat' with_reducible first | apply ih0 | apply ih1 | apply spec_l19Good.mono | exact LeO.refl _ | exact LeO.none _ | refine LeO.ite ?_ ?_ | refine LeO.bind ?_ (fun _ => ?_)
  ·intro y0 y1 y2 y3
   unfold spec_UndoEdits.l0
   repeat' with_reducible first | apply ih0 | apply ih1 | apply spec_l19Good.mono | exact LeO.refl _ | exact LeO.none _ | refine LeO.ite ?_ ?_ | refine LeO.bind ?_ (fun _ => ?_)
theorem spec_UndoEdits.mono : ∀ a0 a1 a2 k, LeO (spec_UndoEdits.f k a0 a1 a2) (spec_UndoEdits.f (k + 1) a0 a1 a2) := by
 intro a0 a1 a2 k
 obtain ⟨ih0, ih1⟩ := spec_UndoEdits.mono_l k
 unfold spec_UndoEdits.f
 repeat' with_reducible first | apply ih0 | apply ih1 | apply spec_l19Good.mono | exact LeO.refl _ | exact LeO.none _ | refine LeO.ite ?_ ?_ | refine LeO.bind ?_ (fun _ => ?_)
set_option maxHeartbeats 8000000 in
set_option maxRecDepth 100000 in
theorem spec_UndoEdits.calls (k : Nat) (A0 : Option Addr) (c0 : Nat) (l0 : List (S26)) (A1 : Option Addr) (c1 : Nat) (l1 : List (S28)) (a2 : Int) (r1 : List (S28)) (r2 : Bool) (w : World) (hr0 : Kd.C k26 w A0 l0.length l0) (hc0 : l0.length ≤ c0) (hr1 : Kd.C k28 w A1 l1.length l1) (hc1 : l1.length ≤ c1) (h : spec_UndoEdits.f k l0 l1 a2 = some (r1, r2)) :
  Calls Try.prog 45 #[.slice A0 l0.length c0, .slice A1 l1.length c1, .int .i64 a2] w fun e w' => ∃ v0_ : Value, e = .returned (.tuple #[v0_, .bool r2]) ∧ Kd.R k28 28 w' w.heap.size (fun _ => True) v0_ r1 ∧ Below w.heap.size w w' := by
 have hu28 := Try.underlying28
 have HR0 := Aside0.mk hr0
 have HC0 := Aside0.mk hc0
 clear hr0 hc0
 have HR1 := Aside0.mk hr1
 have HC1 := Aside0.mk hc1
 clear hr1 hc1
 have HB := Aside0.mk (Below.refl w.heap.size w)
 have H := h
 clear h
 unfold spec_UndoEdits.f at H
 obtain ⟨y306, hy306⟩ : ∃ y_ : List (S28), y_ = (([] : List (S28))) := ⟨_, rfl⟩
 replace H : ((spec_l19Good.f k l0 l1).bind fun t309 => (if t309 = true then ((spec_l1In.f a2 0 (l1.length : Int)).bind fun t310 => (spec_UndoEdits.j0 k l1 a2 y306 (!t310))) else (spec_UndoEdits.j0 k l1 a2 y306 true))) = some (r1, r2) := by first | (rw [hy306]; with_reducible exact H) | (have H2_ := (Option.bind_some _ _).symm.trans H; rw [hy306]; with_reducible exact H2_) | (have H2_ := (Option.bind_some _ _).symm.trans H; with_reducible exact H2_) | with_reducible exact H | (rw [hy306]; exact H) | exact H
 have Ny306 := Aside0.mk hy306
 clear hy306
 have HC4 := Aside0.mk H
 clear H
 go_enter Try.func45, Try.ntmps45
 go_upto_region 2 with (first | ((with_reducible refine gate_dst (N := 10) rfl ?_); (try (refine gate_guard (by rfl) ?_; dsimp only)); refine Kd.R_lit k28 _ 28 ?hg (N := 10) ?hd (xs := ([] : List (S28))) (inner := []) (ok := fun _ => True) (okp := fun _ => True) ?hr ?hp (fun _ hk => hk) trivial (Below.refl _ _) (Nat.le_refl _) (by simp) ?_; (case hd => rfl); (case hg => rfl); (case hr => first | (go_simp; done) | (go_simp; rfl)); (case hp => exact (Reps.none _ _)); intro v307 w5 ho6 hb hg_ hnew_; clear hg_ hnew_; (first | rw [← Ny306.out] at ho6 | (simp only [Int.reduceToNat] at ho6; rw [← Ny306.out] at ho6)); have HO308 := Aside0.mk (Kd.R_lower ho6 (below_size (bW HB))); replace HB := uB HB hb; clear hb ho6))
 (try simp only [Act.put, List.setIfInBounds_toArray, List.set_cons_zero, List.set_cons_succ])
 go_cut [21] (fun v21 wc => ∃ (kq : Nat) (x21_3 : Bool), v21 = .bool x21_3 ∧ Aside0 (spec_UndoEdits.j0 kq l1 a2 y306 x21_3 = some (r1, r2)) ∧ Aside0 (kq ≤ k) ∧ Aside0 (Kd.R k28 28 wc w.heap.size (fun _ => True) v307 y306) ∧ Aside0 (Below w.heap.size w wc))
 case first =>
  have H := HC4.out
  clear HC4
  replace H := bA H
  obtain ⟨t309, A7, H⟩ := H
  rcases Bool.eq_false_or_eq_true t309 with rfl | rfl
  ·replace H := iT rfl H
   replace H := bA H
   obtain ⟨t310, A9, H⟩ := H
   have H' := Aside0.mk H
   clear H
   go_wp2_with (first | ((with_reducible refine gC 68 ?_); refine lA (some 13) Try.func68 (spec_l19Good.calls k _ _ l0 _ _ l1 true _ ?side1 ?side2 ?side3 ?side4 A7.out) ?_; (case side1 => repeat (first | exact (Kd.C_below HR0.out HB.out) | (with_reducible refine Kd.C_alloc ?_ _) | (with_reducible refine Kd.C_drewN ?_ _) | (with_reducible refine Kd.C_drew ?_))); (case side2 => exact HC0.out); (case side3 => repeat (first | exact (Kd.C_below HR1.out HB.out) | (with_reducible refine Kd.C_alloc ?_ _) | (with_reducible refine Kd.C_drewN ?_ _) | (with_reducible refine Kd.C_drew ?_))); (case side4 => exact HC1.out); intro w10 hb; replace HO308 := uR HO308 hb; replace HB := uB HB hb; (try clear hb); (try clear hk)) | (go_at_call 70; (with_reducible refine (spec_l1In.calls a2 0 (l1.length : Int) t310 _ A9.out).mono ?_); rintro e w' ⟨rfl, ⟨nd, rfl⟩⟩))
   go_meet
   case rel => exact ⟨_, (!t310), rB, H', leB, ⟨upR HO308.out⟩, (aB HB)⟩
  ·replace H := iF (by decide) H
   have H' := Aside0.mk H
   clear H
   go_wp2_with (first | ((with_reducible refine gC 68 ?_); refine lA (some 13) Try.func68 (spec_l19Good.calls k _ _ l0 _ _ l1 false _ ?side1 ?side2 ?side3 ?side4 A7.out) ?_; (case side1 => repeat (first | exact (Kd.C_below HR0.out HB.out) | (with_reducible refine Kd.C_alloc ?_ _) | (with_reducible refine Kd.C_drewN ?_ _) | (with_reducible refine Kd.C_drew ?_))); (case side2 => exact HC0.out); (case side3 => repeat (first | exact (Kd.C_below HR1.out HB.out) | (with_reducible refine Kd.C_alloc ?_ _) | (with_reducible refine Kd.C_drewN ?_ _) | (with_reducible refine Kd.C_drew ?_))); (case side4 => exact HC1.out); intro w11 hb; replace HO308 := uR HO308 hb; replace HB := uB HB hb; (try clear hb); (try clear hk)))
   go_meet
   case rel => exact ⟨_, (true), rB, H', leB, ⟨upR HO308.out⟩, (aB HB)⟩
 case rest =>
  clear HC4
  try clear c1
  obtain ⟨kq, x21_3, rfl, HA, HJ3, HO_8, HB⟩ := hcut
  cases kq with
  | zero => exact absurd HA.out (by simp [spec_UndoEdits.j0])
  | succ kj3 =>
   have H := HA.out
   clear HA
   simp only [spec_UndoEdits.j0] at H
   rcases Bool.eq_false_or_eq_true x21_3 with rfl | rfl
   ·replace H := iT rfl H
    simp only [Option.some.injEq, Prod.mk.injEq] at H
    obtain ⟨rfl, rfl⟩ := H
    go_wp2
    go_ret2
    exact ⟨_, eB, upR HO_8.out, (bW HB)⟩
   ·replace H := iF (by decide) H
    have H' := Aside0.mk H
    clear H
    go_wp2
    go_loopg [8, 9] kj3 (fun kq v8 v9 w' => ∃ (x8_2 : List (S28)) (x9_2 : Int), v9 = .int .i64 x9_2 ∧ Aside0 (spec_UndoEdits.l0 kq l1 a2 x8_2 x9_2 = some (r1, r2)) ∧ Aside0 (kq ≤ kj3) ∧ Aside0 (Kd.R k28 28 w' w.heap.size (fun _ => True) v8 x8_2) ∧ Aside0 (Below w.heap.size w w'))
    case atStart => exact ⟨(y306), (wrap64 ((l1.length : Int) - 1)), rB, H', ⟨Nat.le_refl _⟩, ⟨upR HO_8.out⟩, (aB HB)⟩
    case round =>
     clear H'
     try clear c1
     obtain ⟨x8_2, x9_2, rfl, HA, HK2, HO_8, HB⟩ := hrel
     cases gk with
     | zero => exact absurd HA.out (by simp [spec_UndoEdits.l0])
     | succ k2 =>
      have H := HA.out
      clear HA
      simp only [spec_UndoEdits.l0] at H
      replace H := ifD H
      rcases H with ⟨H, -, c13b0⟩ | ⟨H, -, c13b0⟩
      ·by_cases c14 : 0 ≤ x9_2
       ·rw [if_pos c14] at H
        have c14b0 : decide (0 ≤ x9_2) = true := decide_eq_true c14
        clear c14
        by_cases c15 : x9_2 < (l1.length : Int)
        ·rw [if_pos c15] at H
         have c15b0 : decide (x9_2 < (l1.length : Int)) = true := decide_eq_true c15
         clear c15
         replace H := Option.bind_eq_some_iff.mp H
         obtain ⟨⟨t312, t313, t314, t315, t316, t317, t318, t319, t320, t321, t322, t323⟩, A160, H⟩ := H
         replace H : (if x8_2.length < 1466015503701 then (spec_UndoEdits.l0 k2 l1 a2 (x8_2 ++ [(⟨t312, t313, (⟨t314, t315, t316, t317, t318⟩ : S26), (⟨t319, t320, t321, t322, t323⟩ : S26)⟩ : S28)]) (wrap64 (x9_2 - 1))) else (none)) = some (r1, r2) := H
         have A16 := Aside0.mk A160
         clear A160
         by_cases c17 : x8_2.length < 1466015503701
         ·rw [if_pos c17] at H
          have LMc17 := Aside0.mk c17
          clear c17
          obtain ⟨y324, hy324⟩ : ∃ y_ : List (S28), y_ = (x8_2 ++ [(⟨t312, t313, (⟨t314, t315, t316, t317, t318⟩ : S26), (⟨t319, t320, t321, t322, t323⟩ : S26)⟩ : S28)]) := ⟨_, rfl⟩
          replace H : (spec_UndoEdits.l0 k2 l1 a2 y324 (wrap64 (x9_2 - 1))) = some (r1, r2) := by first | (rw [hy324]; with_reducible exact H) | (have H2_ := (Option.bind_some _ _).symm.trans H; rw [hy324]; with_reducible exact H2_) | (have H2_ := (Option.bind_some _ _).symm.trans H; with_reducible exact H2_) | with_reducible exact H | (rw [hy324]; exact H) | exact H
          have Ny324 := Aside0.mk hy324
          clear hy324
          have H' := Aside0.mk H
          clear H
          have p311 : 0 ≤ (x9_2 : Int) := of_decide_eq_true asmB
          have q311 : x9_2 < (l1.length : Int) := of_decide_eq_true asmB
          obtain ⟨ad311, e311, hx311_0, hx311_1, hx311_2, hx311_3, hx311_4, hx311_5, hx311_6, hx311_7, hx311_8, hx311_9, hx311_10, hx311_11⟩ := at_T28 HR1.out x9_2 p311 q311
          cases e311
          replace hx311_0 := bx HB.out hx311_0
          replace hx311_1 := bx HB.out hx311_1
          replace hx311_2 := bx HB.out hx311_2
          replace hx311_3 := bx HB.out hx311_3
          replace hx311_4 := bx HB.out hx311_4
          replace hx311_5 := bx HB.out hx311_5
          replace hx311_6 := bx HB.out hx311_6
          replace hx311_7 := bx HB.out hx311_7
          replace hx311_8 := bx HB.out hx311_8
          replace hx311_9 := bx HB.out hx311_9
          replace hx311_10 := bx HB.out hx311_10
          replace hx311_11 := bx HB.out hx311_11
          replace p311 := eq_true p311
          replace q311 := eq_true q311
          go_wp2_with (first | ((with_reducible refine gC 59 ?_); refine lA (some 39) Try.func59 (spec_l19Inverse.calls ((rd_T28 l1 x9_2).f0) ((rd_T28 l1 x9_2).f1) ((rd_T28 l1 x9_2).f2.f0) ((rd_T28 l1 x9_2).f2.f1) ((rd_T28 l1 x9_2).f2.f2) ((rd_T28 l1 x9_2).f2.f3) ((rd_T28 l1 x9_2).f2.f4) ((rd_T28 l1 x9_2).f3.f0) ((rd_T28 l1 x9_2).f3.f1) ((rd_T28 l1 x9_2).f3.f2) ((rd_T28 l1 x9_2).f3.f3) ((rd_T28 l1 x9_2).f3.f4) t312 t313 t314 t315 t316 t317 t318 t319 t320 t321 t322 t323 _ A16.out) ?_; intro w18 hb; replace HO_8 := uR HO_8 hb; replace HB := uB HB hb; (try clear hb); (try clear hk)) | ((with_reducible refine gate_builtin (b := .append) (xs := #[.tmp 34, .tmp 40]) rfl ?_); (try (refine gate_guard (by rfl) ?_; dsimp only)); at_builtin; refine Kd.R_append k28 (w0 := w) w.heap.size rfl (.tmp 34) (.tmp 40) 36 28 (.agg #[(.int .i64 0), (.int .i64 0), (.int .i64 0), (.int .i64 0), (.int .i64 0), (.int .i64 0), (.int .i64 0), (.int .i64 0), (.int .i64 0), (.int .i64 0), (.int .i64 0), (.int .i64 0)]) 96 rfl Try.underlying36 info28 rfl (by decide) (by omega) u8 x8_2 (⟨t312, t313, (⟨t314, t315, t316, t317, t318⟩ : S26), (⟨t319, t320, t321, t322, t323⟩ : S26)⟩ : S28) [.int .i64 t312, .int .i64 t313, .int .i64 t314, .int .i64 t315, .int .i64 t316, .int .i64 t317, .int .i64 t318, .int .i64 t319, .int .i64 t320, .int .i64 t321, .int .i64 t322, .int .i64 t323] (fun _ => True) (fun _ => False) rfl rfl ?aP (fun _ hk => hk.elim) ?aF ?aO ?aB ?aS ?aL ?_; (case aP => exact k28_mkM _ _ _ (⟨t312, t313, (⟨t314, t315, t316, t317, t318⟩ : S26), (⟨t319, t320, t321, t322, t323⟩ : S26)⟩ : S28)); (case aB => exact (bW HB)); (case aF => exact (fun _ _ => trivial)); (case aO => exact (upR HO_8.out)); (case aS => exact (below_size (bW HB))); (case aL => have := LMc17.out; omega); intro v325 w19 ho hb hg hat; rw [← Ny324.out] at ho; have HO326 := Aside0.mk (ho); replace HB := Aside0.mk (hb); clear HO_8; clear ho hb hg hat))
          go_roundg k2
          case measure => have := HJ3.out; have := HK2.out; omega
          case rel => exact ⟨(y324), (wrap64 (x9_2 - 1)), rB, H', ⟨by have := HJ3.out; have := HK2.out; omega⟩, ⟨upR HO326.out⟩, (aB HB)⟩
         ·rw [if_neg c17] at H
          exact absurd H (by simp)
        ·rw [if_neg c15] at H
         exact absurd H (by simp)
       ·rw [if_neg c14] at H
        exact absurd H (by simp)
      ·simp only [Option.some.injEq, Prod.mk.injEq] at H
       obtain ⟨rfl, rfl⟩ := H
       go_wp2
       go_ret2
       exact ⟨_, eB, upR HO_8.out, (bW HB)⟩

/-! ### impl_UndoEdits: function 46 -/
-- reaches: impl.IsHistory
-- reaches: impl.within
-- reaches: (impl.Edit).inverse
-- calls: none
def invE (x : S28) : S28 := if x.f0 = 1 then ⟨2, x.f1, x.f3, x.f2⟩ else if x.f0 = 2 then ⟨1, x.f1, x.f3, x.f2⟩ else ⟨x.f0, x.f1, x.f3, x.f2⟩
theorem invE_f (x : S28) : impl_Edit_inverse.f x.f0 x.f1 x.f2.f0 x.f2.f1 x.f2.f2 x.f2.f3 x.f2.f4 x.f3.f0 x.f3.f1 x.f3.f2 x.f3.f3 x.f3.f4 = some ((invE x).f0, (invE x).f1, (invE x).f2.f0, (invE x).f2.f1, (invE x).f2.f2, (invE x).f2.f3, (invE x).f2.f4, (invE x).f3.f0, (invE x).f3.f1, (invE x).f3.f2, (invE x).f3.f3, (invE x).f3.f4) := by
 unfold impl_Edit_inverse.f invE
 by_cases h1 : x.f0 = 1
 ·rw [if_pos h1, if_pos h1]
 ·rw [if_neg h1, if_neg h1]
  by_cases h2 : x.f0 = 2
  ·rw [if_pos h2, if_pos h2]
  ·rw [if_neg h2, if_neg h2]
def cellsE (x : S28) : List Value := [.int .i64 x.f0, .int .i64 x.f1, .int .i64 x.f2.f0, .int .i64 x.f2.f1, .int .i64 x.f2.f2, .int .i64 x.f2.f3, .int .i64 x.f2.f4, .int .i64 x.f3.f0, .int .i64 x.f3.f1, .int .i64 x.f3.f2, .int .i64 x.f3.f3, .int .i64 x.f3.f4]
def edV (x : S28) : Value := .agg #[.int .i64 x.f0, .int .i64 x.f1, .int .i64 x.f2.f0, .int .i64 x.f2.f1, .int .i64 x.f2.f2, .int .i64 x.f2.f3, .int .i64 x.f2.f4, .int .i64 x.f3.f0, .int .i64 x.f3.f1, .int .i64 x.f3.f2, .int .i64 x.f3.f3, .int .i64 x.f3.f4]
def impl_UndoEdits.f (k : Nat) (l0 : List (S26)) (l1 : List (S28)) (a2 : Int) : Option ((List (S28)) × Bool) := (impl_IsHistory.f k l0 l1).bind fun t1 => (if t1 = true then ((impl_within.f a2 0 (l1.length : Int)).bind fun t2 => (if t2 = true then (if 0 ≤ a2 ∧ a2 ≤ (l1.length : Int) ∧ l1.length ≤ 4194304 then (some (((l1.drop (l1.length - a2.toNat)).reverse).map invE, true)) else none) else (some (([] : List (S28)), false)))) else (some (([] : List (S28)), false)))
theorem impl_UndoEdits.mono : ∀ a0 a1 a2 k, LeO (impl_UndoEdits.f k a0 a1 a2) (impl_UndoEdits.f (k + 1) a0 a1 a2) := by
 intro a0 a1 a2 k
 unfold impl_UndoEdits.f
 exact LeO.bind (impl_IsHistory.mono _ _ _) (fun _ => LeO.refl _)
/-! The cells of a row of edits. -/
def flatE (xs : List (S28)) : List Value := xs.flatMap cellsE
theorem flatE_len : ∀ xs : List (S28), (flatE xs).length = xs.length * 12
 | [] => rfl
 | x :: xs => by
  show (cellsE x ++ flatE xs).length = _
  rw [List.length_append, flatE_len xs, List.length_cons]
  show 12 + _ = _
  omega
theorem flatE_snoc (xs : List (S28)) (x : S28) : flatE (xs ++ [x]) = flatE xs ++ cellsE x := by
 unfold flatE
 rw [List.flatMap_append]
 simp
theorem flatE_reps (w : World) (base : Nat) (ok : Nat → Prop) : ∀ xs : List (S28), Reps (k28.M w base ok) 12 xs (flatE xs)
 | [] => Reps.none _ _
 | x :: xs => by
  have hl : (cellsE x).length = 12 := rfl
  refine ⟨flatE_len _, fun j p hp => ?_⟩
  cases j with
  | zero =>
   obtain rfl : x = p := by simpa using hp
   exact k28_mkM w base ok x
  | succ j =>
   have h := (flatE_reps w base ok xs).2 j p (by simpa using hp)
   show k28.M w base ok p (((cellsE x ++ flatE xs).drop ((j + 1) * 12)).take 12)
   rw [List.drop_append, hl, List.drop_eq_nil_of_le (show (cellsE x).length ≤ (j + 1) * 12 by rw [hl]; omega), List.nil_append, show (j + 1) * 12 - 12 = j * 12 by omega]
   exact h
theorem infoE : (Try.prog.info? 28).map (fun i => (i.zero, i.size, i.bytes)) = some (some (.agg #[.int .i64 0, .int .i64 0, .int .i64 0, .int .i64 0, .int .i64 0, .int .i64 0, .int .i64 0, .int .i64 0, .int .i64 0, .int .i64 0, .int .i64 0, .int .i64 0]), 12, 96) := by kernel_rfl
/-! A box of an edit. -/
def BoxE (W : World) (B : Nat) (x : S28) : Prop := W.heap[B]? = some (.cells #[.int .i64 x.f0, .int .i64 x.f1, .int .i64 x.f2.f0, .int .i64 x.f2.f1, .int .i64 x.f2.f2, .int .i64 x.f2.f3, .int .i64 x.f2.f4, .int .i64 x.f3.f0, .int .i64 x.f3.f1, .int .i64 x.f3.f2, .int .i64 x.f3.f3, .int .i64 x.f3.f4] 28 (0, 0))
theorem BoxE.cells {W : World} {B : Nat} {x : S28} (h : BoxE W B x) : W.cell? ⟨B, 0, none⟩ = some (.int .i64 x.f0) ∧ W.cell? ⟨B, 1, none⟩ = some (.int .i64 x.f1) ∧ W.cell? ⟨B, 2, none⟩ = some (.int .i64 x.f2.f0) ∧ W.cell? ⟨B, 3, none⟩ = some (.int .i64 x.f2.f1) ∧ W.cell? ⟨B, 4, none⟩ = some (.int .i64 x.f2.f2) ∧ W.cell? ⟨B, 5, none⟩ = some (.int .i64 x.f2.f3) ∧ W.cell? ⟨B, 6, none⟩ = some (.int .i64 x.f2.f4) ∧ W.cell? ⟨B, 7, none⟩ = some (.int .i64 x.f3.f0) ∧ W.cell? ⟨B, 8, none⟩ = some (.int .i64 x.f3.f1) ∧ W.cell? ⟨B, 9, none⟩ = some (.int .i64 x.f3.f2) ∧ W.cell? ⟨B, 10, none⟩ = some (.int .i64 x.f3.f3) ∧ W.cell? ⟨B, 11, none⟩ = some (.int .i64 x.f3.f4) := by
 have h' : W.heap[B]? = some (.cells #[.int .i64 x.f0, .int .i64 x.f1, .int .i64 x.f2.f0, .int .i64 x.f2.f1, .int .i64 x.f2.f2, .int .i64 x.f2.f3, .int .i64 x.f2.f4, .int .i64 x.f3.f0, .int .i64 x.f3.f1, .int .i64 x.f3.f2, .int .i64 x.f3.f3, .int .i64 x.f3.f4] 28 (0, 0)) := h
 exact ⟨(blk_cell h' 0).trans rfl, (blk_cell h' 1).trans rfl, (blk_cell h' 2).trans rfl, (blk_cell h' 3).trans rfl, (blk_cell h' 4).trans rfl, (blk_cell h' 5).trans rfl, (blk_cell h' 6).trans rfl, (blk_cell h' 7).trans rfl, (blk_cell h' 8).trans rfl, (blk_cell h' 9).trans rfl, (blk_cell h' 10).trans rfl, (blk_cell h' 11).trans rfl⟩
theorem boxE_own (B : Nat) (f : S28) : Own (fun (_ : Unit) W => BoxE W B f) := by
 intro s X Y row hs hg hr
 have hs' : X.heap[B]? = some (.cells #[.int .i64 f.f0, .int .i64 f.f1, .int .i64 f.f2.f0, .int .i64 f.f2.f1, .int .i64 f.f2.f2, .int .i64 f.f2.f3, .int .i64 f.f2.f4, .int .i64 f.f3.f0, .int .i64 f.f3.f1, .int .i64 f.f3.f2, .int .i64 f.f3.f3, .int .i64 f.f3.f4] 28 (0, 0)) := hs
 refine (hg.block B (Array.getElem?_eq_some_iff.1 hs').1 (fun e => ?_)).trans hs'
 obtain ⟨o, ho, hc⟩ := hr B e.symm
 rw [hs'] at ho
 cases ho
 cases hc
theorem snoc_rev (xs : List (S28)) (pre : List (Int × S28)) (i : Int) (hm : pre.map Prod.snd = xs.reverse.take pre.length) (hi : i = (xs.length : Int) - 1 - (pre.length : Int)) (hl : pre.length < xs.length) : (pre ++ [(i, rd_T28 xs i)]).map Prod.snd = xs.reverse.take (pre ++ [(i, rd_T28 xs i)]).length := by
 have hj : pre.length < xs.reverse.length := by rw [List.length_reverse]; exact hl
 rw [List.map_append, List.length_append, List.length_singleton, List.take_add_one, hm, List.getElem?_eq_getElem hj, List.getElem_reverse]
 have e : i.toNat = xs.length - 1 - pre.length := by omega
 simp [rd_T28, e, List.getElem?_eq_getElem (show xs.length - 1 - pre.length < xs.length by omega)]
/-- What the iterator wants kept between two rounds: what lay below n₀, and the box of its slice. -/
def KpE (n₀ Bs : Nat) (W W' : World) : Prop := Below n₀ W W' ∧ ∀ v, Boxed W Bs 36 v → Boxed W' Bs 36 v
theorem KpE.refl (n₀ Bs : Nat) (W : World) : KpE n₀ Bs W W := ⟨Below.refl _ _, fun _ h => h⟩
theorem KpE.trans {n₀ Bs : Nat} {X Y Z : World} (h : KpE n₀ Bs X Y) (k : KpE n₀ Bs Y Z) : KpE n₀ Bs X Z := ⟨h.1.trans k.1, fun v hv => k.2 v (h.2 v hv)⟩
theorem KpE.turn {n₀ Bs : Nat} {w : World} (hn : n₀ ≤ w.heap.size) (hb : Bs < w.heap.size) (W : World) (l : Nat) (o o' : Obj) (hl : w.heap.size ≤ l) (h : W.heap[l]? = some o) (h1 : o.isCells = false) (h2 : o.isWalk = false) : KpE n₀ Bs W (W.putObj l o') :=
 ⟨belowK_b hn W l o o' hl h h1 h2, fun v hv => hv.kept (grownBy_putObj' W l o') (fun e => by cases e; omega)⟩
set_option maxRecDepth 100000 in
set_option maxHeartbeats 4000000 in
/-- slices.Backward's closure, for every loop body that keeps what lay below n₀. -/
theorem bwd1_in (F : Fence) (n : Nat) (h8 : F.fn 93) (hro : F.round = none) (hn : 1 ≤ n) (l Bs n₀ : Nat) (A : Option Addr) (c : Nat) (xs : List (S28)) (w0 : World) (hn0 : w0.heap.size = n₀) (hR : Kd.C k28 w0 A xs.length xs) (hlen : xs.length ≤ 4194304) (J Jx : List (Int × S28) → World → Prop)
  (hY : ∀ pre x W, J pre W → pre.length < xs.length → YieldAt F (n - 1) Try.prog l #[.int .i64 x.1, edV x.2] W fun e W' =>
   (e = .returned (.bool true) ∧ J (pre ++ [x]) W' ∧ KpE n₀ Bs W W') ∨ (e = .returned (.bool false) ∧ Jx (pre ++ [x]) W'))
  (W : World) (hW : Below n₀ w0 W) (hBs : Boxed W Bs 36 (.slice A xs.length c)) (h0 : J [] W) :
  CallsIn F n Try.prog 93 #[.func (.yield l) #[] #[], .pointer (some ⟨Bs, 0, none⟩)] W fun e W' => (∃ v, e = .returned v) ∧
   ((∃ ys : List (Int × S28), ys.map Prod.snd = xs.reverse ∧ J ys W') ∨ (∃ pre, True ∧ Jx pre W')) := by
 have hc0 := hBs.cell
 subst hn0
 refine callsIn_of_wp Try.func93 rfl h8 ?_ hro
 simp only [Try.ntmps93, List.size_toArray, List.length_cons, List.length_nil, Nat.reduceAdd, Nat.reduceSub, Array.replicate_succ, Array.replicate_zero, List.push_toArray, List.append_toArray, List.nil_append, List.cons_append]
 gi_wp2
 gi_loopw [3] (fun v wr => ∃ (i : Int) (pre : List (Int × S28)), v = .int .i64 i ∧ Aside0 (i = (xs.length : Int) - 1 - (pre.length : Int)) ∧ Aside0 (pre.map Prod.snd = xs.reverse.take pre.length) ∧ Aside0 (pre.length ≤ xs.length) ∧ J pre wr ∧ Aside0 (KpE w0.heap.size Bs W wr)) (fun v _ => (intOf v + 1).toNat)
 case atStart => exact ⟨(xs.length : Int) - 1, [], rfl, ⟨by simp⟩, ⟨by simp⟩, ⟨by simp⟩, h0, ⟨KpE.refl _ _ _⟩⟩
 case round =>
  obtain ⟨i, pre, rfl, hi, hm, hk, hJs, hnx⟩ := hrel
  have hb0 := (hnx.out.2 _ hBs).cell
  clear hc0
  by_cases hlt : 0 ≤ i
  ·have h1 : i < (xs.length : Int) := by have := hi.out; omega
   have hpl : pre.length < xs.length := by have := hi.out; omega
   obtain ⟨ad, e, g0, g1, g2, g3, g4, g5, g6, g7, g8, g9, g10, g11⟩ := at_T28 (Kd.C_below hR (hW.trans hnx.out.1)) i hlt h1
   subst e
   obtain ⟨fn, tmps, assign, body, hy, hR'⟩ := hY pre (i, rd_T28 xs i) wr hJs hpl
   dsimp only [edV] at hy
   gi_wp2
   refine hR'.mono ?_
   rintro e W3 (⟨rfl, hJ3, hk3⟩ | ⟨rfl, hJx3⟩)
   ·gi_wp2
    go_roundw
    case rel => exact ⟨i - 1, pre ++ [(i, rd_T28 xs i)], rfl, ⟨by have := hi.out; rw [List.length_append, List.length_singleton]; omega⟩, ⟨snoc_rev xs pre i hm.out hi.out hpl⟩, ⟨by rw [List.length_append, List.length_singleton]; omega⟩, hJ3, ⟨hnx.out.trans hk3⟩⟩
    case measure => simp [intOf]; omega
   ·gi_wp2
    refine bodyPost_ret (results_none rfl _ _ _) rfl ?_
    exact ⟨⟨_, rfl⟩, .inr ⟨_, trivial, hJx3⟩⟩
  ·gi_wp2
   go_end0
   have hl : pre.length = xs.length := by have := hi.out; have := hk.out; omega
   exact ⟨⟨_, rfl⟩, .inl ⟨pre, by rw [hm.out, hl, ← List.length_reverse, List.take_length], hJs⟩⟩
set_option maxHeartbeats 1000000 in
/-- slices.Backward(s): the slice value is boxed; the function value captures the box. -/
theorem bwd_in (F : Fence) (n : Nat) (h5 : F.fn 80) (hro : F.round = none) (A : Option Addr) (len cap : Nat) (w : World) :
  CallsIn F n Try.prog 80 #[.slice A len cap] w fun e w' => e = .returned (.func (.func 93) #[] #[.pointer (some ⟨w.heap.size, 0, none⟩)]) ∧ w' = w.alloc (.cells #[.slice A len cap] 36) := by
 refine callsIn_of_wp Try.func80 rfl h5 ?_ hro
 simp only [Try.ntmps80, List.size_toArray, List.length_cons, List.length_nil, Nat.reduceAdd, Nat.reduceSub, Array.replicate_succ, Array.replicate_zero, List.push_toArray, List.append_toArray, List.nil_append, List.cons_append]
 gi_wp2
 go_ret
 exact ⟨rfl, rfl⟩
theorem bwd_stops (F : Fence) (n : Nat) (h8 : F.fn 93) (hro : F.round = none) (hn : 1 ≤ n) (Bs n₀ : Nat) (A : Option Addr) (c : Nat) (xs : List (S28)) (w0 w : World) (hn0 : w0.heap.size = n₀) (hR : Kd.C k28 w0 A xs.length xs) (hlen : xs.length ≤ 4194304) (hW0 : Below n₀ w0 w) (hBs : Boxed w Bs 36 (.slice A xs.length c)) :
  SeqStopsK F n Try.prog 93 #[.pointer (some ⟨Bs, 0, none⟩)] (fun x : Int × S28 => #[Value.int .i64 x.1, edV x.2]) (KpE n₀ Bs) (fun ys => ys.map Prod.snd = xs.reverse) (fun _ => True) xs.length w := fun l J Jx W hW _ _ hY h0 => by
 refine bwd1_in F n h8 hro hn l Bs n₀ A c xs w0 hn0 hR hlen J Jx hY W (hW0.trans (hW.mono (by rw [← hn0]; exact hW0.size))) ?_ h0
 exact (hW.block Bs hBs.lt).trans hBs
def appO (ats : Array TypeId) (ty : TypeId) (args : Array Value) : Sem Value := Builtin.append_ ats ty args
theorem bi_append (ats : Array TypeId) (ty : TypeId) (cs : Array Bool) (args : Array Value) : builtin .append ats ty cs args = (do pure (.value (← appO ats ty args))) := rfl
theorem row_below {W W' : World} {base : Nat} {e : TypeId} {size : Nat} {v : Value} {k : Nat} {xs : List Value} (h : W.ownsRow base e size v k xs) (hb : Below W.heap.size W W') : W'.ownsRow base e size v k xs := by
 refine ⟨h.1, ?_⟩
 rcases h.2 with h0 | ⟨g, cap, cur, e1, e2, hg, r⟩
 ·exact .inl h0
 ·exact .inr ⟨g, cap, cur, e1, e2, blk_below hg hb, r⟩
/-- One round: what the append of the inverse does. -/
theorem undo_step {W w3 : World} {B Bs n0 k : Nat} {xs : List Value} {x : S28} {v : Value} (hv : Boxed W B 36 v) (hrow : W.ownsRow n0 28 12 v k xs) (hn0 : n0 ≤ W.heap.size) (hB : n0 ≤ B) (hne : Bs ≠ B) (hb3 : Below W.heap.size W w3) (hk : k ≤ 4194304) :
  w3.cell? ⟨B, 0, none⟩ = some v ∧ (w3.alloc (.cells #[.int .i64 x.f0, .int .i64 x.f1, .int .i64 x.f2.f0, .int .i64 x.f2.f1, .int .i64 x.f2.f2, .int .i64 x.f2.f3, .int .i64 x.f2.f4, .int .i64 x.f3.f0, .int .i64 x.f3.f1, .int .i64 x.f3.f2, .int .i64 x.f3.f3, .int .i64 x.f3.f4] 28)).cell? ⟨B, 0, none⟩ = some v ∧ ∃ g' cap' w4, (appO #[36, 36] 36 #[v, .slice (some ⟨w3.heap.size, 0, none⟩) 1 1]).run Try.prog (w3.alloc (.cells #[.int .i64 x.f0, .int .i64 x.f1, .int .i64 x.f2.f0, .int .i64 x.f2.f1, .int .i64 x.f2.f2, .int .i64 x.f2.f3, .int .i64 x.f2.f4, .int .i64 x.f3.f0, .int .i64 x.f3.f1, .int .i64 x.f3.f2, .int .i64 x.f3.f3, .int .i64 x.f3.f4] 28)) = .ok (.slice (some ⟨g', 0, none⟩) (k + 1) cap') w4 ∧ w4.cell? ⟨B, 0, none⟩ = some v ∧ w4.frozen? ⟨B, 0, none⟩ = false ∧
   Aside0 (Boxed (w4.setCell ⟨B, 0, none⟩ (.slice (some ⟨g', 0, none⟩) (k + 1) cap')) B 36 (.slice (some ⟨g', 0, none⟩) (k + 1) cap') ∧ (w4.setCell ⟨B, 0, none⟩ (.slice (some ⟨g', 0, none⟩) (k + 1) cap')).ownsRow n0 28 12 (.slice (some ⟨g', 0, none⟩) (k + 1) cap') (k + 1) (xs ++ cellsE x) ∧ KeepsOthers W (w4.setCell ⟨B, 0, none⟩ (.slice (some ⟨g', 0, none⟩) (k + 1) cap')) ∧ Below n0 W (w4.setCell ⟨B, 0, none⟩ (.slice (some ⟨g', 0, none⟩) (k + 1) cap')) ∧
    ∀ u, Boxed W Bs 36 u → Boxed (w4.setCell ⟨B, 0, none⟩ (.slice (some ⟨g', 0, none⟩) (k + 1) cap')) Bs 36 u) := by
 obtain ⟨i0, hi, hz0, hz1, hz2⟩ := info_parts infoE
 have hv3 : Boxed w3 B 36 v := blk_below hv hb3
 have hrow3 := row_below hrow hb3
 have hn3 : n0 ≤ w3.heap.size := Nat.le_trans hn0 hb3.size
 obtain ⟨v', w4, hrun, hown, hgrow, _⟩ := run_append_own (P := Try.prog) (w3.alloc (.cells #[.int .i64 x.f0, .int .i64 x.f1, .int .i64 x.f2.f0, .int .i64 x.f2.f1, .int .i64 x.f2.f2, .int .i64 x.f2.f3, .int .i64 x.f2.f4, .int .i64 x.f3.f0, .int .i64 x.f3.f1, .int .i64 x.f3.f2, .int .i64 x.f3.f3, .int .i64 x.f3.f4] 28)) n0 36 36 28 i0 (.agg #[.int .i64 0, .int .i64 0, .int .i64 0, .int .i64 0, .int .i64 0, .int .i64 0, .int .i64 0, .int .i64 0, .int .i64 0, .int .i64 0, .int .i64 0, .int .i64 0]) 12 96 Try.underlying36 hi hz0 hz1 hz2 rfl (by decide) v k xs (hrow3.alloc _) ⟨w3.heap.size, 0, none⟩ 1 1 (cellsE x) rfl
  (fun j u hj => by
   have h := blk_cell (blk_new w3 (.cells #[.int .i64 x.f0, .int .i64 x.f1, .int .i64 x.f2.f0, .int .i64 x.f2.f1, .int .i64 x.f2.f2, .int .i64 x.f2.f3, .int .i64 x.f2.f4, .int .i64 x.f3.f0, .int .i64 x.f3.f1, .int .i64 x.f3.f2, .int .i64 x.f3.f3, .int .i64 x.f3.f4] 28)) j
   have e : (⟨w3.heap.size, 0, none⟩ : Addr).add j = ⟨w3.heap.size, j, none⟩ := by
    unfold Addr.add
    by_cases h0 : j = 0 <;> simp [h0]
   rw [e, h]
   simpa [cellsE] using hj)
  (fun u hu => by simp only [cellsE, List.mem_cons, List.not_mem_nil, or_false] at hu; rcases hu with rfl | rfl | rfl | rfl | rfl | rfl | rfl | rfl | rfl | rfl | rfl | rfl <;> rfl)
  (by unfold maxLen; omega) (by omega) (by rw [World.size_alloc]; omega)
 obtain ⟨g', cap', rfl⟩ := ownsRow_succ hown
 obtain ⟨h1, h2, h3, h4, h5⟩ := hv3.appended (by decide) hrow3 hn3 hB hown hgrow
 refine ⟨hv3.cell, (hv3.alloc _).cell, g', cap', w4, hrun, h1.cell, h1.frozen, ⟨h2, h3, (⟨hb3.size, fun q o hq _ => blk_below hq hb3⟩ : KeepsOthers W w3).trans h4, (hb3.mono hn0).trans h5, fun u hu => ?_⟩⟩
 have hu3 : Boxed w3 Bs 36 u := blk_below hu hb3
 exact ((hu3.alloc _).kept hgrow (hu3.not_row (by decide) hrow3)).other hne _
section
attribute [local go_sem ↓ high] bi_append
attribute [local go_sem] Oper.semAt_some
set_option maxRecDepth 100000 in
set_option maxHeartbeats 8000000 in
theorem undo_main (k : Nat) (A0 : Option Addr) (c0 : Nat) (l0 : List (S26)) (A1 : Option Addr) (c1 : Nat) (l1 : List (S28)) (a2 : Int) (w : World) (hr0 : Kd.C k26 w A0 l0.length l0) (hc0 : l0.length ≤ c0) (hr1 : Kd.C k28 w A1 l1.length l1) (hc1 : l1.length ≤ c1) (ht1 : impl_IsHistory.f k l0 l1 = some true) (ht2 : impl_within.f a2 0 (l1.length : Int) = some true) (ha : 0 ≤ a2) (hb : a2 ≤ (l1.length : Int)) (hm : l1.length ≤ 4194304) :
  Calls Try.prog 46 #[.slice A0 l0.length c0, .slice A1 l1.length c1, .int .i64 a2] w fun e w' => ∃ v0_ : Value, e = .returned (.tuple #[v0_, .bool true]) ∧ Kd.R k28 28 w' w.heap.size (fun _ => True) v0_ (((l1.drop (l1.length - a2.toNat)).reverse).map invE) ∧ Below w.heap.size w w' := by
 obtain ⟨i0, hi, hz0, hz1, hz2⟩ := info_parts infoE
 have hcut := cut_from (P := Try.prog) 36 28 .i64 Try.underlying36 hi 12 hz1 A1 l1.length c1 ((l1.length : Int) - a2) (by omega) (by omega)
 have hD := Kd.C_drop (m := l1.length - a2.toNat) (c := c1) hr1 (by omega) hc1
 rw [show ((l1.length : Int) - a2).toNat = l1.length - a2.toNat by omega] at hcut
 have hlen : (l1.drop (l1.length - a2.toNat)).length ≤ 4194304 := by rw [List.length_drop]; omega
 rw [show k28.sz = 12 from rfl] at hD
 generalize (if c1 = l1.length - a2.toNat then A1 else A1.map (·.add ((l1.length - a2.toNat) * 12))) = A' at hcut hD
 rw [show l1.length - (l1.length - a2.toNat) = (l1.drop (l1.length - a2.toNat)).length by rw [List.length_drop]] at hcut
 generalize c1 - (l1.length - a2.toNat) = c' at hcut
 generalize l1.drop (l1.length - a2.toNat) = L at hcut hD hlen ⊢
 have hmx : Try.prog.follows .mixedOrders = true := by kernel_rfl
 have HR0 := Aside0.mk hr0
 have HR1 := Aside0.mk hr1
 have HD := Aside0.mk hD
 have HL := Aside0.mk hlen
 clear hr0 hr1 hD hlen
 refine (callsIn_wide (n := 3)).1 ?_
 refine callsIn_of_wp_marks Try.func46 rfl trivial ?_ rfl
 simp only [Try.ntmps46, List.size_toArray, List.length_cons, List.length_nil, Nat.reduceAdd, Nat.reduceSub, Array.replicate_succ, Array.replicate_zero, List.push_toArray, List.append_toArray, List.nil_append, List.cons_append]
 gi_wp2_with (first | (refine ⟨trivial, ?_⟩; gi_at_call 32; refine (callsIn_wide.2 (impl_IsHistory.calls k _ _ l0 _ _ l1 true _ HR0.out hc0 HR1.out hc1 ht1)).mono ?_; rintro e w1 ⟨rfl, hb1⟩; have B1 := Aside0.mk hb1; clear hb1) | (refine ⟨trivial, ?_⟩; gi_at_call 72; refine (callsIn_wide.2 (impl_within.calls a2 0 (l1.length : Int) true _ ht2)).mono ?_; rintro e w2 ⟨rfl, hd⟩; have B2 := Aside0.mk (below_step B1.out hd.below); clear hd) | (refine ⟨trivial, ?_⟩; gi_at_call 80; refine (bwd_in Fence.wide (3 - 1) trivial rfl _ _ _ _).mono ?_; rintro e w' ⟨rfl, rfl⟩))
 have hz := B2.out.size
 have bO := (Boxed.new w2 36 (.slice none 0 0)).alloc (.cells #[.slice A' L.length c'] 36)
 have bN := Boxed.new (w2.alloc (.cells #[.slice none 0 0] 36)) 36 (.slice A' L.length c')
 rw [World.size_alloc] at bN
 have hB0 : Below w.heap.size w ((w2.alloc (.cells #[.slice none 0 0] 36)).alloc (.cells #[.slice A' L.length c'] 36)) := (B2.out.alloc hz _).alloc (by simp; omega) _
 refine wpIn_rangeFunc_ownH rfl (by decide) (gf := 93) (lb := #[.pointer (some ⟨w2.heap.size + 1, 0, none⟩)]) rfl trivial (enters_of Try.func93 (by kernel_rfl) rfl)
  (bwd_stops Fence.wide (3 - 1) trivial rfl (by decide) (w2.heap.size + 1) w.heap.size A' c' L w _ rfl HD.out HL.out hB0 bN)
  (fun h k => h.trans k) (KpE.turn (by simp; omega) (by simp)) (Below.refl _ _) (fun _ => rfl)
  (fun pre W => (∃ v, Boxed W w2.heap.size 36 v ∧ W.ownsRow w.heap.size 28 12 v pre.length (flatE (pre.map fun p => invE p.2)) ∧ True) ∧ Below w.heap.size w W)
  (fun _ _ _ => False)
  (OwnFrom.and (Own.from (holdsRow_own w.heap.size w2.heap.size 36 28 12 (fun (pre : List (Int × S28)) => pre.length) (fun pre => flatE (pre.map fun p => invE p.2)) (fun _ _ => True)) _) (ownFrom_below (Nat.le_refl _) (by simp; omega)))
  (fun _ _ _ _ _ hs _ _ => hs)
  ⟨⟨_, bO, World.ownsRow_nil _ _ _ _, trivial⟩, hB0⟩
  (fun x a' W => ∃ Bx, BoxE W Bx x.2 ∧ a' = { tmps := #[.slice A0 l0.length c0, .slice A1 l1.length c1, .int .i64 a2, undef, undef, undef, .slice none 0 0, .bool false, .pointer (some ⟨w2.heap.size, 0, none⟩), undef, .pointer (some ⟨Bx, 0, none⟩), .slice A0 l0.length c0, .slice A1 l1.length c1, .bool true, .bool false, .bool false, .int .i64 a2, .slice A1 l1.length c1, .int .i64 (l1.length : Int), .bool true, .bool false, .bool false, .slice A1 l1.length c1, .slice A1 l1.length c1, .int .i64 (l1.length : Int), .int .i64 a2, .int .i64 ((l1.length : Int) - a2), .slice A' L.length c', .func (.func 93) #[] #[.pointer (some ⟨w2.heap.size + 1, 0, none⟩)], .int .i64 x.1, edV x.2, undef, undef, undef, undef, undef, undef], defers := [] })
  (fun x a' _ X Y row => by
   rintro ⟨Bx, h2, h3⟩ hg hr
   exact ⟨Bx, boxE_own Bx x.2 () X Y row h2 hg (fun r e => (hr r e).2), h3⟩) ?assign ?body ?done ?stop
 case assign =>
  rintro l pre x W K ⟨⟨v, hv, hrow, _⟩, hBl⟩ hK
  have hu28 := Try.underlying28
  dsimp only [edV]
  gi_wp2
  exact hK _ _ ((KeepsOthers.alloc W _).from _) ⟨(Below.refl _ W).alloc hBl.size _, fun v hv => hv.alloc _⟩ ⟨⟨v, hv.alloc _, hrow.alloc _, trivial⟩, hBl.alloc hBl.size _⟩ ⟨W.heap.size, blk_new W _, rfl⟩
 case body =>
  rintro l pre x a' W hl _ ⟨⟨v, hv, hrow, _⟩, hBl⟩ ⟨Bx, bX, rfl⟩ hlt
  obtain ⟨g0, g1, g2, g3, g4, g5, g6, g7, g8, g9, g10, g11⟩ := bX.cells
  have hc := hv.cell
  have hf := hv.frozen
  have hu28 := Try.underlying28
  gi_wp2
  have hpl : pre.length ≤ 4194304 := by have := HL.out; omega
  have st := fun w3 h3 => undo_step (x := invE x.2) (w3 := w3) (Bs := w2.heap.size + 1) hv hrow hBl.size hz (by omega) h3 hpl
  gi_region_with_o (first | (refine ⟨trivial, ?_⟩; gi_at_call 62; refine (CallsIn.inRound l (callsIn_wide.2 (impl_Edit_inverse.calls _ _ _ _ _ _ _ _ _ _ _ _ _ _ _ _ _ _ _ _ _ _ _ _ _ (invE_f x.2)))).mono ?_; rintro e w3 ⟨rfl, hb3⟩; obtain ⟨hc3, hc3a, g', cap', w4, hrun, hc4, hf4, R4⟩ := st w3 (below_step (Below.refl _ W).drew hb3); clear st))
  all_goals gi_wp2
  all_goals
   obtain ⟨q1, q2, q3, q4, q5⟩ := R4.out
   exact ⟨q3.from _, ⟨q4, q5⟩, ⟨_, q1, by rw [List.length_append, List.length_singleton, List.map_append, List.map_cons, List.map_nil, flatE_snoc]; exact q2, trivial⟩, hBl.trans q4⟩
 case done =>
  rintro D ys W hD hS ⟨⟨v, hv, hrow, _⟩, hB⟩ hK
  have hc := hv.cell
  gi_wp2
  refine ⟨by simp, .inl ⟨_, _, rfl, run_takeDeferred hK, ?_⟩⟩
  have hr2 := ownsRow_putObj hrow (.deferred none) hK rfl
  refine ⟨_, results_tmp2 rfl _ _ _, v, rfl, ?_, hB.trans (belowK_b (w := w) (Nat.le_refl _) W D _ _ (by simp at hD; omega) hK rfl rfl)⟩
  rw [← hS, List.map_map]
  exact ⟨fun _ _ => trivial, flatE (ys.map fun p => invE p.2), by rw [List.length_map]; exact hr2, flatE_reps _ _ _ _⟩
 case stop =>
  rintro D c pre W _ _ h _
  exact h.elim
end
set_option maxHeartbeats 8000000 in
set_option maxRecDepth 100000 in
theorem impl_UndoEdits.calls (k : Nat) (A0 : Option Addr) (c0 : Nat) (l0 : List (S26)) (A1 : Option Addr) (c1 : Nat) (l1 : List (S28)) (a2 : Int) (r1 : List (S28)) (r2 : Bool) (w : World) (hr0 : Kd.C k26 w A0 l0.length l0) (hc0 : l0.length ≤ c0) (hr1 : Kd.C k28 w A1 l1.length l1) (hc1 : l1.length ≤ c1) (h : impl_UndoEdits.f k l0 l1 a2 = some (r1, r2)) :
  Calls Try.prog 46 #[.slice A0 l0.length c0, .slice A1 l1.length c1, .int .i64 a2] w fun e w' => ∃ v0_ : Value, e = .returned (.tuple #[v0_, .bool r2]) ∧ Kd.R k28 28 w' w.heap.size (fun _ => True) v0_ r1 ∧ Below w.heap.size w w' := by
 unfold impl_UndoEdits.f at h
 obtain ⟨t1, ht1, h⟩ := Option.bind_eq_some_iff.1 h
 cases t1 with
 | false =>
  rw [if_neg (by decide)] at h
  simp only [Option.some.injEq, Prod.mk.injEq] at h
  obtain ⟨rfl, rfl⟩ := h
  have HR0 := Aside0.mk hr0
  have HR1 := Aside0.mk hr1
  clear hr0 hr1
  go_enter Try.func46, Try.ntmps46
  go_wp2_with (first | (go_at_call 32; with_reducible refine (impl_IsHistory.calls k _ _ l0 _ _ l1 false _ HR0.out hc0 HR1.out hc1 ht1).mono ?_; rintro e w1 ⟨rfl, hb⟩; have HB1 := Aside0.mk hb; clear hb))
  go_ret2
  exact ⟨_, rfl, Kd.R_nil _ _ _ _ _, HB1.out⟩
 | true =>
  rw [if_pos rfl] at h
  obtain ⟨t2, ht2, h⟩ := Option.bind_eq_some_iff.1 h
  cases t2 with
  | false =>
   rw [if_neg (by decide)] at h
   simp only [Option.some.injEq, Prod.mk.injEq] at h
   obtain ⟨rfl, rfl⟩ := h
   have HR0 := Aside0.mk hr0
   have HR1 := Aside0.mk hr1
   clear hr0 hr1
   go_enter Try.func46, Try.ntmps46
   go_wp2_with (first | (go_at_call 32; with_reducible refine (impl_IsHistory.calls k _ _ l0 _ _ l1 true _ HR0.out hc0 HR1.out hc1 ht1).mono ?_; rintro e w1 ⟨rfl, hb⟩; have HB1 := Aside0.mk hb; clear hb) | (go_at_call 72; with_reducible refine (impl_within.calls a2 0 (l1.length : Int) false _ ht2).mono ?_; rintro e w2 ⟨rfl, hd⟩; have HB2 := Aside0.mk (below_step HB1.out hd.below); clear hd))
   go_ret2
   exact ⟨_, rfl, Kd.R_nil _ _ _ _ _, HB2.out⟩
  | true =>
   rw [if_pos rfl] at h
   split at h
   ·rename_i hg
    simp only [Option.some.injEq, Prod.mk.injEq] at h
    obtain ⟨rfl, rfl⟩ := h
    exact undo_main k A0 c0 l0 A1 c1 l1 a2 w hr0 hc0 hr1 hc1 ht1 ht2 hg.1 hg.2.1 hg.2.2
   ·cases h

/-! ### laws_vBig: function 47 -/
def laws_vBig.f (l0 : List Int) : Option (Bool) := some (decide ((l0.length : Int) > 65536))
set_option maxHeartbeats 8000000 in
set_option maxRecDepth 100000 in
theorem laws_vBig.calls (A0 : Option Addr) (c0 : Nat) (l0 : List Int) (r : Bool) (w : World) (hr0 : Kd.C (Kd.int .u8) w A0 l0.length l0) (hc0 : l0.length ≤ c0) (h : laws_vBig.f l0 = some r) :
  Calls Try.prog 47 #[.slice A0 l0.length c0] w fun e w' => e = .returned (.bool r) ∧ Drawn0 w w' := by
 have HR0 := Aside0.mk hr0
 have HC0 := Aside0.mk hc0
 clear hr0 hc0
 have H : (some (decide ((l0.length : Int) > 65536))) = some r := h
 clear h
 obtain rfl := Option.some.inj H
 go_enter Try.func47, Try.ntmps47
 go_wp2
 go_ret
 exact ⟨rB, by repeat (first | exact Drawn0.refl _ | apply Drawn0.step)⟩

/-- A state of type 97 at block g of W; what its slices lead to came in by w0. -/
def IsS97 (w0 W : World) (g : Nat) (f0 : List Int) (f1 f2 : Int) : Prop := ∃ A0 c0, W.heap[g]? = some (.cells #[.slice A0 f0.length c0, .int .i64 f1, .int .u64 f2] 97 (0, 0)) ∧ w0.heap.size ≤ g ∧ Kd.C (Kd.int .u8) w0 A0 f0.length f0
theorem IsS97.grown {w0 W : World} {g : Nat} {f0 : List Int} {f1 : Int} {f2 : Int} {W1 : World} {row : Option Nat} (h : IsS97 w0 W g f0 f1 f2) (hw : W.grownBy W1 row) (hne : some g ≠ row) : IsS97 w0 W1 g f0 f1 f2 := by
 obtain ⟨A0, c0, hb, hg, hr0⟩ := h
 exact ⟨A0, c0, blk_grown hb hw hne, hg, hr0⟩
theorem IsS97.own_neN {w0 W : World} {g : Nat} {f0 : List Int} {f1 : Int} {f2 : Int} {α : Type} {d : Kd α} {e : Nat} {base : Nat} {ok : Nat → Prop} {v : Value} {xs : List α} (h : IsS97 w0 W g f0 f1 f2) (ho : Kd.N d e W base ok v xs) (ht : e ≠ 97) : some g ≠ v.ownBlock := by
 obtain ⟨A0, c0, hb, hg, hr0⟩ := h
 exact Kd.N_ne ho hb ht
theorem IsS97.fresh {w0 W : World} {g : Nat} {f0 : List Int} {f1 : Int} {f2 : Int} (h : IsS97 w0 W g f0 f1 f2) : ∀ k, W.heap.size ≤ k → k ≠ g := by
 obtain ⟨A0, c0, hb, hg, hr0⟩ := h
 exact Kd.freshB hb
theorem IsS97.kept {w0 W : World} {g : Nat} {f0 : List Int} {f1 : Int} {f2 : Int} {W1 : World} {S : Nat → Prop} (h : IsS97 w0 W g f0 f1 f2) (hk : Kept W W1 S) (hne : ¬ S g) : IsS97 w0 W1 g f0 f1 f2 := by
 obtain ⟨A0, c0, hb, hg, hr0⟩ := h
 exact ⟨A0, c0, blk_kept hb hk hne, hg, hr0⟩
theorem IsS97.below {w0 W : World} {g : Nat} {f0 : List Int} {f1 : Int} {f2 : Int} {W1 : World} (h : IsS97 w0 W g f0 f1 f2) (hw : Below W.heap.size W W1) : IsS97 w0 W1 g f0 f1 f2 := h.grown (grown_of_below hw none) (by simp)
theorem IsS97.alloc {w0 W : World} {g : Nat} {f0 : List Int} {f1 : Int} {f2 : Int} (h : IsS97 w0 W g f0 f1 f2) (o : Obj) : IsS97 w0 (W.alloc o) g f0 f1 f2 := h.below (below_alloc (Below.refl _ _) o)
theorem IsS97.drewN {w0 W : World} {g : Nat} {f0 : List Int} {f1 : Int} {f2 : Int} (h : IsS97 w0 W g f0 f1 f2) (m : Nat) : IsS97 w0 (W.drewN m) g f0 f1 f2 := h
theorem IsS97.drew {w0 W : World} {g : Nat} {f0 : List Int} {f1 : Int} {f2 : Int} (h : IsS97 w0 W g f0 f1 f2) : IsS97 w0 W.drew g f0 f1 f2 := h
theorem IsS97.at_ {w0 W : World} {g : Nat} {f0 : List Int} {f1 : Int} {f2 : Int} {w' : World} {m : Nat} (hq : W.drewN m = w') (h : IsS97 w0 W g f0 f1 f2) : IsS97 w0 w' g f0 f1 f2 := by subst hq; exact IsS97.drewN h m
theorem IsS97.apart {w0 W : World} {g : Nat} {f0 : List Int} {f1 : Int} {f2 : Int} {α : Type} {d : Kd α} {e : Nat} {base : Nat} {ok : Nat → Prop} {v : Value} {xs : List α} (h : IsS97 w0 W g f0 f1 f2) (ho : d.R e W base ok v xs) (ht : ∀ q, q ∈ e :: d.E → q ≠ 97) : d.R e W base (fun k => ok k ∧ k ≠ g) v xs := by
 obtain ⟨A0, c0, hb, hg, hr0⟩ := h
 exact Kd.R_types ho hb ht
theorem IsS97.own_ne {w0 W : World} {g : Nat} {f0 : List Int} {f1 : Int} {f2 : Int} {α : Type} {d : Kd α} {e : Nat} {base : Nat} {ok : Nat → Prop} {v : Value} {xs : List α} (h : IsS97 w0 W g f0 f1 f2) (ho : d.R e W base ok v xs) (ht : e ≠ 97) : some g ≠ v.ownBlock := by
 obtain ⟨A0, c0, hb, hg, hr0⟩ := h
 exact Kd.R_ne ho hb ht
theorem IsS97.apartQ {w0 W : World} {g : Nat} {f0 : List Int} {f1 : Int} {f2 : Int} {α : Type} {d : Kd α} {e : Nat} {base : Nat} {ok : Nat → Prop} {v : Value} {xs : List α} (h : IsS97 w0 W g f0 f1 f2) (ho : d.Q e W base ok v xs) (ht : ∀ q, q ∈ e :: d.E → q ≠ 97) : d.Q e W base (fun k => ok k ∧ k ≠ g) v xs := by
 obtain ⟨A0, c0, hb, hg, hr0⟩ := h
 exact Kd.Q_types ho hb ht
theorem IsS97.own_neQ {w0 W : World} {g : Nat} {f0 : List Int} {f1 : Int} {f2 : Int} {α : Type} {d : Kd α} {e : Nat} {base : Nat} {ok : Nat → Prop} {v : Value} {xs : List α} (h : IsS97 w0 W g f0 f1 f2) (ho : d.Q e W base ok v xs) (ht : e ≠ 97) : some g ≠ v.ownBlock := by
 obtain ⟨A0, c0, hb, hg, hr0⟩ := h
 exact Kd.Q_ne ho hb ht
theorem IsS97.apartS {w0 W : World} {g : Nat} {f0 : List Int} {f1 : Int} {f2 : Int} {α : Type} {d : Kd α} {e : Nat} {base : Nat} {ok : Nat → Prop} {v : Value} {xs : List α} (h : IsS97 w0 W g f0 f1 f2) (ho : d.S e W base ok v xs) (ht : ∀ q, q ∈ e :: d.E → q ≠ 97) : d.S e W base (fun k => ok k ∧ k ≠ g) v xs := by
 obtain ⟨A0, c0, hb, hg, hr0⟩ := h
 exact Kd.S_types ho hb ht
theorem IsS97.own_neS {w0 W : World} {g : Nat} {f0 : List Int} {f1 : Int} {f2 : Int} {α : Type} {d : Kd α} {e : Nat} {base : Nat} {ok : Nat → Prop} {v : Value} {xs : List α} (h : IsS97 w0 W g f0 f1 f2) (ho : d.S e W base ok v xs) (ht : e ≠ 97) : some g ≠ v.ownBlock := by
 obtain ⟨A0, c0, hb, hg, hr0⟩ := h
 exact Kd.S_ne ho hb ht
theorem IsS97.lt {w0 W : World} {g : Nat} {f0 : List Int} {f1 : Int} {f2 : Int} (h : IsS97 w0 W g f0 f1 f2) : g < W.heap.size := by
 obtain ⟨A0, c0, hb, hg, hr0⟩ := h
 exact blk_lt hb
theorem IsS97.ge {w0 W : World} {g : Nat} {f0 : List Int} {f1 : Int} {f2 : Int} (h : IsS97 w0 W g f0 f1 f2) : w0.heap.size ≤ g := by
 obtain ⟨A0, c0, hb, hg, hr0⟩ := h
 exact hg
theorem IsS97.ne_blk {w0 W : World} {g : Nat} {f0 : List Int} {f1 : Int} {f2 : Int} {a : Nat} {cs : Array Value} {t : TypeId} {fr : Nat × Nat} (h : IsS97 w0 W g f0 f1 f2) (hb2 : W.heap[a]? = some (.cells cs t fr)) (ht : t ≠ 97) : g ≠ a := by
 obtain ⟨A0, c0, hb, hg, hr0⟩ := h
 rintro rfl
 rw [hb] at hb2
 injection hb2 with hb2
 injection hb2 with _ ht2
 exact ht ht2.symm
theorem IsS97.far {w0 W : World} {g : Nat} {f0 : List Int} {f1 : Int} {f2 : Int} {p : Addr} (h : IsS97 w0 W g f0 f1 f2) (hne : g ≠ p.block) (u : Value) : IsS97 w0 (W.setCell p u) g f0 f1 f2 := by
 obtain ⟨A0, c0, hb, hg, hr0⟩ := h
 exact ⟨A0, c0, blk_far hb hne u, hg, hr0⟩
theorem cellS97_0 {W : World} {g : Nat} {A0 : Option Addr} {c0 : Nat} {f0 : List Int} {f1 : Int} {f2 : Int} (h : W.heap[g]? = some (.cells #[.slice A0 f0.length c0, .int .i64 f1, .int .u64 f2] 97 (0, 0))) : W.cell? ⟨g, 0, none⟩ = some (.slice A0 f0.length c0) := (blk_cell h 0).trans rfl
theorem cellS97_1 {W : World} {g : Nat} {A0 : Option Addr} {c0 : Nat} {f0 : List Int} {f1 : Int} {f2 : Int} (h : W.heap[g]? = some (.cells #[.slice A0 f0.length c0, .int .i64 f1, .int .u64 f2] 97 (0, 0))) : W.cell? ⟨g, 1, none⟩ = some (.int .i64 f1) := (blk_cell h 1).trans rfl
theorem IsS97.set_1 {w0 W : World} {g : Nat} {f0 : List Int} {f1 : Int} {f2 : Int} (h : IsS97 w0 W g f0 f1 f2) (x : Int) : IsS97 w0 (W.setCell ⟨g, 1, none⟩ (.int .i64 x)) g f0 x f2 := by
 obtain ⟨A0, c0, hb, hg, hr0⟩ := h
 exact ⟨A0, c0, by simpa using blk_set hb 1 (.int .i64 x), hg, hr0⟩
theorem cellS97_2 {W : World} {g : Nat} {A0 : Option Addr} {c0 : Nat} {f0 : List Int} {f1 : Int} {f2 : Int} (h : W.heap[g]? = some (.cells #[.slice A0 f0.length c0, .int .i64 f1, .int .u64 f2] 97 (0, 0))) : W.cell? ⟨g, 2, none⟩ = some (.int .u64 f2) := (blk_cell h 2).trans rfl
theorem IsS97.set_2 {w0 W : World} {g : Nat} {f0 : List Int} {f1 : Int} {f2 : Int} (h : IsS97 w0 W g f0 f1 f2) (x : Int) : IsS97 w0 (W.setCell ⟨g, 2, none⟩ (.int .u64 x)) g f0 f1 x := by
 obtain ⟨A0, c0, hb, hg, hr0⟩ := h
 exact ⟨A0, c0, by simpa using blk_set hb 2 (.int .u64 x), hg, hr0⟩
theorem IsS97.new (w0 W : World) (A0 : Option Addr) (c0 : Nat) (f0 : List Int) (f1 f2 : Int) (hB : Below w0.heap.size w0 W) (hr0 : Kd.C (Kd.int .u8) w0 A0 f0.length f0) : IsS97 w0 (W.alloc (.cells #[.slice A0 f0.length c0, .int .i64 f1, .int .u64 f2] 97)) W.heap.size f0 f1 f2 := ⟨A0, c0, by simpa using heap_alloc_new W _, hB.size, hr0⟩

/-! ### spec_l1Cur_next: function 96 -/
def spec_l1Cur_next.f (s0_0 : List Int) (s0_1 s0_2 : Int) : Option (Int × Int × Int) := if s0_1 < (s0_0.length : Int) then (if 0 ≤ s0_1 then (if (wrap64 (s0_1 + 1)) ≤ (s0_0.length : Int) then (some (wrap64 (rd s0_0 s0_1), wrap64 (s0_1 + 1), IntKind.u64.wrap ((IntKind.u64.wrap ((IntKind.u64.wrap (s0_2 * 6364136223846793005)) + (IntKind.u64.wrap (wrap64 (rd s0_0 s0_1))))) + 933933))) else (some (wrap64 (Go.bits .and .u64 ((IntKind.u64.wrap ((IntKind.u64.wrap ((IntKind.u64.wrap (s0_2 * 6364136223846793005)) + (IntKind.u64.wrap (wrap64 (rd s0_0 s0_1))))) + 933933)) / 1099511627776) 255), wrap64 (s0_1 + 1), IntKind.u64.wrap ((IntKind.u64.wrap ((IntKind.u64.wrap (s0_2 * 6364136223846793005)) + (IntKind.u64.wrap (wrap64 (rd s0_0 s0_1))))) + 933933)))) else (none)) else (if (wrap64 (s0_1 + 1)) ≤ (s0_0.length : Int) then (some (0, wrap64 (s0_1 + 1), IntKind.u64.wrap ((IntKind.u64.wrap ((IntKind.u64.wrap (s0_2 * 6364136223846793005)) + 0)) + 933933))) else (some (wrap64 (Go.bits .and .u64 ((IntKind.u64.wrap ((IntKind.u64.wrap ((IntKind.u64.wrap (s0_2 * 6364136223846793005)) + 0)) + 933933)) / 1099511627776) 255), wrap64 (s0_1 + 1), IntKind.u64.wrap ((IntKind.u64.wrap ((IntKind.u64.wrap (s0_2 * 6364136223846793005)) + 0)) + 933933))))
set_option maxHeartbeats 8000000 in
set_option maxRecDepth 100000 in
theorem spec_l1Cur_next.calls (g : Nat) (s0_0 : List Int) (s0_1 s0_2 r1 r2 r3 : Int) (w0 w : World) (hI : IsS97 w0 w g s0_0 s0_1 s0_2) (hB : Below w0.heap.size w0 w) (h : spec_l1Cur_next.f s0_0 s0_1 s0_2 = some (r1, r2, r3)) :
  Calls Try.prog 96 #[.pointer (some ⟨g, 0, none⟩)] w fun e w' => e = .returned (.int .i64 r1) ∧ IsS97 w0 w' g s0_0 r2 r3 ∧ Below w0.heap.size w0 w' ∧ KeepBut w w' g none := by
 have HI0 := Aside0.mk hI
 have HK := Aside0.mk (KeepBut.refl w g none)
 have HL := Aside0.mk hB.size
 clear hI
 have HW0 := Aside0.mk hB.size
 have HB := Aside0.mk hB
 clear hB
 have H := h
 clear h
 unfold spec_l1Cur_next.f at H
 replace H := ifD H
 rcases H with ⟨H, -, c2b0⟩ | ⟨H, -, c2b0⟩
 ·by_cases c3 : 0 ≤ s0_1
  ·rw [if_pos c3] at H
   have c3b0 : decide (0 ≤ s0_1) = true := decide_eq_true c3
   clear c3
   replace H := ifD H
   rcases H with ⟨H, -, c4b0⟩ | ⟨H, -, c4b0⟩
   ·simp only [Option.some.injEq, Prod.mk.injEq] at H
    obtain ⟨rfl, rfl, rfl⟩ := H
    obtain ⟨ASz5_0, cSz5_0, HGz5, hgz5, HSz5_0⟩ := HI0.out
    have hcz5_0 := cellS97_0 HGz5
    have hcz5_1 := cellS97_1 HGz5
    have hcz5_2 := cellS97_2 HGz5
    have hfz5_1 := blk_frozen HGz5 1
    have hfz5_2 := blk_frozen HGz5 2
    clear HGz5 hgz5
    have p327 : 0 ≤ (s0_1 : Int) := of_decide_eq_true asmB
    have q327 : s0_1 < (s0_0.length : Int) := of_decide_eq_true asmB
    obtain ⟨ad327, e327, hx327_0⟩ := Kd.at_int HSz5_0 s0_1 p327 q327
    cases e327
    replace hx327_0 := pw_cell_below HB.out hx327_0
    replace p327 := eq_true p327
    replace q327 := eq_true q327
    go_enter Try.func96, Try.ntmps96
    go_wp2
    repeat (go_quiet (fail); try go_wp2)
    go_ret
    exact ⟨eB, by (try simp only [Int.add_zero]); repeat (first | (with_reducible first | exact HI0.out | apply IsS97.alloc | apply IsS97.drewN | apply IsS97.drew | apply IsS97.set_1 | apply IsS97.set_2) | exact HI0.out), by repeat (first | (with_reducible first | exact HB.out | apply below_alloc | apply pw_below_drewN | apply below_drew1 | refine below_set ?_ (IsS97.ge HI0.out)) | exact HB.out), by repeat (first | (with_reducible first | exact HK.out | apply KeepBut.set_ | apply keep_drewN | apply keep_drew | apply keep_alloc) | exact HK.out)⟩
   ·simp only [Option.some.injEq, Prod.mk.injEq] at H
    obtain ⟨rfl, rfl, rfl⟩ := H
    obtain ⟨ASz6_0, cSz6_0, HGz6, hgz6, HSz6_0⟩ := HI0.out
    have hcz6_0 := cellS97_0 HGz6
    have hcz6_1 := cellS97_1 HGz6
    have hcz6_2 := cellS97_2 HGz6
    have hfz6_1 := blk_frozen HGz6 1
    have hfz6_2 := blk_frozen HGz6 2
    clear HGz6 hgz6
    have p327 : 0 ≤ (s0_1 : Int) := of_decide_eq_true asmB
    have q327 : s0_1 < (s0_0.length : Int) := of_decide_eq_true asmB
    obtain ⟨ad327, e327, hx327_0⟩ := Kd.at_int HSz6_0 s0_1 p327 q327
    cases e327
    replace hx327_0 := pw_cell_below HB.out hx327_0
    replace p327 := eq_true p327
    replace q327 := eq_true q327
    go_enter Try.func96, Try.ntmps96
    go_wp2
    repeat (go_quiet (fail); try go_wp2)
    go_ret
    exact ⟨eB, by (try simp only [Int.add_zero]); repeat (first | (with_reducible first | exact HI0.out | apply IsS97.alloc | apply IsS97.drewN | apply IsS97.drew | apply IsS97.set_1 | apply IsS97.set_2) | exact HI0.out), by repeat (first | (with_reducible first | exact HB.out | apply below_alloc | apply pw_below_drewN | apply below_drew1 | refine below_set ?_ (IsS97.ge HI0.out)) | exact HB.out), by repeat (first | (with_reducible first | exact HK.out | apply KeepBut.set_ | apply keep_drewN | apply keep_drew | apply keep_alloc) | exact HK.out)⟩
  ·rw [if_neg c3] at H
   exact absurd H (by simp)
 ·replace H := ifD H
  rcases H with ⟨H, -, c7b0⟩ | ⟨H, -, c7b0⟩
  ·simp only [Option.some.injEq, Prod.mk.injEq] at H
   obtain ⟨rfl, rfl, rfl⟩ := H
   obtain ⟨ASz8_0, cSz8_0, HGz8, hgz8, HSz8_0⟩ := HI0.out
   have hcz8_0 := cellS97_0 HGz8
   have hcz8_1 := cellS97_1 HGz8
   have hcz8_2 := cellS97_2 HGz8
   have hfz8_1 := blk_frozen HGz8 1
   have hfz8_2 := blk_frozen HGz8 2
   clear HGz8 hgz8
   go_enter Try.func96, Try.ntmps96
   go_wp2
   repeat (go_quiet (fail); try go_wp2)
   go_ret
   exact ⟨eB, by (try simp only [Int.add_zero]); repeat (first | (with_reducible first | exact HI0.out | apply IsS97.alloc | apply IsS97.drewN | apply IsS97.drew | apply IsS97.set_1 | apply IsS97.set_2) | exact HI0.out), by repeat (first | (with_reducible first | exact HB.out | apply below_alloc | apply pw_below_drewN | apply below_drew1 | refine below_set ?_ (IsS97.ge HI0.out)) | exact HB.out), by repeat (first | (with_reducible first | exact HK.out | apply KeepBut.set_ | apply keep_drewN | apply keep_drew | apply keep_alloc) | exact HK.out)⟩
  ·simp only [Option.some.injEq, Prod.mk.injEq] at H
   obtain ⟨rfl, rfl, rfl⟩ := H
   obtain ⟨ASz9_0, cSz9_0, HGz9, hgz9, HSz9_0⟩ := HI0.out
   have hcz9_0 := cellS97_0 HGz9
   have hcz9_1 := cellS97_1 HGz9
   have hcz9_2 := cellS97_2 HGz9
   have hfz9_1 := blk_frozen HGz9 1
   have hfz9_2 := blk_frozen HGz9 2
   clear HGz9 hgz9
   go_enter Try.func96, Try.ntmps96
   go_wp2
   repeat (go_quiet (fail); try go_wp2)
   go_ret
   exact ⟨eB, by (try simp only [Int.add_zero]); repeat (first | (with_reducible first | exact HI0.out | apply IsS97.alloc | apply IsS97.drewN | apply IsS97.drew | apply IsS97.set_1 | apply IsS97.set_2) | exact HI0.out), by repeat (first | (with_reducible first | exact HB.out | apply below_alloc | apply pw_below_drewN | apply below_drew1 | refine below_set ?_ (IsS97.ge HI0.out)) | exact HB.out), by repeat (first | (with_reducible first | exact HK.out | apply KeepBut.set_ | apply keep_drewN | apply keep_drew | apply keep_alloc) | exact HK.out)⟩

/-! ### spec_l1Cur_pick: function 84 -/
def spec_l1Cur_pick.f (s0_0 : List Int) (s0_1 s0_2 a1 : Int) : Option (Int × Int × Int) := if a1 ≤ 1 then (some (0, s0_1, s0_2)) else ((spec_l1Cur_next.f s0_0 s0_1 s0_2).bind fun bt328 => (if a1 > 200 then ((spec_l1Cur_next.f s0_0 bt328.2.1 bt328.2.2).bind fun bt331 => (if a1 = 0 then (none) else (some (Int.tmod (wrap64 ((wrap64 (bt328.1 * 256)) + bt331.1)) a1, bt331.2.1, bt331.2.2)))) else (if a1 = 0 then (none) else (some (Int.tmod bt328.1 a1, bt328.2.1, bt328.2.2)))))
set_option maxHeartbeats 8000000 in
set_option maxRecDepth 100000 in
theorem spec_l1Cur_pick.calls (g : Nat) (s0_0 : List Int) (s0_1 s0_2 a1 r1 r2 r3 : Int) (w0 w : World) (hI : IsS97 w0 w g s0_0 s0_1 s0_2) (hB : Below w0.heap.size w0 w) (h : spec_l1Cur_pick.f s0_0 s0_1 s0_2 a1 = some (r1, r2, r3)) :
  Calls Try.prog 84 #[.pointer (some ⟨g, 0, none⟩), .int .i64 a1] w fun e w' => e = .returned (.int .i64 r1) ∧ IsS97 w0 w' g s0_0 r2 r3 ∧ Below w0.heap.size w0 w' ∧ KeepBut w w' g none := by
 have HI0 := Aside0.mk hI
 have HK := Aside0.mk (KeepBut.refl w g none)
 have HL := Aside0.mk hB.size
 clear hI
 have HW0 := Aside0.mk hB.size
 have HB := Aside0.mk hB
 clear hB
 have H := h
 clear h
 unfold spec_l1Cur_pick.f at H
 replace H := ifD H
 rcases H with ⟨H, -, c3b0⟩ | ⟨H, -, c3b0⟩
 ·simp only [Option.some.injEq, Prod.mk.injEq] at H
  obtain ⟨rfl, rfl, rfl⟩ := H
  go_enter Try.func84, Try.ntmps84
  go_wp2
  go_ret
  exact ⟨eB, by repeat (first | (with_reducible first | exact HI0.out | apply IsS97.alloc | apply IsS97.drewN | apply IsS97.drew | apply IsS97.set_1 | apply IsS97.set_2) | exact HI0.out), by repeat (first | (with_reducible first | exact HB.out | apply below_alloc | apply pw_below_drewN | apply below_drew1 | refine below_set ?_ (IsS97.ge HI0.out)) | exact HB.out), by repeat (first | (with_reducible first | exact HK.out | apply KeepBut.set_ | apply keep_drewN | apply keep_drew | apply keep_alloc) | exact HK.out)⟩
 ·replace H := Option.bind_eq_some_iff.mp H
  obtain ⟨⟨t328, t329, t330⟩, A40, H⟩ := H
  replace H : (if a1 > 200 then ((spec_l1Cur_next.f s0_0 t329 t330).bind fun bt331 => (if a1 = 0 then (none) else (some (Int.tmod (wrap64 ((wrap64 (t328 * 256)) + bt331.1)) a1, bt331.2.1, bt331.2.2)))) else (if a1 = 0 then (none) else (some (Int.tmod t328 a1, t329, t330)))) = some (r1, r2, r3) := H
  have A4 := Aside0.mk A40
  clear A40
  replace H := ifD H
  rcases H with ⟨H, -, c5b0⟩ | ⟨H, -, c5b0⟩
  ·replace H := Option.bind_eq_some_iff.mp H
   obtain ⟨⟨t331, t332, t333⟩, A60, H⟩ := H
   replace H : (if a1 = 0 then (none) else (some (Int.tmod (wrap64 ((wrap64 (t328 * 256)) + t331)) a1, t332, t333))) = some (r1, r2, r3) := H
   have A6 := Aside0.mk A60
   clear A60
   by_cases c7 : a1 = 0
   ·rw [if_pos c7] at H
    exact absurd H (by simp)
   ·rw [if_neg c7] at H
    have c7b0 : (a1 == 0) = false := beq_eq_false_iff_ne.mpr c7
    have c7b1 : (a1 != 0) = true := bne_iff_ne.mpr c7
    simp only [Option.some.injEq, Prod.mk.injEq] at H
    obtain ⟨rfl, rfl, rfl⟩ := H
    go_enter Try.func84, Try.ntmps84
    go_wp2_with (first | ((with_reducible refine gate_callee (f := 96) rfl ?_); refine goesL_ (some 9) rfl rfl Try.func96 (by kernel_rfl) rfl #[.pointer (some ⟨g, 0, none⟩)] rfl argsB ?_; (with_reducible refine (spec_l1Cur_next.calls g s0_0 s0_1 s0_2 t328 t329 t330 w0 _ ?side1 ?side2 A4.out).mono ?_); (case side1 => repeat (first | (with_reducible first | exact HI0.out | apply IsS97.alloc | apply IsS97.drewN | apply IsS97.drew | apply IsS97.set_1 | apply IsS97.set_2) | exact HI0.out)); (case side2 => repeat (first | (with_reducible first | exact HB.out | apply below_alloc | apply pw_below_drewN | apply below_drew1 | refine below_set ?_ (IsS97.ge HI0.out)) | exact HB.out)); rintro e w8 ⟨rfl, hi, hb, hk⟩; refine ⟨_, rfl, ?_⟩; replace HK := Aside0.mk (KeepBut.trans (by repeat (first | (with_reducible first | exact HK.out | apply KeepBut.set_ | apply keep_drewN | apply keep_drew | apply keep_alloc) | exact HK.out)) hk (.inl rfl)); replace HB := Aside0.mk (hb); replace HI0 := Aside0.mk (hi); (try clear hb); (try clear hk); (try clear hi)) | ((with_reducible refine gate_callee (f := 96) rfl ?_); refine goesL_ (some 15) rfl rfl Try.func96 (by kernel_rfl) rfl #[.pointer (some ⟨g, 0, none⟩)] rfl argsB ?_; (with_reducible refine (spec_l1Cur_next.calls g s0_0 t329 t330 t331 t332 t333 w0 _ ?side1 ?side2 A6.out).mono ?_); (case side1 => repeat (first | (with_reducible first | exact HI0.out | apply IsS97.alloc | apply IsS97.drewN | apply IsS97.drew | apply IsS97.set_1 | apply IsS97.set_2) | exact HI0.out)); (case side2 => repeat (first | (with_reducible first | exact HB.out | apply below_alloc | apply pw_below_drewN | apply below_drew1 | refine below_set ?_ (IsS97.ge HI0.out)) | exact HB.out)); rintro e w9 ⟨rfl, hi, hb, hk⟩; refine ⟨_, rfl, ?_⟩; replace HK := Aside0.mk (KeepBut.trans (by repeat (first | (with_reducible first | exact HK.out | apply KeepBut.set_ | apply keep_drewN | apply keep_drew | apply keep_alloc) | exact HK.out)) hk (.inl rfl)); replace HB := Aside0.mk (hb); replace HI0 := Aside0.mk (hi); (try clear hb); (try clear hk); (try clear hi)))
    go_ret
    exact ⟨eB, by repeat (first | (with_reducible first | exact HI0.out | apply IsS97.alloc | apply IsS97.drewN | apply IsS97.drew | apply IsS97.set_1 | apply IsS97.set_2) | exact HI0.out), by repeat (first | (with_reducible first | exact HB.out | apply below_alloc | apply pw_below_drewN | apply below_drew1 | refine below_set ?_ (IsS97.ge HI0.out)) | exact HB.out), by repeat (first | (with_reducible first | exact HK.out | apply KeepBut.set_ | apply keep_drewN | apply keep_drew | apply keep_alloc) | exact HK.out)⟩
  ·by_cases c10 : a1 = 0
   ·rw [if_pos c10] at H
    exact absurd H (by simp)
   ·rw [if_neg c10] at H
    have c10b0 : (a1 == 0) = false := beq_eq_false_iff_ne.mpr c10
    have c10b1 : (a1 != 0) = true := bne_iff_ne.mpr c10
    simp only [Option.some.injEq, Prod.mk.injEq] at H
    obtain ⟨rfl, rfl, rfl⟩ := H
    go_enter Try.func84, Try.ntmps84
    go_wp2_with (first | ((with_reducible refine gate_callee (f := 96) rfl ?_); refine goesL_ (some 9) rfl rfl Try.func96 (by kernel_rfl) rfl #[.pointer (some ⟨g, 0, none⟩)] rfl argsB ?_; (with_reducible refine (spec_l1Cur_next.calls g s0_0 s0_1 s0_2 t328 t329 t330 w0 _ ?side1 ?side2 A4.out).mono ?_); (case side1 => repeat (first | (with_reducible first | exact HI0.out | apply IsS97.alloc | apply IsS97.drewN | apply IsS97.drew | apply IsS97.set_1 | apply IsS97.set_2) | exact HI0.out)); (case side2 => repeat (first | (with_reducible first | exact HB.out | apply below_alloc | apply pw_below_drewN | apply below_drew1 | refine below_set ?_ (IsS97.ge HI0.out)) | exact HB.out)); rintro e w11 ⟨rfl, hi, hb, hk⟩; refine ⟨_, rfl, ?_⟩; replace HK := Aside0.mk (KeepBut.trans (by repeat (first | (with_reducible first | exact HK.out | apply KeepBut.set_ | apply keep_drewN | apply keep_drew | apply keep_alloc) | exact HK.out)) hk (.inl rfl)); replace HB := Aside0.mk (hb); replace HI0 := Aside0.mk (hi); (try clear hb); (try clear hk); (try clear hi)))
    go_ret
    exact ⟨eB, by repeat (first | (with_reducible first | exact HI0.out | apply IsS97.alloc | apply IsS97.drewN | apply IsS97.drew | apply IsS97.set_1 | apply IsS97.set_2) | exact HI0.out), by repeat (first | (with_reducible first | exact HB.out | apply below_alloc | apply pw_below_drewN | apply below_drew1 | refine below_set ?_ (IsS97.ge HI0.out)) | exact HB.out), by repeat (first | (with_reducible first | exact HK.out | apply KeepBut.set_ | apply keep_drewN | apply keep_drew | apply keep_alloc) | exact HK.out)⟩

/-! ### spec_l1Cur_one: function 85 -/
def spec_l1Cur_one.f (s0_0 : List Int) (s0_1 s0_2 a1 : Int) : Option (Bool × Int × Int) := (spec_l1Cur_pick.f s0_0 s0_1 s0_2 a1).bind fun bt334 => (some ((bt334.1 == 0), bt334.2.1, bt334.2.2))
set_option maxHeartbeats 8000000 in
set_option maxRecDepth 100000 in
theorem spec_l1Cur_one.calls (g : Nat) (s0_0 : List Int) (s0_1 s0_2 a1 : Int) (r1 : Bool) (r2 r3 : Int) (w0 w : World) (hI : IsS97 w0 w g s0_0 s0_1 s0_2) (hB : Below w0.heap.size w0 w) (h : spec_l1Cur_one.f s0_0 s0_1 s0_2 a1 = some (r1, r2, r3)) :
  Calls Try.prog 85 #[.pointer (some ⟨g, 0, none⟩), .int .i64 a1] w fun e w' => e = .returned (.bool r1) ∧ IsS97 w0 w' g s0_0 r2 r3 ∧ Below w0.heap.size w0 w' ∧ KeepBut w w' g none := by
 have HI0 := Aside0.mk hI
 have HK := Aside0.mk (KeepBut.refl w g none)
 have HL := Aside0.mk hB.size
 clear hI
 have HW0 := Aside0.mk hB.size
 have HB := Aside0.mk hB
 clear hB
 have H := h
 clear h
 unfold spec_l1Cur_one.f at H
 replace H := Option.bind_eq_some_iff.mp H
 obtain ⟨⟨t334, t335, t336⟩, A30, H⟩ := H
 replace H : (some ((t334 == 0), t335, t336)) = some (r1, r2, r3) := H
 have A3 := Aside0.mk A30
 clear A30
 simp only [Option.some.injEq, Prod.mk.injEq] at H
 obtain ⟨rfl, rfl, rfl⟩ := H
 go_enter Try.func85, Try.ntmps85
 go_wp2_with (first | ((with_reducible refine gate_callee (f := 84) rfl ?_); refine goesL_ (some 7) rfl rfl Try.func84 (by kernel_rfl) rfl #[.pointer (some ⟨g, 0, none⟩), .int .i64 a1] rfl argsB ?_; (with_reducible refine (spec_l1Cur_pick.calls g s0_0 s0_1 s0_2 a1 t334 t335 t336 w0 _ ?side1 ?side2 A3.out).mono ?_); (case side1 => repeat (first | (with_reducible first | exact HI0.out | apply IsS97.alloc | apply IsS97.drewN | apply IsS97.drew | apply IsS97.set_1 | apply IsS97.set_2) | exact HI0.out)); (case side2 => repeat (first | (with_reducible first | exact HB.out | apply below_alloc | apply pw_below_drewN | apply below_drew1 | refine below_set ?_ (IsS97.ge HI0.out)) | exact HB.out)); rintro e w4 ⟨rfl, hi, hb, hk⟩; refine ⟨_, rfl, ?_⟩; replace HK := Aside0.mk (KeepBut.trans (by repeat (first | (with_reducible first | exact HK.out | apply KeepBut.set_ | apply keep_drewN | apply keep_drew | apply keep_alloc) | exact HK.out)) hk (.inl rfl)); replace HB := Aside0.mk (hb); replace HI0 := Aside0.mk (hi); (try clear hb); (try clear hk); (try clear hi)))
 go_ret
 exact ⟨eB, by repeat (first | (with_reducible first | exact HI0.out | apply IsS97.alloc | apply IsS97.drewN | apply IsS97.drew | apply IsS97.set_1 | apply IsS97.set_2) | exact HI0.out), by repeat (first | (with_reducible first | exact HB.out | apply below_alloc | apply pw_below_drewN | apply below_drew1 | refine below_set ?_ (IsS97.ge HI0.out)) | exact HB.out), by repeat (first | (with_reducible first | exact HK.out | apply KeepBut.set_ | apply keep_drewN | apply keep_drew | apply keep_alloc) | exact HK.out)⟩

/-! ### spec_l1Cur_among: function 95 -/
def spec_l1Cur_among.f (s0_0 : List Int) (s0_1 s0_2 : Int) (l1 : List Int) : Option (Int × Int × Int) := (spec_l1Cur_pick.f s0_0 s0_1 s0_2 (l1.length : Int)).bind fun bt337 => (if 0 ≤ bt337.1 then (if bt337.1 < (l1.length : Int) then (some (rd l1 bt337.1, bt337.2.1, bt337.2.2)) else (none)) else (none))
set_option maxHeartbeats 8000000 in
set_option maxRecDepth 100000 in
theorem spec_l1Cur_among.calls (g : Nat) (s0_0 : List Int) (s0_1 s0_2 : Int) (A1 : Option Addr) (c1 : Nat) (l1 : List Int) (r1 r2 r3 : Int) (w0 w : World) (hI : IsS97 w0 w g s0_0 s0_1 s0_2) (hB : Below w0.heap.size w0 w) (hr1 : Kd.C (Kd.int .i64) w A1 l1.length l1) (hc1 : l1.length ≤ c1) (hf1 : ∀ ad, A1 = some ad → 0 < l1.length → ad.block ≠ g) (h : spec_l1Cur_among.f s0_0 s0_1 s0_2 l1 = some (r1, r2, r3)) :
  Calls Try.prog 95 #[.pointer (some ⟨g, 0, none⟩), .slice A1 l1.length c1] w fun e w' => e = .returned (.int .i64 r1) ∧ IsS97 w0 w' g s0_0 r2 r3 ∧ Below w0.heap.size w0 w' ∧ KeepBut w w' g none := by
 have HR1 := Aside0.mk hr1
 have HC1 := Aside0.mk hc1
 clear hr1 hc1
 have HI0 := Aside0.mk hI
 have HK := Aside0.mk (KeepBut.refl w g none)
 have HL := Aside0.mk hB.size
 clear hI
 have HW0 := Aside0.mk hB.size
 have HB := Aside0.mk hB
 clear hB
 have H := h
 clear h
 unfold spec_l1Cur_among.f at H
 replace H := Option.bind_eq_some_iff.mp H
 obtain ⟨⟨t337, t338, t339⟩, A30, H⟩ := H
 replace H : (if 0 ≤ t337 then (if t337 < (l1.length : Int) then (some (rd l1 t337, t338, t339)) else (none)) else (none)) = some (r1, r2, r3) := H
 have A3 := Aside0.mk A30
 clear A30
 by_cases c4 : 0 ≤ t337
 ·rw [if_pos c4] at H
  have c4b0 : decide (0 ≤ t337) = true := decide_eq_true c4
  clear c4
  by_cases c5 : t337 < (l1.length : Int)
  ·rw [if_pos c5] at H
   have c5b0 : decide (t337 < (l1.length : Int)) = true := decide_eq_true c5
   clear c5
   simp only [Option.some.injEq, Prod.mk.injEq] at H
   obtain ⟨rfl, rfl, rfl⟩ := H
   go_enter Try.func95, Try.ntmps95
   go_wp2_with (first | ((with_reducible refine gate_callee (f := 84) rfl ?_); refine goesL_ (some 9) rfl rfl Try.func84 (by kernel_rfl) rfl #[.pointer (some ⟨g, 0, none⟩), .int .i64 (l1.length : Int)] rfl argsB ?_; (with_reducible refine (spec_l1Cur_pick.calls g s0_0 s0_1 s0_2 (l1.length : Int) t337 t338 t339 w0 _ ?side1 ?side2 A3.out).mono ?_); (case side1 => repeat (first | (with_reducible first | exact HI0.out | apply IsS97.alloc | apply IsS97.drewN | apply IsS97.drew | apply IsS97.set_1 | apply IsS97.set_2) | exact HI0.out)); (case side2 => repeat (first | (with_reducible first | exact HB.out | apply below_alloc | apply pw_below_drewN | apply below_drew1 | refine below_set ?_ (IsS97.ge HI0.out)) | exact HB.out)); rintro e w6 ⟨rfl, hi, hb, hk⟩; refine ⟨_, rfl, ?_⟩; replace HK := Aside0.mk (KeepBut.trans (by repeat (first | (with_reducible first | exact HK.out | apply KeepBut.set_ | apply keep_drewN | apply keep_drew | apply keep_alloc) | exact HK.out)) hk (.inl rfl)); replace HB := Aside0.mk (hb); replace HI0 := Aside0.mk (hi); (try clear hb); (try clear hk); (try clear hi); have p340 : 0 ≤ (t337 : Int) := of_decide_eq_true asmB; have q340 : t337 < (l1.length : Int) := of_decide_eq_true asmB; obtain ⟨ad340, e340, hx340_0⟩ := Kd.at_int HR1.out t337 p340 q340; cases e340; replace hx340_0 := keep_cell HK.out hx340_0 (by first | (rw [add_block]; exact hf1 _ rfl (by omega)) | exact hf1 _ rfl (by omega) | exact hf1 ad340 rfl (by omega)); replace p340 := eq_true p340; replace q340 := eq_true q340))
   go_ret
   exact ⟨eB, by repeat (first | (with_reducible first | exact HI0.out | apply IsS97.alloc | apply IsS97.drewN | apply IsS97.drew | apply IsS97.set_1 | apply IsS97.set_2) | exact HI0.out), by repeat (first | (with_reducible first | exact HB.out | apply below_alloc | apply pw_below_drewN | apply below_drew1 | refine below_set ?_ (IsS97.ge HI0.out)) | exact HB.out), by repeat (first | (with_reducible first | exact HK.out | apply KeepBut.set_ | apply keep_drewN | apply keep_drew | apply keep_alloc) | exact HK.out)⟩
  ·rw [if_neg c5] at H
   exact absurd H (by simp)
 ·rw [if_neg c4] at H
  exact absurd H (by simp)

end Go.Proofs.Ytinelmmnajelaaa.QFnVersions
