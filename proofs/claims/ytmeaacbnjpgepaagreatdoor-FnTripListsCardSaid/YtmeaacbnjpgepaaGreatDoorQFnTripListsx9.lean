/- Contracts of Go functions that FnTripLists reaches: the call computes what the plain function says. No condition. -/
import Derived.Test.YtmeaacbnjpgepaaGreatDoorQFnTripListsx0
import Derived.Test.YtmeaacbnjpgepaaGreatDoorQFnTripListsx3
namespace Go.Proofs.YtmeaacbnjpgepaaGreatDoor.QFnTripLists
open Go.RowKit Go.Proofs.YtmeaacbnjpgepaaGreatDoorW.PrintWords Go.Proofs.YtmeaacbnjpgepaaGreatDoorW.PrintLast Go.Proofs.YtmeaacbnjpgepaaGreatDoorW.PrintMore
attribute [local go_sem] max2_int min2_int max_two min_two max_three min_three max_four min_four   -- for this text's walks alone
set_option linter.unusedVariables false
set_option linter.unusedSimpArgs false

/-! ### spec_l21Words: function 47 -/
def spec_l21Words.f  : Option (List ByteArray) := some (([(⟨#[112, 108, 97, 110, 110, 101, 100]⟩ : ByteArray), (⟨#[105, 110, 115, 105, 100, 101]⟩ : ByteArray), (⟨#[111, 118, 101, 114, 100, 117, 101]⟩ : ByteArray), (⟨#[114, 101, 115, 99, 117, 101]⟩ : ByteArray), (⟨#[111, 118, 101, 114]⟩ : ByteArray), (⟨#[99, 97, 110, 99, 101, 108, 101, 100]⟩ : ByteArray)] : List ByteArray))
set_option maxHeartbeats 8000000 in
set_option maxRecDepth 100000 in
theorem spec_l21Words.calls  (r : List ByteArray) (w : World) (h : spec_l21Words.f  = some r) :
  Calls Tryz.prog 47 #[] w fun e w' => ∃ v0_ : Value, e = .returned (v0_) ∧ Kd.R Kd.string 9 w' w.heap.size (fun _ => True) v0_ r ∧ Below w.heap.size w w' := by
 have HB := Aside0.mk (Below.refl w.heap.size w)
 have H := h
 clear h
 unfold spec_l21Words.f at H
 obtain ⟨y294, hy294⟩ : ∃ y_ : List ByteArray, y_ = (([(⟨#[112, 108, 97, 110, 110, 101, 100]⟩ : ByteArray), (⟨#[105, 110, 115, 105, 100, 101]⟩ : ByteArray), (⟨#[111, 118, 101, 114, 100, 117, 101]⟩ : ByteArray), (⟨#[114, 101, 115, 99, 117, 101]⟩ : ByteArray), (⟨#[111, 118, 101, 114]⟩ : ByteArray), (⟨#[99, 97, 110, 99, 101, 108, 101, 100]⟩ : ByteArray)] : List ByteArray)) := ⟨_, rfl⟩
 replace H : (some y294) = some r := by first | (rw [hy294]; with_reducible exact H) | (have H2_ := (Option.bind_some _ _).symm.trans H; rw [hy294]; with_reducible exact H2_) | (have H2_ := (Option.bind_some _ _).symm.trans H; with_reducible exact H2_) | with_reducible exact H | (rw [hy294]; exact H) | exact H
 have Ny294 := Aside0.mk hy294
 clear hy294
 obtain rfl := Option.some.inj H
 go_enter Tryz.func47, Tryz.ntmps47
 go_wp2_with (first | ((with_reducible refine gate_dst (N := 1) rfl ?_); refine Kd.R_lit Kd.string _ 9 ?hg (N := 1) ?hd (xs := ([(⟨#[112, 108, 97, 110, 110, 101, 100]⟩ : ByteArray), (⟨#[105, 110, 115, 105, 100, 101]⟩ : ByteArray), (⟨#[111, 118, 101, 114, 100, 117, 101]⟩ : ByteArray), (⟨#[114, 101, 115, 99, 117, 101]⟩ : ByteArray), (⟨#[111, 118, 101, 114]⟩ : ByteArray), (⟨#[99, 97, 110, 99, 101, 108, 101, 100]⟩ : ByteArray)] : List ByteArray)) (inner := [.string (⟨#[112, 108, 97, 110, 110, 101, 100]⟩ : ByteArray), .string (⟨#[105, 110, 115, 105, 100, 101]⟩ : ByteArray), .string (⟨#[111, 118, 101, 114, 100, 117, 101]⟩ : ByteArray), .string (⟨#[114, 101, 115, 99, 117, 101]⟩ : ByteArray), .string (⟨#[111, 118, 101, 114]⟩ : ByteArray), .string (⟨#[99, 97, 110, 99, 101, 108, 101, 100]⟩ : ByteArray)]) (ok := fun _ => True) (okp := fun _ => True) ?hr ?hp (fun _ hk => hk) trivial (Below.refl _ _) (Nat.le_refl _) (by simp) ?_; (case hd => rfl); (case hg => rfl); (case hr => first | (go_simp; done) | (go_simp; rfl)); (case hp => exact (Reps.one (show Kd.M Kd.string _ _ _ (⟨#[112, 108, 97, 110, 110, 101, 100]⟩ : ByteArray) [.string (⟨#[112, 108, 97, 110, 110, 101, 100]⟩ : ByteArray)] from rfl) (Reps.one (show Kd.M Kd.string _ _ _ (⟨#[105, 110, 115, 105, 100, 101]⟩ : ByteArray) [.string (⟨#[105, 110, 115, 105, 100, 101]⟩ : ByteArray)] from rfl) (Reps.one (show Kd.M Kd.string _ _ _ (⟨#[111, 118, 101, 114, 100, 117, 101]⟩ : ByteArray) [.string (⟨#[111, 118, 101, 114, 100, 117, 101]⟩ : ByteArray)] from rfl) (Reps.one (show Kd.M Kd.string _ _ _ (⟨#[114, 101, 115, 99, 117, 101]⟩ : ByteArray) [.string (⟨#[114, 101, 115, 99, 117, 101]⟩ : ByteArray)] from rfl) (Reps.one (show Kd.M Kd.string _ _ _ (⟨#[111, 118, 101, 114]⟩ : ByteArray) [.string (⟨#[111, 118, 101, 114]⟩ : ByteArray)] from rfl) (Reps.one (show Kd.M Kd.string _ _ _ (⟨#[99, 97, 110, 99, 101, 108, 101, 100]⟩ : ByteArray) [.string (⟨#[99, 97, 110, 99, 101, 108, 101, 100]⟩ : ByteArray)] from rfl) (Reps.none _ _)))))))); intro v295 w1 ho2 hb hg_ hnew_; clear hg_ hnew_; (first | rw [← Ny294.out] at ho2 | (simp only [Int.reduceToNat] at ho2; rw [← Ny294.out] at ho2)); have HO296 := Aside0.mk (Kd.R_lower ho2 (below_size (bW HB))); replace HB := uB HB hb; clear hb ho2))
 go_ret
 exact ⟨_, eB, upR HO296.out, (bW HB)⟩

/-! ### spec_l1Num: function 48 -/
theorem digit_lim {n : Nat} {i j : Int} (b : ByteArray) (hb : b.size = 10) (hj : j ≤ 10) (h : n + (b.extract i.toNat j.toNat).size ≤ 9223372036854775807) : (9223372036854775807 < n + (j.toNat - i.toNat)) = False := by
 rw [ByteArray.size_extract, hb] at h
 exact eq_false (by omega)
def spec_l1Num.f : Nat → Int → Option (ByteArray)
 | 0, _ => none
 | k + 1, a0 => if a0 < 0 then ((spec_l1Num.f k (wrap64 (-a0))).bind fun t297 => (if 1 + t297.size ≤ 9223372036854775807 then (some ((⟨#[45]⟩ : ByteArray) ++ t297)) else (none))) else (if a0 < 10 then (if 0 ≤ a0 then (if a0 ≤ (wrap64 (a0 + 1)) then (if (wrap64 (a0 + 1)) ≤ 10 then (some ((⟨#[48, 49, 50, 51, 52, 53, 54, 55, 56, 57]⟩ : ByteArray).extract (a0 : Int).toNat ((wrap64 (a0 + 1)) : Int).toNat)) else (none)) else (none)) else (none)) else ((spec_l1Num.f k (wrap64 (Int.tdiv a0 10))).bind fun t298 => (if 0 ≤ (Int.tmod a0 10) then (if (Int.tmod a0 10) ≤ (wrap64 ((Int.tmod a0 10) + 1)) then (if (wrap64 ((Int.tmod a0 10) + 1)) ≤ 10 then (if t298.size + ((⟨#[48, 49, 50, 51, 52, 53, 54, 55, 56, 57]⟩ : ByteArray).extract ((Int.tmod a0 10) : Int).toNat ((wrap64 ((Int.tmod a0 10) + 1)) : Int).toNat).size ≤ 9223372036854775807 then (some (t298 ++ ((⟨#[48, 49, 50, 51, 52, 53, 54, 55, 56, 57]⟩ : ByteArray).extract ((Int.tmod a0 10) : Int).toNat ((wrap64 ((Int.tmod a0 10) + 1)) : Int).toNat))) else (none)) else (none)) else (none)) else (none))))
theorem spec_l1Num.mono_l : ∀ k, (∀ y0, LeO (spec_l1Num.f k y0) (spec_l1Num.f (k + 1) y0))
 | 0 => fun _ r h => by simp [spec_l1Num.f] at h
 | k + 1 => by
  have ih0 := spec_l1Num.mono_l k
  ·intro y0
   unfold spec_l1Num.f
   repeat' with_reducible first | apply ih0 | exact LeO.refl _ | exact LeO.none _ | refine LeO.ite ?_ ?_ | refine LeO.bind ?_ (fun _ => ?_)
theorem spec_l1Num.mono : ∀ a0 k, LeO (spec_l1Num.f k a0) (spec_l1Num.f (k + 1) a0) := by
 intro a0 k
 have ih0 := spec_l1Num.mono_l k
 exact ih0 a0
def spec_l1Num.T5 : Bool × List (List Nat × List Nat) := (true, [([], []), ([0], [0]), ([1], [1]), ([], []), ([3], [3]), ([], []), ([5], [5]), ([6], [6]), ([4, 7], [4, 7]), ([2, 8], [2, 8]), ([9, 2, 0, 1, 2, 3, 4, 5, 6, 7, 8, 9], [9])])
def spec_l1Num.B5 : List Nat := [0, 1, 3, 0, 8, 0, 32, 96, 248, 511, 1023]
theorem spec_l1Num.tab5 : rtab .any (opsOf Tryz.f48 5) = spec_l1Num.T5 := by kernel_rfl
theorem spec_l1Num.bits5 : waitsOk spec_l1Num.T5.2 spec_l1Num.B5 = true := by kernel_rfl
set_option maxHeartbeats 8000000 in
set_option maxRecDepth 100000 in
theorem spec_l1Num.calls (k : Nat) : ∀ (a0 : Int) (r : ByteArray) (w : World) (h : spec_l1Num.f k a0 = some r),
  Calls Tryz.prog 48 #[.int .i64 a0] w fun e w' => e = .returned (.string r) ∧ Below w.heap.size w w' := by
 induction k using Nat.strongRecOn with
 | _ k ih =>
 intro a0 r w h
 cases k with
 | zero => exact absurd h (by simp [spec_l1Num.f])
 | succ k =>
 simp only [spec_l1Num.f] at h
 have HB := Aside0.mk (Below.refl w.heap.size w)
 have H : (if a0 < 0 then ((spec_l1Num.f k (wrap64 (-a0))).bind fun t297 => (if 1 + t297.size ≤ 9223372036854775807 then (some ((⟨#[45]⟩ : ByteArray) ++ t297)) else (none))) else (if a0 < 10 then (if 0 ≤ a0 then (if a0 ≤ (wrap64 (a0 + 1)) then (if (wrap64 (a0 + 1)) ≤ 10 then (some ((⟨#[48, 49, 50, 51, 52, 53, 54, 55, 56, 57]⟩ : ByteArray).extract (a0 : Int).toNat ((wrap64 (a0 + 1)) : Int).toNat)) else (none)) else (none)) else (none)) else ((spec_l1Num.f k (wrap64 (Int.tdiv a0 10))).bind fun t298 => (if 0 ≤ (Int.tmod a0 10) then (if (Int.tmod a0 10) ≤ (wrap64 ((Int.tmod a0 10) + 1)) then (if (wrap64 ((Int.tmod a0 10) + 1)) ≤ 10 then (if t298.size + ((⟨#[48, 49, 50, 51, 52, 53, 54, 55, 56, 57]⟩ : ByteArray).extract ((Int.tmod a0 10) : Int).toNat ((wrap64 ((Int.tmod a0 10) + 1)) : Int).toNat).size ≤ 9223372036854775807 then (some (t298 ++ ((⟨#[48, 49, 50, 51, 52, 53, 54, 55, 56, 57]⟩ : ByteArray).extract ((Int.tmod a0 10) : Int).toNat ((wrap64 ((Int.tmod a0 10) + 1)) : Int).toNat))) else (none)) else (none)) else (none)) else (none))))) = some r := h
 clear h
 replace H := ifD H
 rcases H with ⟨H, -, c2b0⟩ | ⟨H, -, c2b0⟩
 ·replace H := bA H
  obtain ⟨t297, A3, H⟩ := H
  by_cases c4 : 1 + t297.size ≤ 9223372036854775807
  ·rw [if_pos c4] at H
   have c4b0 := eq_true c4
   have c4b1 : decide (1 + t297.size ≤ 9223372036854775807) = true := decide_eq_true c4
   try have c4b2 : (9223372036854775807 < 1 + t297.size) = False := eq_false (Nat.not_lt.2 c4)
   obtain rfl := Option.some.inj H
   go_enter Tryz.func48, Tryz.ntmps48
   go_wp2_with (first | ((with_reducible refine gC 48 ?_); refine lA (some 7) Tryz.func48 (ih k (by omega) (wrap64 (-a0)) t297 _ A3.out) ?_; intro w5 hb; replace HB := uB HB hb; (try clear hb)))
   go_ret
   exact ⟨eB, (bW HB)⟩
  ·rw [if_neg c4] at H
   exact absurd H (by simp)
 ·replace H := ifD H
  rcases H with ⟨H, -, c6b0⟩ | ⟨H, -, c6b0⟩
  ·by_cases c7 : 0 ≤ a0
   ·rw [if_pos c7] at H
    have c7b0 := eq_true c7
    have c7b1 : decide (0 ≤ a0) = true := decide_eq_true c7
    clear c7
    by_cases c8 : a0 ≤ (wrap64 (a0 + 1))
    ·rw [if_pos c8] at H
     have c8b0 := eq_true c8
     have c8b1 : decide (a0 ≤ (wrap64 (a0 + 1))) = true := decide_eq_true c8
     by_cases c9 : (wrap64 (a0 + 1)) ≤ 10
     ·rw [if_pos c9] at H
      have c9b0 := eq_true c9
      have c9b1 : decide ((wrap64 (a0 + 1)) ≤ 10) = true := decide_eq_true c9
      obtain rfl := Option.some.inj H
      go_enter Tryz.func48, Tryz.ntmps48
      go_wp2
      go_ret
      exact ⟨eB, (bW HB)⟩
     ·rw [if_neg c9] at H
      exact absurd H (by simp)
    ·rw [if_neg c8] at H
     exact absurd H (by simp)
   ·rw [if_neg c7] at H
    exact absurd H (by simp)
  ·replace H := bA H
   obtain ⟨t298, A10, H⟩ := H
   obtain ⟨ji11, hji11⟩ : ∃ j_ : Int, (Int.tmod a0 10) = j_ := ⟨_, rfl⟩
   replace H : (if 0 ≤ (ji11) then (if (ji11) ≤ (wrap64 ((ji11) + 1)) then (if (wrap64 ((ji11) + 1)) ≤ 10 then (if t298.size + ((⟨#[48, 49, 50, 51, 52, 53, 54, 55, 56, 57]⟩ : ByteArray).extract ((ji11) : Int).toNat ((wrap64 ((ji11) + 1)) : Int).toNat).size ≤ 9223372036854775807 then (some (t298 ++ ((⟨#[48, 49, 50, 51, 52, 53, 54, 55, 56, 57]⟩ : ByteArray).extract ((ji11) : Int).toNat ((wrap64 ((ji11) + 1)) : Int).toNat))) else (none)) else (none)) else (none)) else (none)) = some r := by first | (rw [hji11] at H; exact H) | (simp only [hji11] at H ⊢; exact H)
   (try rw [hji11] at A10)
   by_cases c12 : 0 ≤ (ji11)
   ·rw [if_pos c12] at H
    have c12b0 := eq_true c12
    have c12b1 : decide (0 ≤ (ji11)) = true := decide_eq_true c12
    clear c12
    by_cases c13 : (ji11) ≤ (wrap64 ((ji11) + 1))
    ·rw [if_pos c13] at H
     have c13b0 := eq_true c13
     have c13b1 : decide ((ji11) ≤ (wrap64 ((ji11) + 1))) = true := decide_eq_true c13
     by_cases c14 : (wrap64 ((ji11) + 1)) ≤ 10
     ·rw [if_pos c14] at H
      have c14b0 := eq_true c14
      have c14b1 : decide ((wrap64 ((ji11) + 1)) ≤ 10) = true := decide_eq_true c14
      by_cases c15 : t298.size + ((⟨#[48, 49, 50, 51, 52, 53, 54, 55, 56, 57]⟩ : ByteArray).extract ((ji11) : Int).toNat ((wrap64 ((ji11) + 1)) : Int).toNat).size ≤ 9223372036854775807
      ·rw [if_pos c15] at H
       have c15b0 := eq_true c15
       have c15b1 : decide (t298.size + ((⟨#[48, 49, 50, 51, 52, 53, 54, 55, 56, 57]⟩ : ByteArray).extract ((ji11) : Int).toNat ((wrap64 ((ji11) + 1)) : Int).toNat).size ≤ 9223372036854775807) = true := decide_eq_true c15
       (try (have c15b5 := c15b0; simp only [ByteArray.size_append', ByteArray.size_extract, Nat.sub_zero, Nat.min_self] at c15b5))
       try have c15b2 : (9223372036854775807 < t298.size + ((⟨#[48, 49, 50, 51, 52, 53, 54, 55, 56, 57]⟩ : ByteArray).extract ((ji11) : Int).toNat ((wrap64 ((ji11) + 1)) : Int).toNat).size) = False := eq_false (Nat.not_lt.2 c15)
       (try (have c15b4 := c15b2; simp only [ByteArray.size_append', ByteArray.size_extract, Nat.sub_zero, Nat.min_self] at c15b4))
       have c15b3 := digit_lim (n := t298.size) (i := ji11) (j := (wrap64 ((ji11) + 1))) (⟨#[48, 49, 50, 51, 52, 53, 54, 55, 56, 57]⟩ : ByteArray) rfl (by first | assumption | (with_reducible assumption)) c15
       obtain rfl := Option.some.inj H
       go_enter Tryz.func48, Tryz.ntmps48
       try go_wp2
       replace HB := Aside0.mk (below_drew1 HB.out)
       refine start_ (n := 11) (S := fun w' => True) (ds := []) #[false, false, false, false, false, false, false, false, false, false, false] (by kernel_rfl) rfl rfl trivial (fun hHeld => ?_); refine with_tabW spec_l1Num.tab5 spec_l1Num.bits5 (fun HT_ HW_ => ?_)
       generalize w.drew = w16 at HB hHeld ⊢
       refine pA 0 15 HT_ ?_
       refine pA 1 16 HT_ ?_
       refine pA 3 18 HT_ ?_
       refine pA 4 19 HT_ ?_
       refine pA 5 20 HT_ ?_
       refine pA 6 21 HT_ ?_
       refine pA 7 22 HT_ ?_
       refine pA 8 23 HT_ ?_
       refine oA 2 (some 17) HT_ fun K hK => ?_
       refine rA Tryz.func48 (ih k (by omega) (wrap64 (Int.tdiv a0 10)) t298 _ A10.out) ?_
       intro w17 hb
       replace HB := uB HB hb
       (try clear hb)
       refine hK.out _ _ trivial (fun hHeld => ?_)
       clear hK K
       refine nA ?_ (some 17)
       refine pA 9 24 HT_ ?_
       refine pA 10 2 HT_ ?_
       refine done_ (done_of HT_.out (by kernel_rfl)) ?_
       try go_wp2
       go_ret
       exact ⟨by first | rfl | (simp [errW_none, errW_some] <;> rfl) | (simp only [← hji11]; first | rfl | (simp [errW_none, errW_some] <;> rfl)) | (simp [*, errW_none, errW_some] <;> rfl), (bW HB)⟩
      ·rw [if_neg c15] at H
       exact absurd H (by simp)
     ·rw [if_neg c14] at H
      exact absurd H (by simp)
    ·rw [if_neg c13] at H
     exact absurd H (by simp)
   ·rw [if_neg c12] at H
    exact absurd H (by simp)

/-! ### spec_l21Text: function 27 -/
theorem more_ {P : Program} {md : Region.Mode} {ops : Array Oper} {Q : Exit → Act → World → Prop} {S S' : World → Prop} {fuel : Nat} {l : Array Bool} {a : Act} {w : World} (h1 : ∀ w, S' w → S w) (hS : S' w) (h : S' w → wpAnyLast P md ops Q S' [] fuel l a w) : wpAnyLast P md ops Q S [] fuel l a w := by
 have key : ∀ (fuel : Nat) (l : Array Bool) (a : Act) (w : World), S' w → wpAnyLast P md ops Q S' [] fuel l a w → wpAnyLast P md ops Q S [] fuel l a w := by
  intro fuel
  induction fuel with
  | zero => exact fun _ _ _ _ h => h
  | succ n ih => exact fun l a w hS h => ⟨h.1, fun i hi => wpOp_mono (fun a' w' h' => ⟨fun hn _ => h1 w' (h'.1 hn hS), ih _ _ _ (h'.1 (by simp) hS) h'.2⟩) (h.2 i hi)⟩
 exact key fuel l a w hS (h hS)
def spec_l21Text.f (k : Nat) (a0_0 a0_1 a0_2 a0_3 a0_4 : Int) : Option (ByteArray) := (spec_l21Words.f).bind fun t300 => (if 0 ≤ a0_0 then (if a0_0 < (t300.length : Int) then (if (rdOf ByteArray.empty t300 a0_0).size + 1 ≤ 9223372036854775807 then ((spec_l1Num.f k a0_2).bind fun t304 => (if ((rdOf ByteArray.empty t300 a0_0) ++ (⟨#[32]⟩ : ByteArray)).size + t304.size ≤ 9223372036854775807 then (if (((rdOf ByteArray.empty t300 a0_0) ++ (⟨#[32]⟩ : ByteArray)) ++ t304).size + 1 ≤ 9223372036854775807 then ((spec_l1Num.f k a0_1).bind fun t305 => (if ((((rdOf ByteArray.empty t300 a0_0) ++ (⟨#[32]⟩ : ByteArray)) ++ t304) ++ (⟨#[47]⟩ : ByteArray)).size + t305.size ≤ 9223372036854775807 then (if (((((rdOf ByteArray.empty t300 a0_0) ++ (⟨#[32]⟩ : ByteArray)) ++ t304) ++ (⟨#[47]⟩ : ByteArray)) ++ t305).size + 5 ≤ 9223372036854775807 then ((spec_l1Num.f k a0_3).bind fun t306 => (if ((((((rdOf ByteArray.empty t300 a0_0) ++ (⟨#[32]⟩ : ByteArray)) ++ t304) ++ (⟨#[47]⟩ : ByteArray)) ++ t305) ++ (⟨#[32, 100, 117, 101, 32]⟩ : ByteArray)).size + t306.size ≤ 9223372036854775807 then (if (((((((rdOf ByteArray.empty t300 a0_0) ++ (⟨#[32]⟩ : ByteArray)) ++ t304) ++ (⟨#[47]⟩ : ByteArray)) ++ t305) ++ (⟨#[32, 100, 117, 101, 32]⟩ : ByteArray)) ++ t306).size + 4 ≤ 9223372036854775807 then ((spec_l1Num.f k a0_4).bind fun t307 => (if ((((((((rdOf ByteArray.empty t300 a0_0) ++ (⟨#[32]⟩ : ByteArray)) ++ t304) ++ (⟨#[47]⟩ : ByteArray)) ++ t305) ++ (⟨#[32, 100, 117, 101, 32]⟩ : ByteArray)) ++ t306) ++ (⟨#[32, 97, 116, 32]⟩ : ByteArray)).size + t307.size ≤ 9223372036854775807 then (some (((((((((rdOf ByteArray.empty t300 a0_0) ++ (⟨#[32]⟩ : ByteArray)) ++ t304) ++ (⟨#[47]⟩ : ByteArray)) ++ t305) ++ (⟨#[32, 100, 117, 101, 32]⟩ : ByteArray)) ++ t306) ++ (⟨#[32, 97, 116, 32]⟩ : ByteArray)) ++ t307)) else (none))) else (none)) else (none))) else (none)) else (none))) else (none)) else (none))) else (none)) else (none)) else (none))
theorem spec_l21Text.mono : ∀ a0 a1 a2 a3 a4 k, LeO (spec_l21Text.f k a0 a1 a2 a3 a4) (spec_l21Text.f (k + 1) a0 a1 a2 a3 a4) := by
 intro a0 a1 a2 a3 a4 k
 unfold spec_l21Text.f
 repeat' with_reducible first | apply spec_l1Num.mono | exact LeO.refl _ | exact LeO.none _ | refine LeO.ite ?_ ?_ | refine LeO.bind ?_ (fun _ => ?_)
def spec_l21Text.T1 : Bool × List (List Nat × List Nat) := (true, [([], []), ([], []), ([1], [1]), ([0, 2], [0, 2]), ([3], [3]), ([4], [4]), ([], []), ([6], [6]), ([7, 0], [7]), ([5, 8], [5, 8]), ([9], [9]), ([], []), ([11], [11]), ([12, 8], [12]), ([10, 13], [10, 13]), ([14], [14]), ([], []), ([16], [16]), ([17, 13], [17]), ([15, 18], [15, 18]), ([19], [19]), ([], []), ([21], [21]), ([22, 18], [22]), ([20, 23], [20, 23]), ([24, 23, 0, 1, 2, 3, 4, 5, 6, 7, 8, 9, 10, 11, 12, 13, 14, 15, 16, 17, 18, 19, 20, 21, 22, 23, 24], [24])])
def spec_l21Text.B1 : List Nat := [0, 0, 2, 7, 15, 31, 0, 64, 193, 511, 1023, 0, 2048, 6593, 16383, 32767, 0, 65536, 211393, 524287, 1048575, 0, 2097152, 6764993, 16777215, 33554431]
theorem spec_l21Text.tab1 : rtab .any (opsOf Tryz.f27 1) = spec_l21Text.T1 := by kernel_rfl
theorem spec_l21Text.bits1 : waitsOk spec_l21Text.T1.2 spec_l21Text.B1 = true := by kernel_rfl
set_option maxHeartbeats 8000000 in
set_option maxRecDepth 100000 in
theorem spec_l21Text.calls (k : Nat) (a0_0 a0_1 a0_2 a0_3 a0_4 : Int) (r : ByteArray) (w : World) (h : spec_l21Text.f k a0_0 a0_1 a0_2 a0_3 a0_4 = some r) :
  Calls Tryz.prog 27 #[.agg #[.int .i64 a0_0, .int .i64 a0_1, .int .i64 a0_2, .int .i64 a0_3, .int .i64 a0_4]] w fun e w' => e = .returned (.string r) ∧ Below w.heap.size w w' := by
 have hu25 := Tryz.underlying25
 have HB := Aside0.mk (Below.refl w.heap.size w)
 have H := h
 clear h
 unfold spec_l21Text.f at H
 replace H := bA H
 obtain ⟨t300, A2, H⟩ := H
 by_cases c3 : 0 ≤ a0_0
 ·rw [if_pos c3] at H
  have c3b0 : decide (0 ≤ a0_0) = true := decide_eq_true c3
  clear c3
  by_cases c4 : a0_0 < (t300.length : Int)
  ·rw [if_pos c4] at H
   have c4b0 : decide (a0_0 < (t300.length : Int)) = true := decide_eq_true c4
   clear c4
   by_cases c5 : (rdOf ByteArray.empty t300 a0_0).size + 1 ≤ 9223372036854775807
   ·rw [if_pos c5] at H
    have c5b0 := eq_true c5
    have c5b1 : decide ((rdOf ByteArray.empty t300 a0_0).size + 1 ≤ 9223372036854775807) = true := decide_eq_true c5
    try have c5b2 : (9223372036854775807 < (rdOf ByteArray.empty t300 a0_0).size + 1) = False := eq_false (Nat.not_lt.2 c5)
    replace H := bA H
    obtain ⟨t304, A6, H⟩ := H
    by_cases c7 : ((rdOf ByteArray.empty t300 a0_0) ++ (⟨#[32]⟩ : ByteArray)).size + t304.size ≤ 9223372036854775807
    ·rw [if_pos c7] at H
     have c7b0 := eq_true c7
     have c7b1 : decide (((rdOf ByteArray.empty t300 a0_0) ++ (⟨#[32]⟩ : ByteArray)).size + t304.size ≤ 9223372036854775807) = true := decide_eq_true c7
     try have c7b2 : (9223372036854775807 < ((rdOf ByteArray.empty t300 a0_0) ++ (⟨#[32]⟩ : ByteArray)).size + t304.size) = False := eq_false (Nat.not_lt.2 c7)
     have c7b3 : (9223372036854775807 < (rdOf ByteArray.empty t300 a0_0).size + 1 + t304.size) = False := by have e_ := c7; simp only [ByteArray.size_append, show (⟨#[32]⟩ : ByteArray).size = 1 from rfl] at e_; exact eq_false (by omega)
     by_cases c8 : (((rdOf ByteArray.empty t300 a0_0) ++ (⟨#[32]⟩ : ByteArray)) ++ t304).size + 1 ≤ 9223372036854775807
     ·rw [if_pos c8] at H
      have c8b0 := eq_true c8
      have c8b1 : decide ((((rdOf ByteArray.empty t300 a0_0) ++ (⟨#[32]⟩ : ByteArray)) ++ t304).size + 1 ≤ 9223372036854775807) = true := decide_eq_true c8
      try have c8b2 : (9223372036854775807 < (((rdOf ByteArray.empty t300 a0_0) ++ (⟨#[32]⟩ : ByteArray)) ++ t304).size + 1) = False := eq_false (Nat.not_lt.2 c8)
      have c8b3 : (9223372036854775807 < (rdOf ByteArray.empty t300 a0_0).size + 1 + t304.size + 1) = False := by have e_ := c8; simp only [ByteArray.size_append, show (⟨#[32]⟩ : ByteArray).size = 1 from rfl] at e_; exact eq_false (by omega)
      replace H := bA H
      obtain ⟨t305, A9, H⟩ := H
      by_cases c10 : ((((rdOf ByteArray.empty t300 a0_0) ++ (⟨#[32]⟩ : ByteArray)) ++ t304) ++ (⟨#[47]⟩ : ByteArray)).size + t305.size ≤ 9223372036854775807
      ·rw [if_pos c10] at H
       have c10b0 := eq_true c10
       have c10b1 : decide (((((rdOf ByteArray.empty t300 a0_0) ++ (⟨#[32]⟩ : ByteArray)) ++ t304) ++ (⟨#[47]⟩ : ByteArray)).size + t305.size ≤ 9223372036854775807) = true := decide_eq_true c10
       try have c10b2 : (9223372036854775807 < ((((rdOf ByteArray.empty t300 a0_0) ++ (⟨#[32]⟩ : ByteArray)) ++ t304) ++ (⟨#[47]⟩ : ByteArray)).size + t305.size) = False := eq_false (Nat.not_lt.2 c10)
       have c10b3 : (9223372036854775807 < (rdOf ByteArray.empty t300 a0_0).size + 1 + t304.size + 1 + t305.size) = False := by have e_ := c10; simp only [ByteArray.size_append, show (⟨#[32]⟩ : ByteArray).size = 1 from rfl, show (⟨#[47]⟩ : ByteArray).size = 1 from rfl] at e_; exact eq_false (by omega)
       by_cases c11 : (((((rdOf ByteArray.empty t300 a0_0) ++ (⟨#[32]⟩ : ByteArray)) ++ t304) ++ (⟨#[47]⟩ : ByteArray)) ++ t305).size + 5 ≤ 9223372036854775807
       ·rw [if_pos c11] at H
        have c11b0 := eq_true c11
        have c11b1 : decide ((((((rdOf ByteArray.empty t300 a0_0) ++ (⟨#[32]⟩ : ByteArray)) ++ t304) ++ (⟨#[47]⟩ : ByteArray)) ++ t305).size + 5 ≤ 9223372036854775807) = true := decide_eq_true c11
        try have c11b2 : (9223372036854775807 < (((((rdOf ByteArray.empty t300 a0_0) ++ (⟨#[32]⟩ : ByteArray)) ++ t304) ++ (⟨#[47]⟩ : ByteArray)) ++ t305).size + 5) = False := eq_false (Nat.not_lt.2 c11)
        have c11b3 : (9223372036854775807 < (rdOf ByteArray.empty t300 a0_0).size + 1 + t304.size + 1 + t305.size + 5) = False := by have e_ := c11; simp only [ByteArray.size_append, show (⟨#[32]⟩ : ByteArray).size = 1 from rfl, show (⟨#[47]⟩ : ByteArray).size = 1 from rfl] at e_; exact eq_false (by omega)
        replace H := bA H
        obtain ⟨t306, A12, H⟩ := H
        by_cases c13 : ((((((rdOf ByteArray.empty t300 a0_0) ++ (⟨#[32]⟩ : ByteArray)) ++ t304) ++ (⟨#[47]⟩ : ByteArray)) ++ t305) ++ (⟨#[32, 100, 117, 101, 32]⟩ : ByteArray)).size + t306.size ≤ 9223372036854775807
        ·rw [if_pos c13] at H
         have c13b0 := eq_true c13
         have c13b1 : decide (((((((rdOf ByteArray.empty t300 a0_0) ++ (⟨#[32]⟩ : ByteArray)) ++ t304) ++ (⟨#[47]⟩ : ByteArray)) ++ t305) ++ (⟨#[32, 100, 117, 101, 32]⟩ : ByteArray)).size + t306.size ≤ 9223372036854775807) = true := decide_eq_true c13
         try have c13b2 : (9223372036854775807 < ((((((rdOf ByteArray.empty t300 a0_0) ++ (⟨#[32]⟩ : ByteArray)) ++ t304) ++ (⟨#[47]⟩ : ByteArray)) ++ t305) ++ (⟨#[32, 100, 117, 101, 32]⟩ : ByteArray)).size + t306.size) = False := eq_false (Nat.not_lt.2 c13)
         have c13b3 : (9223372036854775807 < (rdOf ByteArray.empty t300 a0_0).size + 1 + t304.size + 1 + t305.size + 5 + t306.size) = False := by have e_ := c13; simp only [ByteArray.size_append, show (⟨#[32]⟩ : ByteArray).size = 1 from rfl, show (⟨#[47]⟩ : ByteArray).size = 1 from rfl, show (⟨#[32, 100, 117, 101, 32]⟩ : ByteArray).size = 5 from rfl] at e_; exact eq_false (by omega)
         by_cases c14 : (((((((rdOf ByteArray.empty t300 a0_0) ++ (⟨#[32]⟩ : ByteArray)) ++ t304) ++ (⟨#[47]⟩ : ByteArray)) ++ t305) ++ (⟨#[32, 100, 117, 101, 32]⟩ : ByteArray)) ++ t306).size + 4 ≤ 9223372036854775807
         ·rw [if_pos c14] at H
          have c14b0 := eq_true c14
          have c14b1 : decide ((((((((rdOf ByteArray.empty t300 a0_0) ++ (⟨#[32]⟩ : ByteArray)) ++ t304) ++ (⟨#[47]⟩ : ByteArray)) ++ t305) ++ (⟨#[32, 100, 117, 101, 32]⟩ : ByteArray)) ++ t306).size + 4 ≤ 9223372036854775807) = true := decide_eq_true c14
          try have c14b2 : (9223372036854775807 < (((((((rdOf ByteArray.empty t300 a0_0) ++ (⟨#[32]⟩ : ByteArray)) ++ t304) ++ (⟨#[47]⟩ : ByteArray)) ++ t305) ++ (⟨#[32, 100, 117, 101, 32]⟩ : ByteArray)) ++ t306).size + 4) = False := eq_false (Nat.not_lt.2 c14)
          have c14b3 : (9223372036854775807 < (rdOf ByteArray.empty t300 a0_0).size + 1 + t304.size + 1 + t305.size + 5 + t306.size + 4) = False := by have e_ := c14; simp only [ByteArray.size_append, show (⟨#[32]⟩ : ByteArray).size = 1 from rfl, show (⟨#[47]⟩ : ByteArray).size = 1 from rfl, show (⟨#[32, 100, 117, 101, 32]⟩ : ByteArray).size = 5 from rfl] at e_; exact eq_false (by omega)
          replace H := bA H
          obtain ⟨t307, A15, H⟩ := H
          by_cases c16 : ((((((((rdOf ByteArray.empty t300 a0_0) ++ (⟨#[32]⟩ : ByteArray)) ++ t304) ++ (⟨#[47]⟩ : ByteArray)) ++ t305) ++ (⟨#[32, 100, 117, 101, 32]⟩ : ByteArray)) ++ t306) ++ (⟨#[32, 97, 116, 32]⟩ : ByteArray)).size + t307.size ≤ 9223372036854775807
          ·rw [if_pos c16] at H
           have c16b0 := eq_true c16
           have c16b1 : decide (((((((((rdOf ByteArray.empty t300 a0_0) ++ (⟨#[32]⟩ : ByteArray)) ++ t304) ++ (⟨#[47]⟩ : ByteArray)) ++ t305) ++ (⟨#[32, 100, 117, 101, 32]⟩ : ByteArray)) ++ t306) ++ (⟨#[32, 97, 116, 32]⟩ : ByteArray)).size + t307.size ≤ 9223372036854775807) = true := decide_eq_true c16
           try have c16b2 : (9223372036854775807 < ((((((((rdOf ByteArray.empty t300 a0_0) ++ (⟨#[32]⟩ : ByteArray)) ++ t304) ++ (⟨#[47]⟩ : ByteArray)) ++ t305) ++ (⟨#[32, 100, 117, 101, 32]⟩ : ByteArray)) ++ t306) ++ (⟨#[32, 97, 116, 32]⟩ : ByteArray)).size + t307.size) = False := eq_false (Nat.not_lt.2 c16)
           have c16b3 : (9223372036854775807 < (rdOf ByteArray.empty t300 a0_0).size + 1 + t304.size + 1 + t305.size + 5 + t306.size + 4 + t307.size) = False := by have e_ := c16; simp only [ByteArray.size_append, show (⟨#[32]⟩ : ByteArray).size = 1 from rfl, show (⟨#[47]⟩ : ByteArray).size = 1 from rfl, show (⟨#[32, 100, 117, 101, 32]⟩ : ByteArray).size = 5 from rfl, show (⟨#[32, 97, 116, 32]⟩ : ByteArray).size = 4 from rfl] at e_; exact eq_false (by omega)
           obtain rfl := Option.some.inj H
           go_enter Tryz.func27, Tryz.ntmps27
           try go_wp2_with (first | ((with_reducible refine gD 1 ?_); refine bxE 1 25 #[.int .i64 a0_0, .int .i64 a0_1, .int .i64 a0_2, .int .i64 a0_3, .int .i64 a0_4] fun gb299 w17 hg hbox hb => ?_; have BK299 := Aside0.mk hbox; have GE299 := gB HB hg; replace HB := uB HB hb; clear hb hbox hg))
           replace BK299 := dK BK299
           replace HB := Aside0.mk (below_drew1 HB.out)
           refine sA (n := 26) (S := fun w' => w'.cell? ⟨gb299, 0, none⟩ = some (.int .i64 a0_0) ∧ w'.cell? ⟨gb299, 1, none⟩ = some (.int .i64 a0_1) ∧ w'.cell? ⟨gb299, 2, none⟩ = some (.int .i64 a0_2) ∧ w'.cell? ⟨gb299, 3, none⟩ = some (.int .i64 a0_3) ∧ w'.cell? ⟨gb299, 4, none⟩ = some (.int .i64 a0_4)) (ds := []) spec_l21Text.tab1 spec_l21Text.bits1 #[false, false, false, false, false, false, false, false, false, false, false, false, false, false, false, false, false, false, false, false, false, false, false, false, false, false] ⟨cb BK299 0, cb BK299 1, cb BK299 2, cb BK299 3, cb BK299 4⟩ fun hHeld HT_ HW_ => ?_
           generalize w17.drew = w18 at BK299 HB hHeld ⊢
           refine pA 1 4 HT_ ?_
           refine pA 6 9 HT_ ?_
           refine pA 11 14 HT_ ?_
           refine pA 16 19 HT_ ?_
           refine pA 21 24 HT_ ?_
           refine tA 2 5 HT_ HW_ hHeld ?_
           refine tA 7 10 HT_ HW_ hHeld ?_
           refine tA 12 15 HT_ HW_ hHeld ?_
           refine tA 17 20 HT_ HW_ hHeld ?_
           refine tA 22 25 HT_ HW_ hHeld ?_
           refine oA 0 (some 3) HT_ fun K hK => ?_
           refine goes_ Tryz.func47 (by kernel_rfl) rfl #[] (by rfl) rfl rfl argsB ?_
           with_reducible refine (spec_l21Words.calls  t300 _ A2.out).mono ?_
           rintro e w19 ⟨v301, rfl, ho0, hb⟩
           refine ⟨_, rfl, ?_⟩
           have HO302 := Aside0.mk (Kd.R_lower ho0 (below_size (bW HB)))
           replace BK299 := uK BK299 hb
           replace HB := uB HB hb
           (try clear hb)
           (try clear ho0)
           obtain ⟨Ao20, co20, eo20⟩ := Kd.R_slice HO302.out
           (first | subst eo20 | (injection eo20 with f1_ f2_ f3_; have f4_ := f1_.symm; have f5_ := f3_.symm; clear f1_ f2_ f3_; subst f4_; subst f5_))
           have p303 : 0 ≤ (a0_0 : Int) := of_decide_eq_true asmB
           have q303 : a0_0 < (t300.length : Int) := of_decide_eq_true asmB
           obtain ⟨ad303, e303, hx303_0⟩ := Kd.at_string (Kd.R_reads' HO302.out).2.2 a0_0 p303 q303
           cases e303
           replace p303 := eq_true p303
           replace q303 := eq_true q303
           refine hK.out _ _ ⟨cb BK299 0, cb BK299 1, cb BK299 2, cb BK299 3, cb BK299 4⟩ (fun hHeld => ?_)
           clear hK K
           refine more_ (S' := fun w' => w'.cell? ⟨gb299, 0, none⟩ = some (.int .i64 a0_0) ∧ w'.cell? ⟨gb299, 1, none⟩ = some (.int .i64 a0_1) ∧ w'.cell? ⟨gb299, 2, none⟩ = some (.int .i64 a0_2) ∧ w'.cell? ⟨gb299, 3, none⟩ = some (.int .i64 a0_3) ∧ w'.cell? ⟨gb299, 4, none⟩ = some (.int .i64 a0_4) ∧ w'.cell? (ad303.add (a0_0).toNat) = some (.string (rdOf ByteArray.empty t300 a0_0))) (fun w' h_ => ⟨h_.1, h_.2.1, h_.2.2.1, h_.2.2.2.1, h_.2.2.2.2.1⟩) ⟨hHeld.1, hHeld.2.1, hHeld.2.2.1, hHeld.2.2.2.1, hHeld.2.2.2.2, hx303_0⟩ (fun hHeld => ?_)
           refine nA ?_ (some 3)
           refine pA 3 6 HT_ ?_
           refine tA 4 7 HT_ HW_ hHeld ?_
           refine pA 5 8 HT_ ?_
           refine oA 8 (some 11) HT_ fun K hK => ?_
           refine goes_ Tryz.func48 (by kernel_rfl) rfl #[.int .i64 a0_2] (by rfl) rfl rfl argsB ?_
           with_reducible refine (spec_l1Num.calls k a0_2 t304 _ A6.out).mono ?_
           rintro e w21 ⟨rfl, hb⟩
           have HS5_ := (hb.cell (World.block_lt_of_cell? _ _ (hHeld.2.2.2.2.2))).trans (hHeld.2.2.2.2.2)
           refine ⟨_, rfl, ?_⟩
           replace HO302 := uR HO302 hb
           replace BK299 := uK BK299 hb
           replace HB := uB HB hb
           (try clear hb)
           refine hK.out _ _ ⟨cb BK299 0, cb BK299 1, cb BK299 2, cb BK299 3, cb BK299 4, HS5_⟩ (fun hHeld => ?_)
           clear hK K
           refine nA ?_ (some 11)
           refine pA 9 12 HT_ ?_
           refine pA 10 13 HT_ ?_
           refine oA 13 (some 16) HT_ fun K hK => ?_
           refine goes_ Tryz.func48 (by kernel_rfl) rfl #[.int .i64 a0_1] (by rfl) rfl rfl argsB ?_
           with_reducible refine (spec_l1Num.calls k a0_1 t305 _ A9.out).mono ?_
           rintro e w22 ⟨rfl, hb⟩
           have HS5_ := (hb.cell (World.block_lt_of_cell? _ _ (hHeld.2.2.2.2.2))).trans (hHeld.2.2.2.2.2)
           refine ⟨_, rfl, ?_⟩
           replace HO302 := uR HO302 hb
           replace BK299 := uK BK299 hb
           replace HB := uB HB hb
           (try clear hb)
           refine hK.out _ _ ⟨cb BK299 0, cb BK299 1, cb BK299 2, cb BK299 3, cb BK299 4, HS5_⟩ (fun hHeld => ?_)
           clear hK K
           refine nA ?_ (some 16)
           refine pA 14 17 HT_ ?_
           refine pA 15 18 HT_ ?_
           refine oA 18 (some 21) HT_ fun K hK => ?_
           refine goes_ Tryz.func48 (by kernel_rfl) rfl #[.int .i64 a0_3] (by rfl) rfl rfl argsB ?_
           with_reducible refine (spec_l1Num.calls k a0_3 t306 _ A12.out).mono ?_
           rintro e w23 ⟨rfl, hb⟩
           have HS5_ := (hb.cell (World.block_lt_of_cell? _ _ (hHeld.2.2.2.2.2))).trans (hHeld.2.2.2.2.2)
           refine ⟨_, rfl, ?_⟩
           replace HO302 := uR HO302 hb
           replace BK299 := uK BK299 hb
           replace HB := uB HB hb
           (try clear hb)
           refine hK.out _ _ ⟨cb BK299 0, cb BK299 1, cb BK299 2, cb BK299 3, cb BK299 4, HS5_⟩ (fun hHeld => ?_)
           clear hK K
           refine nA ?_ (some 21)
           refine pA 19 22 HT_ ?_
           refine pA 20 23 HT_ ?_
           refine oA 23 (some 26) HT_ fun K hK => ?_
           refine goes_ Tryz.func48 (by kernel_rfl) rfl #[.int .i64 a0_4] (by rfl) rfl rfl argsB ?_
           with_reducible refine (spec_l1Num.calls k a0_4 t307 _ A15.out).mono ?_
           rintro e w24 ⟨rfl, hb⟩
           have HS5_ := (hb.cell (World.block_lt_of_cell? _ _ (hHeld.2.2.2.2.2))).trans (hHeld.2.2.2.2.2)
           refine ⟨_, rfl, ?_⟩
           replace HO302 := uR HO302 hb
           replace BK299 := uK BK299 hb
           replace HB := uB HB hb
           (try clear hb)
           refine hK.out _ _ ⟨cb BK299 0, cb BK299 1, cb BK299 2, cb BK299 3, cb BK299 4, HS5_⟩ (fun hHeld => ?_)
           clear hK K
           refine nA ?_ (some 26)
           refine pA 24 27 HT_ ?_
           refine pA 25 2 HT_ ?_
           refine done_ (done_of HT_.out (by kernel_rfl)) ?_
           try go_wp2
           go_ret
           exact ⟨eB, (bW HB)⟩
          ·rw [if_neg c16] at H
           exact absurd H (by simp)
         ·rw [if_neg c14] at H
          exact absurd H (by simp)
        ·rw [if_neg c13] at H
         exact absurd H (by simp)
       ·rw [if_neg c11] at H
        exact absurd H (by simp)
      ·rw [if_neg c10] at H
       exact absurd H (by simp)
     ·rw [if_neg c8] at H
      exact absurd H (by simp)
    ·rw [if_neg c7] at H
     exact absurd H (by simp)
   ·rw [if_neg c5] at H
    exact absurd H (by simp)
  ·rw [if_neg c4] at H
   exact absurd H (by simp)
 ·rw [if_neg c3] at H
  exact absurd H (by simp)

/-! ### spec_TripText: function 8 -/
def spec_TripText.f (k : Nat) (a0_0 a0_1 a0_2 a0_3 a0_4 : Int) : Option (ByteArray × Bool) := (spec_l21Good.f k a0_0 a0_1 a0_2 a0_3 a0_4).bind fun t309 => (if t309 = true then ((spec_l21Text.f k a0_0 a0_1 a0_2 a0_3 a0_4).bind fun t310 => (some (t310, true))) else (some ((⟨#[]⟩ : ByteArray), false)))
theorem spec_TripText.mono : ∀ a0 a1 a2 a3 a4 k, LeO (spec_TripText.f k a0 a1 a2 a3 a4) (spec_TripText.f (k + 1) a0 a1 a2 a3 a4) := by
 intro a0 a1 a2 a3 a4 k
 unfold spec_TripText.f
 repeat' with_reducible first | apply spec_l21Good.mono | apply spec_l21Text.mono | exact LeO.refl _ | exact LeO.none _ | refine LeO.ite ?_ ?_ | refine LeO.bind ?_ (fun _ => ?_)
set_option maxHeartbeats 8000000 in
set_option maxRecDepth 100000 in
theorem spec_TripText.calls (k : Nat) (a0_0 a0_1 a0_2 a0_3 a0_4 : Int) (r1 : ByteArray) (r2 : Bool) (w : World) (h : spec_TripText.f k a0_0 a0_1 a0_2 a0_3 a0_4 = some (r1, r2)) :
  Calls Tryz.prog 8 #[.agg #[.int .i64 a0_0, .int .i64 a0_1, .int .i64 a0_2, .int .i64 a0_3, .int .i64 a0_4]] w fun e w' => e = .returned (.tuple #[.string r1, .bool r2]) ∧ Below w.heap.size w w' := by
 have hu25 := Tryz.underlying25
 have HB := Aside0.mk (Below.refl w.heap.size w)
 have H := h
 clear h
 unfold spec_TripText.f at H
 replace H := bA H
 obtain ⟨t309, A2, H⟩ := H
 rcases Bool.eq_false_or_eq_true t309 with rfl | rfl
 ·replace H := iT rfl H
  replace H := bA H
  obtain ⟨t310, A4, H⟩ := H
  simp only [Option.some.injEq, Prod.mk.injEq] at H
  obtain ⟨rfl, rfl⟩ := H
  go_enter Tryz.func8, Tryz.ntmps8
  go_wp2_with (first | ((with_reducible refine gD 1 ?_); refine bxE 1 25 #[.int .i64 a0_0, .int .i64 a0_1, .int .i64 a0_2, .int .i64 a0_3, .int .i64 a0_4] fun gb308 w5 hg hbox hb => ?_; have BK308 := Aside0.mk hbox; have GE308 := gB HB hg; replace HB := uB HB hb; clear hb hbox hg; have ⟨hcz6_0, hcz6_1, hcz6_2, hcz6_3, hcz6_4, hfz6_0⟩ := cz5 BK308) | ((with_reducible refine gC 26 ?_); refine lA (some 5) Tryz.func26 (spec_l21Good.calls k a0_0 a0_1 a0_2 a0_3 a0_4 true _ A2.out) ?_; intro w7 hb; replace BK308 := uK BK308 hb; replace HB := uB HB hb; (try clear hb); have ⟨hcz8_0, hcz8_1, hcz8_2, hcz8_3, hcz8_4, hfz8_0⟩ := cz5 BK308) | ((with_reducible refine gC 27 ?_); refine lA (some 8) Tryz.func27 (spec_l21Text.calls k a0_0 a0_1 a0_2 a0_3 a0_4 t310 _ A4.out) ?_; intro w9 hb; replace BK308 := uK BK308 hb; replace HB := uB HB hb; (try clear hb)))
  go_ret2
  exact ⟨eB, (bW HB)⟩
 ·replace H := iF (by decide) H
  simp only [Option.some.injEq, Prod.mk.injEq] at H
  obtain ⟨rfl, rfl⟩ := H
  go_enter Tryz.func8, Tryz.ntmps8
  go_wp2_with (first | ((with_reducible refine gD 1 ?_); refine bxE 1 25 #[.int .i64 a0_0, .int .i64 a0_1, .int .i64 a0_2, .int .i64 a0_3, .int .i64 a0_4] fun gb308 w10 hg hbox hb => ?_; have BK308 := Aside0.mk hbox; have GE308 := gB HB hg; replace HB := uB HB hb; clear hb hbox hg; have ⟨hcz11_0, hcz11_1, hcz11_2, hcz11_3, hcz11_4, hfz11_0⟩ := cz5 BK308) | ((with_reducible refine gC 26 ?_); refine lA (some 5) Tryz.func26 (spec_l21Good.calls k a0_0 a0_1 a0_2 a0_3 a0_4 false _ A2.out) ?_; intro w12 hb; replace BK308 := uK BK308 hb; replace HB := uB HB hb; (try clear hb)))
  go_ret2
  exact ⟨eB, (bW HB)⟩

end Go.Proofs.YtmeaacbnjpgepaaGreatDoor.QFnTripLists
