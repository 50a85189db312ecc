/- Contracts of Go functions that FnTrips reaches: the call computes what the plain function says. No condition. -/
import Derived.Test.YtmeaacbnjpgepaaQFnTripsx0
import Derived.Test.YtmeaacbnjpgepaaQFnTripsx2
import Derived.Test.YtmeaacbnjpgepaaQFnTripsx3
import Derived.Test.YtmeaacbnjpgepaaQFnTripsx6
import Derived.Test.YtmeaacbnjpgepaaQFnTripsx7
namespace Go.Proofs.Ytmeaacbnjpgepaa.QFnTrips
open Go.RowKit Go.Proofs.YtmeaacbnjpgepaaW.PrintWords Go.Proofs.YtmeaacbnjpgepaaW.PrintLast Go.Proofs.YtmeaacbnjpgepaaW.PrintMore
attribute [local go_sem] max2_int min2_int max_two min_two max_three min_three max_four min_four   -- for this text's walks alone
set_option linter.unusedVariables false
set_option linter.unusedSimpArgs false

-- NOT PRINTED: function 69 (impl_TripStep_69)

-- NOT PRINTED: function 58 (impl_TripStep_58)

/-! ### impl_xBadStep: function 90 -/
-- reaches: impl.isTripStep
theorem getD_drop' {α : Type} (xs : List α) (i : Nat) (d : α) (h : i < xs.length) : xs.drop i = xs.getD i d :: xs.drop (i + 1) := by
 rw [List.drop_eq_getElem_cons h]
 simp [List.getD, List.getElem?_eq_getElem h]
theorem getD_mem' {α : Type} (xs : List α) (i : Nat) (d : α) (h : i < xs.length) : xs.getD i d ∈ xs := by
 rw [List.getD_eq_getElem?_getD, List.getElem?_eq_getElem h]
 exact List.getElem_mem h
def idxP49 (p : S49 → Bool) : List (S49) → Int → Int
 | [], _ => -1
 | x :: l, i => if p x = true then i else idxP49 p l (i + 1)
theorem idxP49_any (p : S49 → Bool) : ∀ (l : List (S49)) (i : Int), 0 ≤ i → decide (0 ≤ idxP49 p l i) = l.any p := by
 intro l
 induction l with
 | nil => intro i h; rfl
 | cons x l ih =>
  intro i h
  rw [idxP49, List.any_cons]
  by_cases c : p x = true
  ·rw [if_pos c, c, Bool.true_or]; exact decide_eq_true h
  ·rw [if_neg c, Bool.eq_false_iff.mpr c, Bool.false_or]; exact ih (i + 1) (by omega)

set_option maxHeartbeats 4000000 in
set_option maxRecDepth 100000 in
theorem IndexFunc_badStep (p : S49 → Bool) (A0 : Option Addr) (c0 : Nat) (l0 : List (S49)) (w : World) (hr0 : Kd.C k49 w A0 l0.length l0) (hc0 : l0.length ≤ c0)
  (hp : ∀ (x : S49) (W : World), x ∈ l0 → Below w.heap.size w W → Calls Try.prog 59 #[.agg #[.int .i64 x.f0, .int .i64 x.f1]] W fun e W' => e = .returned (.bool (p x)) ∧ Below W.heap.size W W') :
  Calls Try.prog 69 #[.slice A0 l0.length c0, .func (.func 59) #[] #[]] w fun e w' => e = .returned (.int .i64 (idxP49 p l0 0)) ∧ Below w.heap.size w w' := by
 have hu := Try.underlying49
 have hm := hr0.2.1
 go_enter Try.func69, Try.ntmps69
 go_wp2
 go_loopw [8] (fun v wr => ∃ i : Nat, i ≤ l0.length ∧ v = .int .i64 i ∧ idxP49 p l0 0 = idxP49 p (l0.drop i) i ∧ Below w.heap.size w wr) (fun v _ => l0.length - (intOf v).toNat)
 case atStart => exact ⟨0, by omega, rfl, by simp, Below.refl _ _⟩
 case round =>
  obtain ⟨i, hi, rfl, he, hb⟩ := hrel
  by_cases hlt : i < l0.length
  ·obtain ⟨ad, rfl, h0, h1⟩ := at_T49 (Kd.C_below hr0 hb) (i : Int) (by omega) (by omega)
   have hx : rd_T49 l0 (i : Int) = l0.getD i z49 := by unfold rd_T49; rw [Int.toNat_natCast]
   have hmem := getD_mem' l0 i z49 hlt
   rw [hx] at h0 h1
   rw [getD_drop' l0 i z49 hlt] at he
   generalize l0.getD i z49 = x at h0 h1 he hx hmem
   clear hx
   rw [Int.toNat_natCast] at h0 h1
   cases hpx : p x with
   | true =>
    have hq := hp x wr hmem hb
    rw [hpx] at hq
    have he' := Aside0.mk he
    have hb' := Aside0.mk hb
    have hpx' := Aside0.mk hpx
    clear he hb hp hpx hmem
    go_wp2_with (go_at_call 59; refine hq.mono ?_; rintro e w1 ⟨rfl, hb1⟩)
    go_ret
    refine ⟨?_, hb'.out.trans (hb1.mono hb'.out.size)⟩
    rw [he'.out, idxP49, if_pos hpx'.out]
    rfl
   | false =>
    have hq := hp x wr hmem hb
    rw [hpx] at hq
    have he' := Aside0.mk he
    have hb' := Aside0.mk hb
    have hpx' := Aside0.mk hpx
    have hp' := Aside0.mk hp
    clear he hb hp hpx hmem
    go_wp2_with (go_at_call 59; refine hq.mono ?_; rintro e w1 ⟨rfl, hb1⟩)
    go_roundw
    case rel => exact ⟨i + 1, by omega, by go_num, by rw [he'.out, idxP49, hpx'.out]; rfl, hb'.out.trans (hb1.mono hb'.out.size)⟩
    case measure => simp [intOf]; omega
  ·have hd : l0.drop i = [] := List.drop_eq_nil_of_le (by omega)
   rw [hd] at he
   have he' := Aside0.mk he
   have hb' := Aside0.mk hb
   clear he hb hp hd
   go_wp2
   go_ret
   exact ⟨by rw [he'.out, idxP49]; rfl, hb'.out⟩

set_option maxHeartbeats 4000000 in
theorem ContainsFunc_badStep (p : S49 → Bool) (A0 : Option Addr) (c0 : Nat) (l0 : List (S49)) (w : World) (hr0 : Kd.C k49 w A0 l0.length l0) (hc0 : l0.length ≤ c0)
  (hp : ∀ (x : S49) (W : World), x ∈ l0 → Below w.heap.size w W → Calls Try.prog 59 #[.agg #[.int .i64 x.f0, .int .i64 x.f1]] W fun e W' => e = .returned (.bool (p x)) ∧ Below W.heap.size W W') :
  Calls Try.prog 58 #[.slice A0 l0.length c0, .func (.func 59) #[] #[]] w fun e w' => e = .returned (.bool (l0.any p)) ∧ Below w.heap.size w w' := by
 have hcon := IndexFunc_badStep p A0 c0 l0 w hr0 hc0 hp
 have ha := idxP49_any p l0 0 (by omega)
 generalize idxP49 p l0 0 = q at hcon ha
 generalize l0.any p = b at ha ⊢
 clear hp
 go_enter Try.func58, Try.ntmps58
 go_wp2_with (go_at_call 69; refine hcon.mono ?_; rintro e w1 ⟨rfl, hb1⟩)
 go_ret
 exact ⟨rfl, hb1⟩

theorem isTripStep_tot (a b : Int) : ∃ r, impl_isTripStep.f a b = some r := by
 unfold impl_isTripStep.f impl_within.f
 repeat' split
 all_goals first | exact ⟨_, rfl⟩ | (simp only [Option.bind_some]; repeat' split) <;> exact ⟨_, rfl⟩
theorem badStepClosure (x : S49) (r : Bool) (W : World) (h : impl_isTripStep.f x.f0 x.f1 = some r) :
  Calls Try.prog 59 #[.agg #[.int .i64 x.f0, .int .i64 x.f1]] W fun e W' => e = .returned (.bool (!r)) ∧ Below W.heap.size W W' := by
 have hu := Try.underlying49
 have hcon := fun V => impl_isTripStep.calls x.f0 x.f1 r V h
 clear h
 go_enter Try.func59, Try.ntmps59
 go_wp2_with (go_at_call 56; refine (hcon _).mono ?_; rintro e w1 ⟨rfl, hb1⟩)
 go_ret
 exact ⟨by simp, ((Below.refl _ W).alloc (Nat.le_refl _) _).trans (hb1.mono (by simp))⟩
def impl_xBadStep.f (l0 : List (S49)) : Option Bool := some (l0.any fun x => impl_isTripStep.f x.f0 x.f1 == some false)
theorem impl_xBadStep.calls (A0 : Option Addr) (c0 : Nat) (l0 : List (S49)) (r : Bool) (w : World) (hr0 : Kd.C k49 w A0 l0.length l0) (hc0 : l0.length ≤ c0) (h : impl_xBadStep.f l0 = some r) :
  Calls Try.prog 58 #[.slice A0 l0.length c0, .func (.func 59) #[] #[]] w fun e w' => e = .returned (.bool r) ∧ Below w.heap.size w w' := by
 obtain rfl := Option.some.inj h
 refine ContainsFunc_badStep (fun x => impl_isTripStep.f x.f0 x.f1 == some false) A0 c0 l0 w hr0 hc0 (fun x W _ hB => ?_)
 obtain ⟨r, hr⟩ := isTripStep_tot x.f0 x.f1
 have := badStepClosure x r W hr
 simp only [hr]
 cases r <;> exact this

/-! ### impl_RunTrip: function 36 -/
mutual
def impl_RunTrip.j0 : Nat → List (S49) → Bool → Int → Int → Int → Int → Int → Option (Int × Int × Int × Int × Int × Int × Bool)
 | 0, _, _, _, _, _, _, _ => none
 | k + 1, x1, x23, x218000, x218001, x218002, x218003, x218004 => if x23 = true then (some (0, 0, 0, 0, 0, 0, false)) else (impl_RunTrip.l0 k 0 x1 (x1.length : Int) 0 x218000 x218001 x218002 x218003 x218004)
def impl_RunTrip.l0 : Nat → Int → List (S49) → Int → Int → Int → Int → Int → Int → Int → Option (Int × Int × Int × Int × Int × Int × Bool)
 | 0, _, _, _, _, _, _, _, _, _ => none
 | k + 1, x7, x25, x26, x27, x218000, x218001, x218002, x218003, x218004 => if x27 < x26 then (if 0 ≤ x27 then (if x27 < (x25.length : Int) then ((impl_Trip_step.f k x218000 x218001 x218002 x218003 x218004 ((rd_T49 x25 x27).f0) ((rd_T49 x25 x27).f1)).bind fun bt223 => (if bt223.2.2.2.2.2 = true then (impl_RunTrip.l0 k (wrap64 (x7 + 1)) x25 x26 (wrap64 (x27 + 1)) bt223.1 bt223.2.1 bt223.2.2.1 bt223.2.2.2.1 bt223.2.2.2.2.1) else (impl_RunTrip.l0 k x7 x25 x26 (wrap64 (x27 + 1)) x218000 x218001 x218002 x218003 x218004))) else (none)) else (none)) else (some (x218000, x218001, x218002, x218003, x218004, x7, true))
end
def impl_RunTrip.f (k : Nat) (a0_0 a0_1 a0_2 a0_3 a0_4 : Int) (l1 : List (S49)) : Option (Int × Int × Int × Int × Int × Int × Bool) := (impl_IsTrip.f k a0_0 a0_1 a0_2 a0_3 a0_4).bind fun t219 => (if t219 = true then (if (l1.length : Int) > 20 then (impl_RunTrip.j0 k l1 true a0_0 a0_1 a0_2 a0_3 a0_4) else ((impl_xBadStep.f l1).bind fun t220 => (impl_RunTrip.j0 k l1 t220 a0_0 a0_1 a0_2 a0_3 a0_4))) else (impl_RunTrip.j0 k l1 true a0_0 a0_1 a0_2 a0_3 a0_4))
theorem impl_RunTrip.mono_l : ∀ k, (∀ y0 y1 y2 y3 y4 y5 y6, LeO (impl_RunTrip.j0 k y0 y1 y2 y3 y4 y5 y6) (impl_RunTrip.j0 (k + 1) y0 y1 y2 y3 y4 y5 y6)) ∧ (∀ y0 y1 y2 y3 y4 y5 y6 y7 y8, LeO (impl_RunTrip.l0 k y0 y1 y2 y3 y4 y5 y6 y7 y8) (impl_RunTrip.l0 (k + 1) y0 y1 y2 y3 y4 y5 y6 y7 y8))
 | 0 => ⟨fun _ _ _ _ _ _ _ r h => by simp [impl_RunTrip.j0] at h, fun _ _ _ _ _ _ _ _ _ r h => by simp [impl_RunTrip.l0] at h⟩
 | k + 1 => by
  obtain ⟨ih0, ih1⟩ := impl_RunTrip.mono_l k
  refine ⟨?_, ?_⟩
  ·intro y0 y1 y2 y3 y4 y5 y6
   unfold impl_RunTrip.j0
   repeat' with_reducible first | apply ih0 | apply ih1 | apply impl_IsTrip.mono | apply impl_Trip_step.mono | exact LeO.refl _ | exact LeO.none _ | refine LeO.ite ?_ ?_ | refine LeO.bind ?_ (fun _ => ?_)
  ·intro y0 y1 y2 y3 y4 y5 y6 y7 y8
   unfold impl_RunTrip.l0
   repeat' with_reducible first | apply ih0 | apply ih1 | apply impl_IsTrip.mono | apply impl_Trip_step.mono | exact LeO.refl _ | exact LeO.none _ | refine LeO.ite ?_ ?_ | refine LeO.bind ?_ (fun _ => ?_)
theorem impl_RunTrip.mono : ∀ a0 a1 a2 a3 a4 a5 k, LeO (impl_RunTrip.f k a0 a1 a2 a3 a4 a5) (impl_RunTrip.f (k + 1) a0 a1 a2 a3 a4 a5) := by
 intro a0 a1 a2 a3 a4 a5 k
 obtain ⟨ih0, ih1⟩ := impl_RunTrip.mono_l k
 unfold impl_RunTrip.f
 repeat' with_reducible first | apply ih0 | apply ih1 | apply impl_IsTrip.mono | apply impl_Trip_step.mono | exact LeO.refl _ | exact LeO.none _ | refine LeO.ite ?_ ?_ | refine LeO.bind ?_ (fun _ => ?_)
set_option maxHeartbeats 8000000 in
set_option maxRecDepth 100000 in
theorem impl_RunTrip.calls (k : Nat) (a0_0 a0_1 a0_2 a0_3 a0_4 : Int) (A1 : Option Addr) (c1 : Nat) (l1 : List (S49)) (r1 r2 r3 r4 r5 r6 : Int) (r7 : Bool) (w : World) (hr1 : Kd.C k49 w A1 l1.length l1) (hc1 : l1.length ≤ c1) (h : impl_RunTrip.f k a0_0 a0_1 a0_2 a0_3 a0_4 l1 = some (r1, r2, r3, r4, r5, r6, r7)) :
  Calls Try.prog 36 #[.agg #[.int .i64 a0_0, .int .i64 a0_1, .int .i64 a0_2, .int .i64 a0_3, .int .i64 a0_4], .slice A1 l1.length c1] w fun e w' => e = .returned (.tuple #[.agg #[.int .i64 r1, .int .i64 r2, .int .i64 r3, .int .i64 r4, .int .i64 r5], .int .i64 r6, .bool r7]) ∧ Below w.heap.size w w' := by
 have hu25 := Try.underlying25
 have hu49 := Try.underlying49
 have HR1 := Aside0.mk hr1
 have HC1 := Aside0.mk hc1
 clear hr1 hc1
 have HB := Aside0.mk (Below.refl w.heap.size w)
 have H := h
 clear h
 unfold impl_RunTrip.f at H
 have HC3 := Aside0.mk H
 clear H
 go_enter Try.func36, Try.ntmps36
 go_upto_region 1 with (first | ((with_reducible refine gD 2 ?_); (try (refine gate_guard (by rfl) ?_; dsimp only)); refine bxE 2 25 #[.int .i64 a0_0, .int .i64 a0_1, .int .i64 a0_2, .int .i64 a0_3, .int .i64 a0_4] fun gb217 w4 hg hbox hb => ?_; have BK217 := Aside0.mk hbox; have GE217 := gB HB hg; replace HB := uB HB hb; clear hb hbox hg) | ((with_reducible refine gD 4 ?_); (try (refine gate_guard (by rfl) ?_; dsimp only)); refine bxE 4 25 #[.int .i64 0, .int .i64 0, .int .i64 0, .int .i64 0, .int .i64 0] fun gb218 w5 hg hbox hb => ?_; have BK218 := Aside0.mk hbox; have GE218 := gB HB hg; have ⟨NB217_218, NB218_217⟩ := nB BK217 hg; replace BK217 := uK BK217 hb; replace HB := uB HB hb; clear hb hbox hg))
 (try simp only [Act.put, List.setIfInBounds_toArray, List.set_cons_zero, List.set_cons_succ])
 go_cut [23] (fun v23 wc => ∃ (kq : Nat) (x23_2 : Bool), v23 = .bool x23_2 ∧ Aside0 (impl_RunTrip.j0 kq l1 x23_2 a0_0 a0_1 a0_2 a0_3 a0_4 = some (r1, r2, r3, r4, r5, r6, r7)) ∧ Aside0 (kq ≤ k) ∧ Aside0 (wc.heap[gb217]? = some (.cells #[.int .i64 a0_0, .int .i64 a0_1, .int .i64 a0_2, .int .i64 a0_3, .int .i64 a0_4] 25 (0, 0))) ∧ Aside0 (wc.heap[gb218]? = some (.cells #[.int .i64 0, .int .i64 0, .int .i64 0, .int .i64 0, .int .i64 0] 25 (0, 0))) ∧ Aside0 (Below w.heap.size w wc))
 case first =>
  have H := HC3.out
  clear HC3
  replace H := bA H
  obtain ⟨t219, A6, H⟩ := H
  rcases Bool.eq_false_or_eq_true t219 with rfl | rfl
  ·replace H := iT rfl H
   replace H := ifD H
   rcases H with ⟨H, c8, c8b0⟩ | ⟨H, c8, c8b0⟩
   ·have c8b1 : decide (20 < l1.length) = true := decide_eq_true (by omega)
    clear c8
    (first | rw [c8b0] | rw [c8b1] | (simp only [i64_w, i32_w]; rw [c8b0]) | skip)
    have H' := Aside0.mk H
    clear H
    have hnb9 := NB217_218.out
    have hnc9 := NB218_217.out
    have ⟨hcz10_0, hcz10_1, hcz10_2, hcz10_3, hcz10_4, hfz10_0⟩ := cz5 BK217
    go_wp2_with (first | ((with_reducible refine gC 13 ?_); refine lA (some 13) Try.func13 (impl_IsTrip.calls k a0_0 a0_1 a0_2 a0_3 a0_4 true _ A6.out) ?_; intro w11 hb; replace BK217 := uK BK217 hb; replace BK218 := uK BK218 hb; replace HB := uB HB hb; (try clear hb)))
    go_meet
    case rel => exact ⟨_, (true), rB, H', leB, (aK BK217), (aK BK218), (aB HB)⟩
   ·have c8b1 : decide (20 < l1.length) = false := decide_eq_false (by omega)
    clear c8
    (first | rw [c8b0] | rw [c8b1] | (simp only [i64_w, i32_w]; rw [c8b0]) | skip)
    replace H := bA H
    obtain ⟨t220, A12, H⟩ := H
    have H' := Aside0.mk H
    clear H
    have hnb13 := NB217_218.out
    have hnc13 := NB218_217.out
    have ⟨hcz14_0, hcz14_1, hcz14_2, hcz14_3, hcz14_4, hfz14_0⟩ := cz5 BK217
    go_wp2_with (first | ((with_reducible refine gC 13 ?_); refine lA (some 13) Try.func13 (impl_IsTrip.calls k a0_0 a0_1 a0_2 a0_3 a0_4 true _ A6.out) ?_; intro w15 hb; replace BK217 := uK BK217 hb; replace BK218 := uK BK218 hb; replace HB := uB HB hb; (try clear hb)) | (go_at_call 58; (with_reducible refine (impl_xBadStep.calls _ _ l1 t220 _ ?side1 ?side2 A12.out).mono ?_); (case side1 => repeat (first | exact (Kd.C_below HR1.out HB.out) | (with_reducible refine Kd.C_alloc ?_ _) | (with_reducible refine Kd.C_drewN ?_ _) | (with_reducible refine Kd.C_drew ?_))); (case side2 => exact HC1.out); rintro e w16 ⟨rfl, hb⟩; replace BK217 := uK BK217 hb; replace BK218 := uK BK218 hb; replace HB := uB HB hb; (try clear hb)))
    go_meet
    case rel => exact ⟨_, (t220), rB, H', leB, (aK BK217), (aK BK218), (aB HB)⟩
  ·replace H := iF (by decide) H
   have H' := Aside0.mk H
   clear H
   have hnb17 := NB217_218.out
   have hnc17 := NB218_217.out
   have ⟨hcz18_0, hcz18_1, hcz18_2, hcz18_3, hcz18_4, hfz18_0⟩ := cz5 BK217
   go_wp2_with (first | ((with_reducible refine gC 13 ?_); refine lA (some 13) Try.func13 (impl_IsTrip.calls k a0_0 a0_1 a0_2 a0_3 a0_4 false _ A6.out) ?_; intro w19 hb; replace BK217 := uK BK217 hb; replace BK218 := uK BK218 hb; replace HB := uB HB hb; (try clear hb)))
   go_meet
   case rel => exact ⟨_, (true), rB, H', leB, (aK BK217), (aK BK218), (aB HB)⟩
 case rest =>
  clear HC3
  try clear c1
  obtain ⟨kq, x23_2, rfl, HA, HJ2, BK217, BK218, HB⟩ := hcut
  cases kq with
  | zero => exact absurd HA.out (by simp [impl_RunTrip.j0])
  | succ kj2 =>
   have H := HA.out
   clear HA
   simp only [impl_RunTrip.j0] at H
   rcases Bool.eq_false_or_eq_true x23_2 with rfl | rfl
   ·replace H := iT rfl H
    simp only [Option.some.injEq, Prod.mk.injEq] at H
    obtain ⟨rfl, rfl, rfl, rfl, rfl, rfl, rfl⟩ := H
    have hnb21 := NB218_217.out
    have hnc21 := NB217_218.out
    have ⟨hcz22_0, hcz22_1, hcz22_2, hcz22_3, hcz22_4, hfz22_0⟩ := cz5 BK218
    go_wp2
    refine bodyPost_ret (results_ctt rfl _ _ gb218 25 #[.int .i64 0, .int .i64 0, .int .i64 0, .int .i64 0, .int .i64 0] (0, 0) _ rfl (by exact pW BK218) Try.underlying25 rfl (by kernel_rfl)) rfl ?_
    exact ⟨eB, (bW HB)⟩
   ·replace H := iF (by decide) H
    have H' := Aside0.mk H
    clear H
    go_wp2
    go_loopg [7, 27] kj2 (fun kq v7 v27 w' => ∃ (x7_2 x27_2 x218000_2 x218001_2 x218002_2 x218003_2 x218004_2 : Int), v7 = .int .i64 x7_2 ∧ v27 = .int .i64 x27_2 ∧ Aside0 (impl_RunTrip.l0 kq x7_2 l1 (l1.length : Int) x27_2 x218000_2 x218001_2 x218002_2 x218003_2 x218004_2 = some (r1, r2, r3, r4, r5, r6, r7)) ∧ Aside0 (kq ≤ kj2) ∧ Aside0 (w'.heap[gb217]? = some (.cells #[.int .i64 x218000_2, .int .i64 x218001_2, .int .i64 x218002_2, .int .i64 x218003_2, .int .i64 x218004_2] 25 (0, 0))) ∧ Aside0 (w'.heap[gb218]? = some (.cells #[.int .i64 0, .int .i64 0, .int .i64 0, .int .i64 0, .int .i64 0] 25 (0, 0))) ∧ Aside0 (Below w.heap.size w w'))
    case atStart => exact ⟨(0), (0), (a0_0), (a0_1), (a0_2), (a0_3), (a0_4), rB, rB, H', ⟨Nat.le_refl _⟩, (aK BK217), (aK BK218), (aB HB)⟩
    case round =>
     clear H'
     try clear c1
     obtain ⟨x7_2, x27_2, x218000_2, x218001_2, x218002_2, x218003_2, x218004_2, rfl, rfl, HA, HK2, BK217, BK218, HB⟩ := hrel
     cases gk with
     | zero => exact absurd HA.out (by simp [impl_RunTrip.l0])
     | succ k2 =>
      have H := HA.out
      clear HA
      simp only [impl_RunTrip.l0] at H
      replace H := ifD H
      rcases H with ⟨H, -, c23b0⟩ | ⟨H, -, c23b0⟩
      ·by_cases c24 : 0 ≤ x27_2
       ·rw [if_pos c24] at H
        have c24b0 : decide (0 ≤ x27_2) = true := decide_eq_true c24
        clear c24
        by_cases c25 : x27_2 < (l1.length : Int)
        ·rw [if_pos c25] at H
         have c25b0 : decide (x27_2 < (l1.length : Int)) = true := decide_eq_true c25
         clear c25
         replace H := Option.bind_eq_some_iff.mp H
         obtain ⟨⟨t223, t224, t225, t226, t227, t228⟩, A260, H⟩ := H
         replace H : (if t228 = true then (impl_RunTrip.l0 k2 (wrap64 (x7_2 + 1)) l1 (l1.length : Int) (wrap64 (x27_2 + 1)) t223 t224 t225 t226 t227) else (impl_RunTrip.l0 k2 x7_2 l1 (l1.length : Int) (wrap64 (x27_2 + 1)) x218000_2 x218001_2 x218002_2 x218003_2 x218004_2)) = some (r1, r2, r3, r4, r5, r6, r7) := H
         have A26 := Aside0.mk A260
         clear A260
         rcases Bool.eq_false_or_eq_true t228 with rfl | rfl
         ·replace H := iT rfl H
          have H' := Aside0.mk H
          clear H
          have p221 : 0 ≤ (x27_2 : Int) := of_decide_eq_true asmB
          have q221 : x27_2 < (l1.length : Int) := of_decide_eq_true asmB
          obtain ⟨ad221, e221, hx221_0, hx221_1⟩ := at_T49 HR1.out x27_2 p221 q221
          cases e221
          replace hx221_0 := bx HB.out hx221_0
          replace hx221_1 := bx HB.out hx221_1
          replace p221 := eq_true p221
          replace q221 := eq_true q221
          go_wp2_with (first | ((with_reducible refine gD 9 ?_); (try (refine gate_guard (by rfl) ?_; dsimp only)); refine bxE 9 49 #[.int .i64 0, .int .i64 0] fun gb222 w28 hg hbox hb => ?_; have BK222 := Aside0.mk hbox; have GE222 := gB HB hg; have ⟨NB217_222, NB222_217⟩ := nB BK217 hg; have ⟨NB218_222, NB222_218⟩ := nB BK218 hg; replace BK217 := uK BK217 hb; replace BK218 := uK BK218 hb; replace HB := uB HB hb; clear hb hbox hg; have hnb29 := NB222_217.out; have hnc29 := NB217_222.out; have hnb30 := NB222_218.out; have hnc30 := NB218_222.out; have ⟨hcz31_0, hcz31_1, hfz31_0⟩ := cz2 BK222; have hnb32 := NB217_218.out; have hnc32 := NB218_217.out; have ⟨hcz33_0, hcz33_1, hcz33_2, hcz33_3, hcz33_4, hfz33_0⟩ := cz5 BK217) | ((with_reducible refine gC 57 ?_); refine lA (some 34) Try.func57 (impl_Trip_step.calls k2 x218000_2 x218001_2 x218002_2 x218003_2 x218004_2 ((rd_T49 l1 x27_2).f0) ((rd_T49 l1 x27_2).f1) t223 t224 t225 t226 t227 true _ A26.out) ?_; intro w34 hb; replace BK217 := uQ BK217 hb #[.int .i64 x218000_2, .int .i64 x218001_2, .int .i64 x218002_2, .int .i64 x218003_2, .int .i64 x218004_2]; replace BK218 := uQ BK218 hb #[.int .i64 0, .int .i64 0, .int .i64 0, .int .i64 0, .int .i64 0]; replace BK222 := uQ BK222 hb #[.int .i64 ((rd_T49 l1 x27_2).f0), .int .i64 ((rd_T49 l1 x27_2).f1)]; replace HB := uB HB hb; (try clear hb)) | ((with_reducible refine gD 10 ?_); (try (refine gate_guard (by rfl) ?_; dsimp only)); refine bxE 10 25 #[.int .i64 0, .int .i64 0, .int .i64 0, .int .i64 0, .int .i64 0] fun gb229 w35 hg hbox hb => ?_; have BK229 := Aside0.mk hbox; have GE229 := gB HB hg; have ⟨NB217_229, NB229_217⟩ := nB BK217 hg; have ⟨NB218_229, NB229_218⟩ := nB BK218 hg; have ⟨NB222_229, NB229_222⟩ := nB BK222 hg; replace BK217 := uK BK217 hb; replace BK218 := uK BK218 hb; replace BK222 := uK BK222 hb; replace HB := uB HB hb; clear hb hbox hg; have hnb36 := NB229_217.out; have hnc36 := NB217_229.out; have hnb37 := NB229_218.out; have hnc37 := NB218_229.out; have hnb38 := NB229_222.out; have hnc38 := NB222_229.out; have ⟨hcz39_0, hcz39_1, hcz39_2, hcz39_3, hcz39_4, hfz39_0⟩ := cz5 BK229; have ⟨hcz40_0, hcz40_1, hcz40_2, hcz40_3, hcz40_4, hfz40_0⟩ := cz5 BK217))
          go_roundg k2
          case measure => have := HJ2.out; have := HK2.out; omega
          case rel => exact ⟨(wrap64 (x7_2 + 1)), (wrap64 (x27_2 + 1)), (t223), (t224), (t225), (t226), (t227), rB, rB, H', ⟨by have := HJ2.out; have := HK2.out; omega⟩, ⟨by exact pW BK217⟩, ⟨by exact pW BK218⟩, (aB HB)⟩
         ·replace H := iF (by decide) H
          have H' := Aside0.mk H
          clear H
          have p221 : 0 ≤ (x27_2 : Int) := of_decide_eq_true asmB
          have q221 : x27_2 < (l1.length : Int) := of_decide_eq_true asmB
          obtain ⟨ad221, e221, hx221_0, hx221_1⟩ := at_T49 HR1.out x27_2 p221 q221
          cases e221
          replace hx221_0 := bx HB.out hx221_0
          replace hx221_1 := bx HB.out hx221_1
          replace p221 := eq_true p221
          replace q221 := eq_true q221
          go_wp2_with (first | ((with_reducible refine gD 9 ?_); (try (refine gate_guard (by rfl) ?_; dsimp only)); refine bxE 9 49 #[.int .i64 0, .int .i64 0] fun gb222 w41 hg hbox hb => ?_; have BK222 := Aside0.mk hbox; have GE222 := gB HB hg; have ⟨NB217_222, NB222_217⟩ := nB BK217 hg; have ⟨NB218_222, NB222_218⟩ := nB BK218 hg; replace BK217 := uK BK217 hb; replace BK218 := uK BK218 hb; replace HB := uB HB hb; clear hb hbox hg; have hnb42 := NB222_217.out; have hnc42 := NB217_222.out; have hnb43 := NB222_218.out; have hnc43 := NB218_222.out; have ⟨hcz44_0, hcz44_1, hfz44_0⟩ := cz2 BK222; have hnb45 := NB217_218.out; have hnc45 := NB218_217.out; have ⟨hcz46_0, hcz46_1, hcz46_2, hcz46_3, hcz46_4, hfz46_0⟩ := cz5 BK217) | ((with_reducible refine gC 57 ?_); refine lA (some 34) Try.func57 (impl_Trip_step.calls k2 x218000_2 x218001_2 x218002_2 x218003_2 x218004_2 ((rd_T49 l1 x27_2).f0) ((rd_T49 l1 x27_2).f1) t223 t224 t225 t226 t227 false _ A26.out) ?_; intro w47 hb; replace BK217 := uQ BK217 hb #[.int .i64 x218000_2, .int .i64 x218001_2, .int .i64 x218002_2, .int .i64 x218003_2, .int .i64 x218004_2]; replace BK218 := uQ BK218 hb #[.int .i64 0, .int .i64 0, .int .i64 0, .int .i64 0, .int .i64 0]; replace BK222 := uQ BK222 hb #[.int .i64 ((rd_T49 l1 x27_2).f0), .int .i64 ((rd_T49 l1 x27_2).f1)]; replace HB := uB HB hb; (try clear hb)) | ((with_reducible refine gD 10 ?_); (try (refine gate_guard (by rfl) ?_; dsimp only)); refine bxE 10 25 #[.int .i64 0, .int .i64 0, .int .i64 0, .int .i64 0, .int .i64 0] fun gb229 w48 hg hbox hb => ?_; have BK229 := Aside0.mk hbox; have GE229 := gB HB hg; have ⟨NB217_229, NB229_217⟩ := nB BK217 hg; have ⟨NB218_229, NB229_218⟩ := nB BK218 hg; have ⟨NB222_229, NB229_222⟩ := nB BK222 hg; replace BK217 := uK BK217 hb; replace BK218 := uK BK218 hb; replace BK222 := uK BK222 hb; replace HB := uB HB hb; clear hb hbox hg; have hnb49 := NB229_217.out; have hnc49 := NB217_229.out; have hnb50 := NB229_218.out; have hnc50 := NB218_229.out; have hnb51 := NB229_222.out; have hnc51 := NB222_229.out; have ⟨hcz52_0, hcz52_1, hcz52_2, hcz52_3, hcz52_4, hfz52_0⟩ := cz5 BK229))
          go_roundg k2
          case measure => have := HJ2.out; have := HK2.out; omega
          case rel => exact ⟨(x7_2), (wrap64 (x27_2 + 1)), (x218000_2), (x218001_2), (x218002_2), (x218003_2), (x218004_2), rB, rB, H', ⟨by have := HJ2.out; have := HK2.out; omega⟩, ⟨by exact pW BK217⟩, ⟨by exact pW BK218⟩, (aB HB)⟩
        ·rw [if_neg c25] at H
         exact absurd H (by simp)
       ·rw [if_neg c24] at H
        exact absurd H (by simp)
      ·simp only [Option.some.injEq, Prod.mk.injEq] at H
       obtain ⟨rfl, rfl, rfl, rfl, rfl, rfl, rfl⟩ := H
       have hnb53 := NB217_218.out
       have hnc53 := NB218_217.out
       have ⟨hcz54_0, hcz54_1, hcz54_2, hcz54_3, hcz54_4, hfz54_0⟩ := cz5 BK217
       have ⟨hcz55_0, hcz55_1, hcz55_2, hcz55_3, hcz55_4, hfz55_0⟩ := cz5 BK218
       go_wp2
       refine bodyPost_ret (results_ctt rfl _ _ gb218 25 #[.int .i64 x218000_2, .int .i64 x218001_2, .int .i64 x218002_2, .int .i64 x218003_2, .int .i64 x218004_2] (0, 0) _ rfl (by exact pW BK218) Try.underlying25 rfl (by kernel_rfl)) rfl ?_
       exact ⟨eB, (bW HB)⟩

/-! ### laws_vBig: function 38 -/
def laws_vBig.f (l0 : List Int) : Option (Bool) := some (decide ((l0.length : Int) > 65536))
set_option maxHeartbeats 8000000 in
set_option maxRecDepth 100000 in
theorem laws_vBig.calls (A0 : Option Addr) (c0 : Nat) (l0 : List Int) (r : Bool) (w : World) (hr0 : Kd.C (Kd.int .u8) w A0 l0.length l0) (hc0 : l0.length ≤ c0) (h : laws_vBig.f l0 = some r) :
  Calls Try.prog 38 #[.slice A0 l0.length c0] w fun e w' => e = .returned (.bool r) ∧ Drawn0 w w' := by
 have HR0 := Aside0.mk hr0
 have HC0 := Aside0.mk hc0
 clear hr0 hc0
 have H : (some (decide ((l0.length : Int) > 65536))) = some r := h
 clear h
 obtain rfl := Option.some.inj H
 go_enter Try.func38, Try.ntmps38
 go_wp2
 go_ret
 exact ⟨rB, by repeat (first | exact Drawn0.refl _ | apply Drawn0.step)⟩

/-- A state of type 81 at block g of W; what its slices lead to came in by w0. -/
def IsS81 (w0 W : World) (g : Nat) (f0 : List Int) (f1 f2 : Int) : Prop := ∃ A0 c0, W.heap[g]? = some (.cells #[.slice A0 f0.length c0, .int .i64 f1, .int .u64 f2] 81 (0, 0)) ∧ w0.heap.size ≤ g ∧ Kd.C (Kd.int .u8) w0 A0 f0.length f0
theorem IsS81.grown {w0 W : World} {g : Nat} {f0 : List Int} {f1 : Int} {f2 : Int} {W1 : World} {row : Option Nat} (h : IsS81 w0 W g f0 f1 f2) (hw : W.grownBy W1 row) (hne : some g ≠ row) : IsS81 w0 W1 g f0 f1 f2 := by
 obtain ⟨A0, c0, hb, hg, hr0⟩ := h
 exact ⟨A0, c0, blk_grown hb hw hne, hg, hr0⟩
theorem IsS81.own_neN {w0 W : World} {g : Nat} {f0 : List Int} {f1 : Int} {f2 : Int} {α : Type} {d : Kd α} {e : Nat} {base : Nat} {ok : Nat → Prop} {v : Value} {xs : List α} (h : IsS81 w0 W g f0 f1 f2) (ho : Kd.N d e W base ok v xs) (ht : e ≠ 81) : some g ≠ v.ownBlock := by
 obtain ⟨A0, c0, hb, hg, hr0⟩ := h
 exact Kd.N_ne ho hb ht
theorem IsS81.fresh {w0 W : World} {g : Nat} {f0 : List Int} {f1 : Int} {f2 : Int} (h : IsS81 w0 W g f0 f1 f2) : ∀ k, W.heap.size ≤ k → k ≠ g := by
 obtain ⟨A0, c0, hb, hg, hr0⟩ := h
 exact Kd.freshB hb
theorem IsS81.kept {w0 W : World} {g : Nat} {f0 : List Int} {f1 : Int} {f2 : Int} {W1 : World} {S : Nat → Prop} (h : IsS81 w0 W g f0 f1 f2) (hk : Kept W W1 S) (hne : ¬ S g) : IsS81 w0 W1 g f0 f1 f2 := by
 obtain ⟨A0, c0, hb, hg, hr0⟩ := h
 exact ⟨A0, c0, blk_kept hb hk hne, hg, hr0⟩
theorem IsS81.below {w0 W : World} {g : Nat} {f0 : List Int} {f1 : Int} {f2 : Int} {W1 : World} (h : IsS81 w0 W g f0 f1 f2) (hw : Below W.heap.size W W1) : IsS81 w0 W1 g f0 f1 f2 := h.grown (grown_of_below hw none) (by simp)
theorem IsS81.alloc {w0 W : World} {g : Nat} {f0 : List Int} {f1 : Int} {f2 : Int} (h : IsS81 w0 W g f0 f1 f2) (o : Obj) : IsS81 w0 (W.alloc o) g f0 f1 f2 := h.below (below_alloc (Below.refl _ _) o)
theorem IsS81.drewN {w0 W : World} {g : Nat} {f0 : List Int} {f1 : Int} {f2 : Int} (h : IsS81 w0 W g f0 f1 f2) (m : Nat) : IsS81 w0 (W.drewN m) g f0 f1 f2 := h
theorem IsS81.drew {w0 W : World} {g : Nat} {f0 : List Int} {f1 : Int} {f2 : Int} (h : IsS81 w0 W g f0 f1 f2) : IsS81 w0 W.drew g f0 f1 f2 := h
theorem IsS81.at_ {w0 W : World} {g : Nat} {f0 : List Int} {f1 : Int} {f2 : Int} {w' : World} {m : Nat} (hq : W.drewN m = w') (h : IsS81 w0 W g f0 f1 f2) : IsS81 w0 w' g f0 f1 f2 := by subst hq; exact IsS81.drewN h m
theorem IsS81.apart {w0 W : World} {g : Nat} {f0 : List Int} {f1 : Int} {f2 : Int} {α : Type} {d : Kd α} {e : Nat} {base : Nat} {ok : Nat → Prop} {v : Value} {xs : List α} (h : IsS81 w0 W g f0 f1 f2) (ho : d.R e W base ok v xs) (ht : ∀ q, q ∈ e :: d.E → q ≠ 81) : d.R e W base (fun k => ok k ∧ k ≠ g) v xs := by
 obtain ⟨A0, c0, hb, hg, hr0⟩ := h
 exact Kd.R_types ho hb ht
theorem IsS81.own_ne {w0 W : World} {g : Nat} {f0 : List Int} {f1 : Int} {f2 : Int} {α : Type} {d : Kd α} {e : Nat} {base : Nat} {ok : Nat → Prop} {v : Value} {xs : List α} (h : IsS81 w0 W g f0 f1 f2) (ho : d.R e W base ok v xs) (ht : e ≠ 81) : some g ≠ v.ownBlock := by
 obtain ⟨A0, c0, hb, hg, hr0⟩ := h
 exact Kd.R_ne ho hb ht
theorem IsS81.apartQ {w0 W : World} {g : Nat} {f0 : List Int} {f1 : Int} {f2 : Int} {α : Type} {d : Kd α} {e : Nat} {base : Nat} {ok : Nat → Prop} {v : Value} {xs : List α} (h : IsS81 w0 W g f0 f1 f2) (ho : d.Q e W base ok v xs) (ht : ∀ q, q ∈ e :: d.E → q ≠ 81) : d.Q e W base (fun k => ok k ∧ k ≠ g) v xs := by
 obtain ⟨A0, c0, hb, hg, hr0⟩ := h
 exact Kd.Q_types ho hb ht
theorem IsS81.own_neQ {w0 W : World} {g : Nat} {f0 : List Int} {f1 : Int} {f2 : Int} {α : Type} {d : Kd α} {e : Nat} {base : Nat} {ok : Nat → Prop} {v : Value} {xs : List α} (h : IsS81 w0 W g f0 f1 f2) (ho : d.Q e W base ok v xs) (ht : e ≠ 81) : some g ≠ v.ownBlock := by
 obtain ⟨A0, c0, hb, hg, hr0⟩ := h
 exact Kd.Q_ne ho hb ht
theorem IsS81.apartS {w0 W : World} {g : Nat} {f0 : List Int} {f1 : Int} {f2 : Int} {α : Type} {d : Kd α} {e : Nat} {base : Nat} {ok : Nat → Prop} {v : Value} {xs : List α} (h : IsS81 w0 W g f0 f1 f2) (ho : d.S e W base ok v xs) (ht : ∀ q, q ∈ e :: d.E → q ≠ 81) : d.S e W base (fun k => ok k ∧ k ≠ g) v xs := by
 obtain ⟨A0, c0, hb, hg, hr0⟩ := h
 exact Kd.S_types ho hb ht
theorem IsS81.own_neS {w0 W : World} {g : Nat} {f0 : List Int} {f1 : Int} {f2 : Int} {α : Type} {d : Kd α} {e : Nat} {base : Nat} {ok : Nat → Prop} {v : Value} {xs : List α} (h : IsS81 w0 W g f0 f1 f2) (ho : d.S e W base ok v xs) (ht : e ≠ 81) : some g ≠ v.ownBlock := by
 obtain ⟨A0, c0, hb, hg, hr0⟩ := h
 exact Kd.S_ne ho hb ht
theorem IsS81.lt {w0 W : World} {g : Nat} {f0 : List Int} {f1 : Int} {f2 : Int} (h : IsS81 w0 W g f0 f1 f2) : g < W.heap.size := by
 obtain ⟨A0, c0, hb, hg, hr0⟩ := h
 exact blk_lt hb
theorem IsS81.ge {w0 W : World} {g : Nat} {f0 : List Int} {f1 : Int} {f2 : Int} (h : IsS81 w0 W g f0 f1 f2) : w0.heap.size ≤ g := by
 obtain ⟨A0, c0, hb, hg, hr0⟩ := h
 exact hg
theorem IsS81.ne_blk {w0 W : World} {g : Nat} {f0 : List Int} {f1 : Int} {f2 : Int} {a : Nat} {cs : Array Value} {t : TypeId} {fr : Nat × Nat} (h : IsS81 w0 W g f0 f1 f2) (hb2 : W.heap[a]? = some (.cells cs t fr)) (ht : t ≠ 81) : g ≠ a := by
 obtain ⟨A0, c0, hb, hg, hr0⟩ := h
 rintro rfl
 rw [hb] at hb2
 injection hb2 with hb2
 injection hb2 with _ ht2
 exact ht ht2.symm
theorem IsS81.far {w0 W : World} {g : Nat} {f0 : List Int} {f1 : Int} {f2 : Int} {p : Addr} (h : IsS81 w0 W g f0 f1 f2) (hne : g ≠ p.block) (u : Value) : IsS81 w0 (W.setCell p u) g f0 f1 f2 := by
 obtain ⟨A0, c0, hb, hg, hr0⟩ := h
 exact ⟨A0, c0, blk_far hb hne u, hg, hr0⟩
theorem cellS81_0 {W : World} {g : Nat} {A0 : Option Addr} {c0 : Nat} {f0 : List Int} {f1 : Int} {f2 : Int} (h : W.heap[g]? = some (.cells #[.slice A0 f0.length c0, .int .i64 f1, .int .u64 f2] 81 (0, 0))) : W.cell? ⟨g, 0, none⟩ = some (.slice A0 f0.length c0) := (blk_cell h 0).trans rfl
theorem cellS81_1 {W : World} {g : Nat} {A0 : Option Addr} {c0 : Nat} {f0 : List Int} {f1 : Int} {f2 : Int} (h : W.heap[g]? = some (.cells #[.slice A0 f0.length c0, .int .i64 f1, .int .u64 f2] 81 (0, 0))) : W.cell? ⟨g, 1, none⟩ = some (.int .i64 f1) := (blk_cell h 1).trans rfl
theorem IsS81.set_1 {w0 W : World} {g : Nat} {f0 : List Int} {f1 : Int} {f2 : Int} (h : IsS81 w0 W g f0 f1 f2) (x : Int) : IsS81 w0 (W.setCell ⟨g, 1, none⟩ (.int .i64 x)) g f0 x f2 := by
 obtain ⟨A0, c0, hb, hg, hr0⟩ := h
 exact ⟨A0, c0, by simpa using blk_set hb 1 (.int .i64 x), hg, hr0⟩
theorem cellS81_2 {W : World} {g : Nat} {A0 : Option Addr} {c0 : Nat} {f0 : List Int} {f1 : Int} {f2 : Int} (h : W.heap[g]? = some (.cells #[.slice A0 f0.length c0, .int .i64 f1, .int .u64 f2] 81 (0, 0))) : W.cell? ⟨g, 2, none⟩ = some (.int .u64 f2) := (blk_cell h 2).trans rfl
theorem IsS81.set_2 {w0 W : World} {g : Nat} {f0 : List Int} {f1 : Int} {f2 : Int} (h : IsS81 w0 W g f0 f1 f2) (x : Int) : IsS81 w0 (W.setCell ⟨g, 2, none⟩ (.int .u64 x)) g f0 f1 x := by
 obtain ⟨A0, c0, hb, hg, hr0⟩ := h
 exact ⟨A0, c0, by simpa using blk_set hb 2 (.int .u64 x), hg, hr0⟩
theorem IsS81.new (w0 W : World) (A0 : Option Addr) (c0 : Nat) (f0 : List Int) (f1 f2 : Int) (hB : Below w0.heap.size w0 W) (hr0 : Kd.C (Kd.int .u8) w0 A0 f0.length f0) : IsS81 w0 (W.alloc (.cells #[.slice A0 f0.length c0, .int .i64 f1, .int .u64 f2] 81)) W.heap.size f0 f1 f2 := ⟨A0, c0, by simpa using heap_alloc_new W _, hB.size, hr0⟩

/-! ### spec_l1Cur_next: function 71 -/
def spec_l1Cur_next.f (s0_0 : List Int) (s0_1 s0_2 : Int) : Option (Int × Int × Int) := if s0_1 < (s0_0.length : Int) then (if 0 ≤ s0_1 then (if (wrap64 (s0_1 + 1)) ≤ (s0_0.length : Int) then (some (wrap64 (rd s0_0 s0_1), wrap64 (s0_1 + 1), IntKind.u64.wrap ((IntKind.u64.wrap ((IntKind.u64.wrap (s0_2 * 6364136223846793005)) + (IntKind.u64.wrap (wrap64 (rd s0_0 s0_1))))) + 933933))) else (some (wrap64 (Go.bits .and .u64 ((IntKind.u64.wrap ((IntKind.u64.wrap ((IntKind.u64.wrap (s0_2 * 6364136223846793005)) + (IntKind.u64.wrap (wrap64 (rd s0_0 s0_1))))) + 933933)) / 1099511627776) 255), wrap64 (s0_1 + 1), IntKind.u64.wrap ((IntKind.u64.wrap ((IntKind.u64.wrap (s0_2 * 6364136223846793005)) + (IntKind.u64.wrap (wrap64 (rd s0_0 s0_1))))) + 933933)))) else (none)) else (if (wrap64 (s0_1 + 1)) ≤ (s0_0.length : Int) then (some (0, wrap64 (s0_1 + 1), IntKind.u64.wrap ((IntKind.u64.wrap ((IntKind.u64.wrap (s0_2 * 6364136223846793005)) + 0)) + 933933))) else (some (wrap64 (Go.bits .and .u64 ((IntKind.u64.wrap ((IntKind.u64.wrap ((IntKind.u64.wrap (s0_2 * 6364136223846793005)) + 0)) + 933933)) / 1099511627776) 255), wrap64 (s0_1 + 1), IntKind.u64.wrap ((IntKind.u64.wrap ((IntKind.u64.wrap (s0_2 * 6364136223846793005)) + 0)) + 933933))))
set_option maxHeartbeats 8000000 in
set_option maxRecDepth 100000 in
theorem spec_l1Cur_next.calls (g : Nat) (s0_0 : List Int) (s0_1 s0_2 r1 r2 r3 : Int) (w0 w : World) (hI : IsS81 w0 w g s0_0 s0_1 s0_2) (hB : Below w0.heap.size w0 w) (h : spec_l1Cur_next.f s0_0 s0_1 s0_2 = some (r1, r2, r3)) :
  Calls Try.prog 71 #[.pointer (some ⟨g, 0, none⟩)] w fun e w' => e = .returned (.int .i64 r1) ∧ IsS81 w0 w' g s0_0 r2 r3 ∧ Below w0.heap.size w0 w' ∧ KeepBut w w' g none := by
 have HI0 := Aside0.mk hI
 have HK := Aside0.mk (KeepBut.refl w g none)
 have HL := Aside0.mk hB.size
 clear hI
 have HW0 := Aside0.mk hB.size
 have HB := Aside0.mk hB
 clear hB
 have H := h
 clear h
 unfold spec_l1Cur_next.f at H
 replace H := ifD H
 rcases H with ⟨H, -, c2b0⟩ | ⟨H, -, c2b0⟩
 ·by_cases c3 : 0 ≤ s0_1
  ·rw [if_pos c3] at H
   have c3b0 : decide (0 ≤ s0_1) = true := decide_eq_true c3
   clear c3
   replace H := ifD H
   rcases H with ⟨H, -, c4b0⟩ | ⟨H, -, c4b0⟩
   ·simp only [Option.some.injEq, Prod.mk.injEq] at H
    obtain ⟨rfl, rfl, rfl⟩ := H
    obtain ⟨ASz5_0, cSz5_0, HGz5, hgz5, HSz5_0⟩ := HI0.out
    have hcz5_0 := cellS81_0 HGz5
    have hcz5_1 := cellS81_1 HGz5
    have hcz5_2 := cellS81_2 HGz5
    have hfz5_1 := blk_frozen HGz5 1
    have hfz5_2 := blk_frozen HGz5 2
    clear HGz5 hgz5
    have p230 : 0 ≤ (s0_1 : Int) := of_decide_eq_true asmB
    have q230 : s0_1 < (s0_0.length : Int) := of_decide_eq_true asmB
    obtain ⟨ad230, e230, hx230_0⟩ := Kd.at_int HSz5_0 s0_1 p230 q230
    cases e230
    replace hx230_0 := pw_cell_below HB.out hx230_0
    replace p230 := eq_true p230
    replace q230 := eq_true q230
    go_enter Try.func71, Try.ntmps71
    go_wp2
    repeat (go_quiet (fail); try go_wp2)
    go_ret
    exact ⟨eB, by (try simp only [Int.add_zero]); repeat (first | (with_reducible first | exact HI0.out | apply IsS81.alloc | apply IsS81.drewN | apply IsS81.drew | apply IsS81.set_1 | apply IsS81.set_2) | exact HI0.out), by repeat (first | (with_reducible first | exact HB.out | apply below_alloc | apply pw_below_drewN | apply below_drew1 | refine below_set ?_ (IsS81.ge HI0.out)) | exact HB.out), by repeat (first | (with_reducible first | exact HK.out | apply KeepBut.set_ | apply keep_drewN | apply keep_drew | apply keep_alloc) | exact HK.out)⟩
   ·simp only [Option.some.injEq, Prod.mk.injEq] at H
    obtain ⟨rfl, rfl, rfl⟩ := H
    obtain ⟨ASz6_0, cSz6_0, HGz6, hgz6, HSz6_0⟩ := HI0.out
    have hcz6_0 := cellS81_0 HGz6
    have hcz6_1 := cellS81_1 HGz6
    have hcz6_2 := cellS81_2 HGz6
    have hfz6_1 := blk_frozen HGz6 1
    have hfz6_2 := blk_frozen HGz6 2
    clear HGz6 hgz6
    have p230 : 0 ≤ (s0_1 : Int) := of_decide_eq_true asmB
    have q230 : s0_1 < (s0_0.length : Int) := of_decide_eq_true asmB
    obtain ⟨ad230, e230, hx230_0⟩ := Kd.at_int HSz6_0 s0_1 p230 q230
    cases e230
    replace hx230_0 := pw_cell_below HB.out hx230_0
    replace p230 := eq_true p230
    replace q230 := eq_true q230
    go_enter Try.func71, Try.ntmps71
    go_wp2
    repeat (go_quiet (fail); try go_wp2)
    go_ret
    exact ⟨eB, by (try simp only [Int.add_zero]); repeat (first | (with_reducible first | exact HI0.out | apply IsS81.alloc | apply IsS81.drewN | apply IsS81.drew | apply IsS81.set_1 | apply IsS81.set_2) | exact HI0.out), by repeat (first | (with_reducible first | exact HB.out | apply below_alloc | apply pw_below_drewN | apply below_drew1 | refine below_set ?_ (IsS81.ge HI0.out)) | exact HB.out), by repeat (first | (with_reducible first | exact HK.out | apply KeepBut.set_ | apply keep_drewN | apply keep_drew | apply keep_alloc) | exact HK.out)⟩
  ·rw [if_neg c3] at H
   exact absurd H (by simp)
 ·replace H := ifD H
  rcases H with ⟨H, -, c7b0⟩ | ⟨H, -, c7b0⟩
  ·simp only [Option.some.injEq, Prod.mk.injEq] at H
   obtain ⟨rfl, rfl, rfl⟩ := H
   obtain ⟨ASz8_0, cSz8_0, HGz8, hgz8, HSz8_0⟩ := HI0.out
   have hcz8_0 := cellS81_0 HGz8
   have hcz8_1 := cellS81_1 HGz8
   have hcz8_2 := cellS81_2 HGz8
   have hfz8_1 := blk_frozen HGz8 1
   have hfz8_2 := blk_frozen HGz8 2
   clear HGz8 hgz8
   go_enter Try.func71, Try.ntmps71
   go_wp2
   repeat (go_quiet (fail); try go_wp2)
   go_ret
   exact ⟨eB, by (try simp only [Int.add_zero]); repeat (first | (with_reducible first | exact HI0.out | apply IsS81.alloc | apply IsS81.drewN | apply IsS81.drew | apply IsS81.set_1 | apply IsS81.set_2) | exact HI0.out), by repeat (first | (with_reducible first | exact HB.out | apply below_alloc | apply pw_below_drewN | apply below_drew1 | refine below_set ?_ (IsS81.ge HI0.out)) | exact HB.out), by repeat (first | (with_reducible first | exact HK.out | apply KeepBut.set_ | apply keep_drewN | apply keep_drew | apply keep_alloc) | exact HK.out)⟩
  ·simp only [Option.some.injEq, Prod.mk.injEq] at H
   obtain ⟨rfl, rfl, rfl⟩ := H
   obtain ⟨ASz9_0, cSz9_0, HGz9, hgz9, HSz9_0⟩ := HI0.out
   have hcz9_0 := cellS81_0 HGz9
   have hcz9_1 := cellS81_1 HGz9
   have hcz9_2 := cellS81_2 HGz9
   have hfz9_1 := blk_frozen HGz9 1
   have hfz9_2 := blk_frozen HGz9 2
   clear HGz9 hgz9
   go_enter Try.func71, Try.ntmps71
   go_wp2
   repeat (go_quiet (fail); try go_wp2)
   go_ret
   exact ⟨eB, by (try simp only [Int.add_zero]); repeat (first | (with_reducible first | exact HI0.out | apply IsS81.alloc | apply IsS81.drewN | apply IsS81.drew | apply IsS81.set_1 | apply IsS81.set_2) | exact HI0.out), by repeat (first | (with_reducible first | exact HB.out | apply below_alloc | apply pw_below_drewN | apply below_drew1 | refine below_set ?_ (IsS81.ge HI0.out)) | exact HB.out), by repeat (first | (with_reducible first | exact HK.out | apply KeepBut.set_ | apply keep_drewN | apply keep_drew | apply keep_alloc) | exact HK.out)⟩

/-! ### spec_l1Cur_pick: function 63 -/
def spec_l1Cur_pick.f (s0_0 : List Int) (s0_1 s0_2 a1 : Int) : Option (Int × Int × Int) := if a1 ≤ 1 then (some (0, s0_1, s0_2)) else ((spec_l1Cur_next.f s0_0 s0_1 s0_2).bind fun bt231 => (if a1 > 200 then ((spec_l1Cur_next.f s0_0 bt231.2.1 bt231.2.2).bind fun bt234 => (if a1 = 0 then (none) else (some (Int.tmod (wrap64 ((wrap64 (bt231.1 * 256)) + bt234.1)) a1, bt234.2.1, bt234.2.2)))) else (if a1 = 0 then (none) else (some (Int.tmod bt231.1 a1, bt231.2.1, bt231.2.2)))))
set_option maxHeartbeats 8000000 in
set_option maxRecDepth 100000 in
theorem spec_l1Cur_pick.calls (g : Nat) (s0_0 : List Int) (s0_1 s0_2 a1 r1 r2 r3 : Int) (w0 w : World) (hI : IsS81 w0 w g s0_0 s0_1 s0_2) (hB : Below w0.heap.size w0 w) (h : spec_l1Cur_pick.f s0_0 s0_1 s0_2 a1 = some (r1, r2, r3)) :
  Calls Try.prog 63 #[.pointer (some ⟨g, 0, none⟩), .int .i64 a1] w fun e w' => e = .returned (.int .i64 r1) ∧ IsS81 w0 w' g s0_0 r2 r3 ∧ Below w0.heap.size w0 w' ∧ KeepBut w w' g none := by
 have HI0 := Aside0.mk hI
 have HK := Aside0.mk (KeepBut.refl w g none)
 have HL := Aside0.mk hB.size
 clear hI
 have HW0 := Aside0.mk hB.size
 have HB := Aside0.mk hB
 clear hB
 have H := h
 clear h
 unfold spec_l1Cur_pick.f at H
 replace H := ifD H
 rcases H with ⟨H, -, c3b0⟩ | ⟨H, -, c3b0⟩
 ·simp only [Option.some.injEq, Prod.mk.injEq] at H
  obtain ⟨rfl, rfl, rfl⟩ := H
  go_enter Try.func63, Try.ntmps63
  go_wp2
  go_ret
  exact ⟨eB, by repeat (first | (with_reducible first | exact HI0.out | apply IsS81.alloc | apply IsS81.drewN | apply IsS81.drew | apply IsS81.set_1 | apply IsS81.set_2) | exact HI0.out), by repeat (first | (with_reducible first | exact HB.out | apply below_alloc | apply pw_below_drewN | apply below_drew1 | refine below_set ?_ (IsS81.ge HI0.out)) | exact HB.out), by repeat (first | (with_reducible first | exact HK.out | apply KeepBut.set_ | apply keep_drewN | apply keep_drew | apply keep_alloc) | exact HK.out)⟩
 ·replace H := Option.bind_eq_some_iff.mp H
  obtain ⟨⟨t231, t232, t233⟩, A40, H⟩ := H
  replace H : (if a1 > 200 then ((spec_l1Cur_next.f s0_0 t232 t233).bind fun bt234 => (if a1 = 0 then (none) else (some (Int.tmod (wrap64 ((wrap64 (t231 * 256)) + bt234.1)) a1, bt234.2.1, bt234.2.2)))) else (if a1 = 0 then (none) else (some (Int.tmod t231 a1, t232, t233)))) = some (r1, r2, r3) := H
  have A4 := Aside0.mk A40
  clear A40
  replace H := ifD H
  rcases H with ⟨H, -, c5b0⟩ | ⟨H, -, c5b0⟩
  ·replace H := Option.bind_eq_some_iff.mp H
   obtain ⟨⟨t234, t235, t236⟩, A60, H⟩ := H
   replace H : (if a1 = 0 then (none) else (some (Int.tmod (wrap64 ((wrap64 (t231 * 256)) + t234)) a1, t235, t236))) = some (r1, r2, r3) := H
   have A6 := Aside0.mk A60
   clear A60
   by_cases c7 : a1 = 0
   ·rw [if_pos c7] at H
    exact absurd H (by simp)
   ·rw [if_neg c7] at H
    have c7b0 : (a1 == 0) = false := beq_eq_false_iff_ne.mpr c7
    have c7b1 : (a1 != 0) = true := bne_iff_ne.mpr c7
    simp only [Option.some.injEq, Prod.mk.injEq] at H
    obtain ⟨rfl, rfl, rfl⟩ := H
    go_enter Try.func63, Try.ntmps63
    go_wp2_with (first | ((with_reducible refine gate_callee (f := 71) rfl ?_); refine goesL_ (some 9) rfl rfl Try.func71 (by kernel_rfl) rfl #[.pointer (some ⟨g, 0, none⟩)] rfl argsB ?_; (with_reducible refine (spec_l1Cur_next.calls g s0_0 s0_1 s0_2 t231 t232 t233 w0 _ ?side1 ?side2 A4.out).mono ?_); (case side1 => repeat (first | (with_reducible first | exact HI0.out | apply IsS81.alloc | apply IsS81.drewN | apply IsS81.drew | apply IsS81.set_1 | apply IsS81.set_2) | exact HI0.out)); (case side2 => repeat (first | (with_reducible first | exact HB.out | apply below_alloc | apply pw_below_drewN | apply below_drew1 | refine below_set ?_ (IsS81.ge HI0.out)) | exact HB.out)); rintro e w8 ⟨rfl, hi, hb, hk⟩; refine ⟨_, rfl, ?_⟩; replace HK := Aside0.mk (KeepBut.trans (by repeat (first | (with_reducible first | exact HK.out | apply KeepBut.set_ | apply keep_drewN | apply keep_drew | apply keep_alloc) | exact HK.out)) hk (.inl rfl)); replace HB := Aside0.mk (hb); replace HI0 := Aside0.mk (hi); (try clear hb); (try clear hk); (try clear hi)) | ((with_reducible refine gate_callee (f := 71) rfl ?_); refine goesL_ (some 15) rfl rfl Try.func71 (by kernel_rfl) rfl #[.pointer (some ⟨g, 0, none⟩)] rfl argsB ?_; (with_reducible refine (spec_l1Cur_next.calls g s0_0 t232 t233 t234 t235 t236 w0 _ ?side1 ?side2 A6.out).mono ?_); (case side1 => repeat (first | (with_reducible first | exact HI0.out | apply IsS81.alloc | apply IsS81.drewN | apply IsS81.drew | apply IsS81.set_1 | apply IsS81.set_2) | exact HI0.out)); (case side2 => repeat (first | (with_reducible first | exact HB.out | apply below_alloc | apply pw_below_drewN | apply below_drew1 | refine below_set ?_ (IsS81.ge HI0.out)) | exact HB.out)); rintro e w9 ⟨rfl, hi, hb, hk⟩; refine ⟨_, rfl, ?_⟩; replace HK := Aside0.mk (KeepBut.trans (by repeat (first | (with_reducible first | exact HK.out | apply KeepBut.set_ | apply keep_drewN | apply keep_drew | apply keep_alloc) | exact HK.out)) hk (.inl rfl)); replace HB := Aside0.mk (hb); replace HI0 := Aside0.mk (hi); (try clear hb); (try clear hk); (try clear hi)))
    go_ret
    exact ⟨eB, by repeat (first | (with_reducible first | exact HI0.out | apply IsS81.alloc | apply IsS81.drewN | apply IsS81.drew | apply IsS81.set_1 | apply IsS81.set_2) | exact HI0.out), by repeat (first | (with_reducible first | exact HB.out | apply below_alloc | apply pw_below_drewN | apply below_drew1 | refine below_set ?_ (IsS81.ge HI0.out)) | exact HB.out), by repeat (first | (with_reducible first | exact HK.out | apply KeepBut.set_ | apply keep_drewN | apply keep_drew | apply keep_alloc) | exact HK.out)⟩
  ·by_cases c10 : a1 = 0
   ·rw [if_pos c10] at H
    exact absurd H (by simp)
   ·rw [if_neg c10] at H
    have c10b0 : (a1 == 0) = false := beq_eq_false_iff_ne.mpr c10
    have c10b1 : (a1 != 0) = true := bne_iff_ne.mpr c10
    simp only [Option.some.injEq, Prod.mk.injEq] at H
    obtain ⟨rfl, rfl, rfl⟩ := H
    go_enter Try.func63, Try.ntmps63
    go_wp2_with (first | ((with_reducible refine gate_callee (f := 71) rfl ?_); refine goesL_ (some 9) rfl rfl Try.func71 (by kernel_rfl) rfl #[.pointer (some ⟨g, 0, none⟩)] rfl argsB ?_; (with_reducible refine (spec_l1Cur_next.calls g s0_0 s0_1 s0_2 t231 t232 t233 w0 _ ?side1 ?side2 A4.out).mono ?_); (case side1 => repeat (first | (with_reducible first | exact HI0.out | apply IsS81.alloc | apply IsS81.drewN | apply IsS81.drew | apply IsS81.set_1 | apply IsS81.set_2) | exact HI0.out)); (case side2 => repeat (first | (with_reducible first | exact HB.out | apply below_alloc | apply pw_below_drewN | apply below_drew1 | refine below_set ?_ (IsS81.ge HI0.out)) | exact HB.out)); rintro e w11 ⟨rfl, hi, hb, hk⟩; refine ⟨_, rfl, ?_⟩; replace HK := Aside0.mk (KeepBut.trans (by repeat (first | (with_reducible first | exact HK.out | apply KeepBut.set_ | apply keep_drewN | apply keep_drew | apply keep_alloc) | exact HK.out)) hk (.inl rfl)); replace HB := Aside0.mk (hb); replace HI0 := Aside0.mk (hi); (try clear hb); (try clear hk); (try clear hi)))
    go_ret
    exact ⟨eB, by repeat (first | (with_reducible first | exact HI0.out | apply IsS81.alloc | apply IsS81.drewN | apply IsS81.drew | apply IsS81.set_1 | apply IsS81.set_2) | exact HI0.out), by repeat (first | (with_reducible first | exact HB.out | apply below_alloc | apply pw_below_drewN | apply below_drew1 | refine below_set ?_ (IsS81.ge HI0.out)) | exact HB.out), by repeat (first | (with_reducible first | exact HK.out | apply KeepBut.set_ | apply keep_drewN | apply keep_drew | apply keep_alloc) | exact HK.out)⟩

/-! ### spec_l1Cur_among: function 70 -/
def spec_l1Cur_among.f (s0_0 : List Int) (s0_1 s0_2 : Int) (l1 : List Int) : Option (Int × Int × Int) := (spec_l1Cur_pick.f s0_0 s0_1 s0_2 (l1.length : Int)).bind fun bt237 => (if 0 ≤ bt237.1 then (if bt237.1 < (l1.length : Int) then (some (rd l1 bt237.1, bt237.2.1, bt237.2.2)) else (none)) else (none))
set_option maxHeartbeats 8000000 in
set_option maxRecDepth 100000 in
theorem spec_l1Cur_among.calls (g : Nat) (s0_0 : List Int) (s0_1 s0_2 : Int) (A1 : Option Addr) (c1 : Nat) (l1 : List Int) (r1 r2 r3 : Int) (w0 w : World) (hI : IsS81 w0 w g s0_0 s0_1 s0_2) (hB : Below w0.heap.size w0 w) (hr1 : Kd.C (Kd.int .i64) w A1 l1.length l1) (hc1 : l1.length ≤ c1) (hf1 : ∀ ad, A1 = some ad → 0 < l1.length → ad.block ≠ g) (h : spec_l1Cur_among.f s0_0 s0_1 s0_2 l1 = some (r1, r2, r3)) :
  Calls Try.prog 70 #[.pointer (some ⟨g, 0, none⟩), .slice A1 l1.length c1] w fun e w' => e = .returned (.int .i64 r1) ∧ IsS81 w0 w' g s0_0 r2 r3 ∧ Below w0.heap.size w0 w' ∧ KeepBut w w' g none := by
 have HR1 := Aside0.mk hr1
 have HC1 := Aside0.mk hc1
 clear hr1 hc1
 have HI0 := Aside0.mk hI
 have HK := Aside0.mk (KeepBut.refl w g none)
 have HL := Aside0.mk hB.size
 clear hI
 have HW0 := Aside0.mk hB.size
 have HB := Aside0.mk hB
 clear hB
 have H := h
 clear h
 unfold spec_l1Cur_among.f at H
 replace H := Option.bind_eq_some_iff.mp H
 obtain ⟨⟨t237, t238, t239⟩, A30, H⟩ := H
 replace H : (if 0 ≤ t237 then (if t237 < (l1.length : Int) then (some (rd l1 t237, t238, t239)) else (none)) else (none)) = some (r1, r2, r3) := H
 have A3 := Aside0.mk A30
 clear A30
 by_cases c4 : 0 ≤ t237
 ·rw [if_pos c4] at H
  have c4b0 : decide (0 ≤ t237) = true := decide_eq_true c4
  clear c4
  by_cases c5 : t237 < (l1.length : Int)
  ·rw [if_pos c5] at H
   have c5b0 : decide (t237 < (l1.length : Int)) = true := decide_eq_true c5
   clear c5
   simp only [Option.some.injEq, Prod.mk.injEq] at H
   obtain ⟨rfl, rfl, rfl⟩ := H
   go_enter Try.func70, Try.ntmps70
   go_wp2_with (first | ((with_reducible refine gate_callee (f := 63) rfl ?_); refine goesL_ (some 9) rfl rfl Try.func63 (by kernel_rfl) rfl #[.pointer (some ⟨g, 0, none⟩), .int .i64 (l1.length : Int)] rfl argsB ?_; (with_reducible refine (spec_l1Cur_pick.calls g s0_0 s0_1 s0_2 (l1.length : Int) t237 t238 t239 w0 _ ?side1 ?side2 A3.out).mono ?_); (case side1 => repeat (first | (with_reducible first | exact HI0.out | apply IsS81.alloc | apply IsS81.drewN | apply IsS81.drew | apply IsS81.set_1 | apply IsS81.set_2) | exact HI0.out)); (case side2 => repeat (first | (with_reducible first | exact HB.out | apply below_alloc | apply pw_below_drewN | apply below_drew1 | refine below_set ?_ (IsS81.ge HI0.out)) | exact HB.out)); rintro e w6 ⟨rfl, hi, hb, hk⟩; refine ⟨_, rfl, ?_⟩; replace HK := Aside0.mk (KeepBut.trans (by repeat (first | (with_reducible first | exact HK.out | apply KeepBut.set_ | apply keep_drewN | apply keep_drew | apply keep_alloc) | exact HK.out)) hk (.inl rfl)); replace HB := Aside0.mk (hb); replace HI0 := Aside0.mk (hi); (try clear hb); (try clear hk); (try clear hi); have p240 : 0 ≤ (t237 : Int) := of_decide_eq_true asmB; have q240 : t237 < (l1.length : Int) := of_decide_eq_true asmB; obtain ⟨ad240, e240, hx240_0⟩ := Kd.at_int HR1.out t237 p240 q240; cases e240; replace hx240_0 := keep_cell HK.out hx240_0 (by first | (rw [add_block]; exact hf1 _ rfl (by omega)) | exact hf1 _ rfl (by omega) | exact hf1 ad240 rfl (by omega)); replace p240 := eq_true p240; replace q240 := eq_true q240))
   go_ret
   exact ⟨eB, by repeat (first | (with_reducible first | exact HI0.out | apply IsS81.alloc | apply IsS81.drewN | apply IsS81.drew | apply IsS81.set_1 | apply IsS81.set_2) | exact HI0.out), by repeat (first | (with_reducible first | exact HB.out | apply below_alloc | apply pw_below_drewN | apply below_drew1 | refine below_set ?_ (IsS81.ge HI0.out)) | exact HB.out), by repeat (first | (with_reducible first | exact HK.out | apply KeepBut.set_ | apply keep_drewN | apply keep_drew | apply keep_alloc) | exact HK.out)⟩
  ·rw [if_neg c5] at H
   exact absurd H (by simp)
 ·rw [if_neg c4] at H
  exact absurd H (by simp)

end Go.Proofs.Ytmeaacbnjpgepaa.QFnTrips
