/- Contracts of Go functions that FnLeadTrips reaches: the call computes what the plain function says. No condition. -/
import Derived.Test.YtldgjibimolcdaaQFnLeadTripsx0
import Derived.Test.YtldgjibimolcdaaQFnLeadTripsx8
namespace Go.Proofs.Ytldgjibimolcdaa.QFnLeadTrips
open Go.RowKit Go.Proofs.YtldgjibimolcdaaW.PrintWords Go.Proofs.YtldgjibimolcdaaW.PrintLast Go.Proofs.YtldgjibimolcdaaW.PrintMore
attribute [local go_sem] max2_int min2_int max_two min_two max_three min_three max_four min_four   -- for this text's walks alone
set_option linter.unusedVariables false
set_option linter.unusedSimpArgs false

/-! ### impl_Lead_76: function 76 -/
theorem goesV_ {P : Program} {Q : Exit → Act → World → Prop} {ops : Array Oper} {oi : Oper} {N : Option Tmp} {a : Act} {w : World} {K : Act → World → Prop} {f : FuncId} {fn : Func} {xs_ : Array Operand} {ts : Array TypeId} (x : Operand) (hf : P.funcs[f]? = some fn) (hname : (fn.name == "runtime.NumGoroutine") = false) (hb : fn.body.isSome = true) (args : Array Value)
  (hw : Region.wanted oi (yielded ops a.tmps) = true) (hN : oi.dst = N) (hop : oi.op = .call { callee := .value x, args := xs_, argTypes := ts }) (hx : a.eval x = .func (.func f) #[] #[]) (hargs : xs_.map a.eval = args)
  (h : Calls P f args w fun e w' => ∃ v, e = .returned v ∧ K (a.put N v) w') : if Region.wanted oi (yielded ops a.tmps) = true then Oper.wp P oi a w K Q else K (a.put N undef) w := by
 refine call_ f args hw hN ?_ h
 have he := enters_ hf hname hb args w
 unfold execOp
 simp [hop, resolve, Deferred.ofValue, invoke, hx, hargs, he]
mutual
def impl_Lead_76.l0 : Nat → List (S25) → Int → Int → Int → Option ((List (S25)))
 | 0, _, _, _, _ => none
 | k + 1, x0, x1, x2, x8 => if x8 < x2 then (impl_Lead_76.l1 k x0 x1 x2 x8 x8) else (some x0)
def impl_Lead_76.l1 : Nat → List (S25) → Int → Int → Int → Int → Option ((List (S25)))
 | 0, _, _, _, _, _ => none
 | k + 1, x0, x1, x2, x8, x9 => if x9 > x1 then (if 0 ≤ x9 then (if x9 < (x0.length : Int) then (if 0 ≤ (wrap64 (x9 - 1)) then (if (wrap64 (x9 - 1)) < (x0.length : Int) then ((impl_ranked_2.f ((rd_T25 x0 x9).f0) ((rd_T25 x0 x9).f1) ((rd_T25 x0 x9).f2) ((rd_T25 x0 x9).f3) ((rd_T25 x0 x9).f4) ((rd_T25 x0 (wrap64 (x9 - 1))).f0) ((rd_T25 x0 (wrap64 (x9 - 1))).f1) ((rd_T25 x0 (wrap64 (x9 - 1))).f2) ((rd_T25 x0 (wrap64 (x9 - 1))).f3) ((rd_T25 x0 (wrap64 (x9 - 1))).f4)).bind fun t219 => (if t219 < 0 then (impl_Lead_76.l1 k ((x0.set (x9 : Int).toNat (⟨(rd_T25 x0 (wrap64 (x9 - 1))).f0, (rd_T25 x0 (wrap64 (x9 - 1))).f1, (rd_T25 x0 (wrap64 (x9 - 1))).f2, (rd_T25 x0 (wrap64 (x9 - 1))).f3, (rd_T25 x0 (wrap64 (x9 - 1))).f4⟩ : S25)).set ((wrap64 (x9 - 1)) : Int).toNat (⟨(rd_T25 x0 x9).f0, (rd_T25 x0 x9).f1, (rd_T25 x0 x9).f2, (rd_T25 x0 x9).f3, (rd_T25 x0 x9).f4⟩ : S25)) x1 x2 x8 (wrap64 (x9 - 1))) else (impl_Lead_76.l0 k x0 x1 x2 (wrap64 (x8 + 1))))) else (none)) else (none)) else (none)) else (none)) else (impl_Lead_76.l0 k x0 x1 x2 (wrap64 (x8 + 1)))
end
def impl_Lead_76.f (k : Nat) (l0 : List (S25)) (a1 a2 a3 : Int) : Option ((List (S25))) := impl_Lead_76.l0 k l0 a1 a2 (wrap64 (a1 + 1))
theorem impl_Lead_76.mono_l : ∀ k, (∀ y0 y1 y2 y3, LeO (impl_Lead_76.l0 k y0 y1 y2 y3) (impl_Lead_76.l0 (k + 1) y0 y1 y2 y3)) ∧ (∀ y0 y1 y2 y3 y4, LeO (impl_Lead_76.l1 k y0 y1 y2 y3 y4) (impl_Lead_76.l1 (k + 1) y0 y1 y2 y3 y4))
 | 0 => ⟨fun _ _ _ _ r h => by simp [impl_Lead_76.l0] at h, fun _ _ _ _ _ r h => by simp [impl_Lead_76.l1] at h⟩
 | k + 1 => by
  obtain ⟨ih0, ih1⟩ := impl_Lead_76.mono_l k
  refine ⟨?_, ?_⟩
  ·intro y0 y1 y2 y3
   unfold impl_Lead_76.l0
   repeat' with_reducible first | apply ih0 | apply ih1 | exact LeO.refl _ | exact LeO.none _ | refine LeO.ite ?_ ?_ | refine LeO.bind ?_ (fun _ => ?_)
  ·intro y0 y1 y2 y3 y4
   unfold impl_Lead_76.l1
   repeat' with_reducible first | apply ih0 | apply ih1 | exact LeO.refl _ | exact LeO.none _ | refine LeO.ite ?_ ?_ | refine LeO.bind ?_ (fun _ => ?_)
theorem impl_Lead_76.mono : ∀ a0 a1 a2 a3 k, LeO (impl_Lead_76.f k a0 a1 a2 a3) (impl_Lead_76.f (k + 1) a0 a1 a2 a3) := by
 intro a0 a1 a2 a3 k
 obtain ⟨ih0, ih1⟩ := impl_Lead_76.mono_l k
 unfold impl_Lead_76.f
 repeat' with_reducible first | apply ih0 | apply ih1 | exact LeO.refl _ | exact LeO.none _ | refine LeO.ite ?_ ?_ | refine LeO.bind ?_ (fun _ => ?_)
def impl_Lead_76.T4 : Bool × List (List Nat × List Nat) := (true, [([], []), ([], []), ([0, 1], [0, 1]), ([2], [2]), ([3], [3]), ([3], [3]), ([3], [3]), ([5, 6, 3], [3, 5, 6]), ([7, 3], [3, 7]), ([3], [3]), ([3], [3]), ([10, 3], [3, 10]), ([9, 11, 3], [3, 9, 11]), ([12, 3], [3, 12]), ([4, 8, 13, 3, 3], [3, 4, 8, 13]), ([14, 3], [3, 14]), ([3, 15], [3, 15])])
def impl_Lead_76.B4 : List Nat := [0, 0, 3, 7, 15, 15, 15, 111, 239, 15, 15, 1039, 3599, 7695, 16383, 32767, 65535]
theorem impl_Lead_76.tab4 : rtab .any (opsOf Try.f76 4) = impl_Lead_76.T4 := by kernel_rfl
theorem impl_Lead_76.bits4 : waitsOk impl_Lead_76.T4.2 impl_Lead_76.B4 = true := by kernel_rfl
def impl_Lead_76.T6 : Bool × List (List Nat × List Nat) := (true, [([], []), ([], []), ([], []), ([], []), ([3], [3]), ([], []), ([], []), ([6], [6]), ([5, 7], [5, 7]), ([8], [8]), ([], []), ([], []), ([10, 11], [10, 11]), ([12], [12]), ([0, 1, 0, 1, 5, 6, 7, 8, 9, 13], [0, 1]), ([14, 9, 0, 1, 5, 6, 7, 8, 9, 13], [9, 14]), ([2, 4, 0, 1, 2, 3, 4, 5, 6, 7, 8, 9, 10, 11, 12, 13, 14, 15], [2, 4]), ([16, 13, 15, 0, 1, 2, 3, 4, 5, 6, 7, 8, 9, 10, 11, 12, 13, 14, 15], [13, 16])])
def impl_Lead_76.B6 : List Nat := [0, 0, 0, 0, 8, 0, 0, 64, 224, 480, 0, 0, 3072, 7168, 16355, 32739, 65535, 131071]
theorem impl_Lead_76.tab6 : rtab .any (opsOf Try.f76 6) = impl_Lead_76.T6 := by kernel_rfl
theorem impl_Lead_76.bits6 : waitsOk impl_Lead_76.T6.2 impl_Lead_76.B6 = true := by kernel_rfl
set_option maxHeartbeats 8000000 in
set_option maxRecDepth 100000 in
theorem impl_Lead_76.calls (k : Nat) (P0_ : Nat → Prop) (u9000_ : Value) (l0 : List (S25)) (a1 a2 a3 : Int) (r : List (S25)) (w0 w : World) (hB : Below w0.heap.size w0 w) (ho0 : Kd.R k25 25 w w0.heap.size P0_ u9000_ l0) (h : impl_Lead_76.f k l0 a1 a2 a3 = some r) :
  Calls Try.prog 76 #[u9000_, .int .i64 a1, .int .i64 a2, .func (.func 69) #[] #[]] w fun e w' => e = .returned (.tuple #[]) ∧ Kd.R k25 25 w' w0.heap.size (fun k_ => (P0_ k_ ∨ w.heap.size ≤ k_)) u9000_ r ∧ Below w0.heap.size w0 w' ∧ Kept w w' (fun k_ => P0_ k_) := by
 have hu25 := Try.underlying25
 have HO0 := Aside0.mk (show Kd.R k25 25 w w0.heap.size (fun k_ => (P0_ k_ ∨ w.heap.size ≤ k_)) u9000_ l0 from Kd.R_mono ho0 (fun k_ hk => (.inl hk)))
 have HK := Aside0.mk (Kept.refl w (fun k_ => P0_ k_))
 have HW0 := Aside0.mk hB.size
 have HB := Aside0.mk hB
 clear hB
 have H : (impl_Lead_76.l0 k l0 a1 a2 (wrap64 (a1 + 1))) = some r := h
 clear h
 have H' := Aside0.mk H
 clear H
 go_enter Try.func76, Try.ntmps76
 go_wp2
 go_loopg [8] k (fun kq v8 w' => ∃ (x0_1 : List (S25)) (x8_1 : Int), v8 = .int .i64 x8_1 ∧ Aside0 (impl_Lead_76.l0 kq x0_1 a1 a2 x8_1 = some r) ∧ Aside0 (kq ≤ k) ∧ Aside0 (Kd.R k25 25 w' w0.heap.size (fun k_ => (P0_ k_ ∨ w.heap.size ≤ k_)) u9000_ x0_1) ∧ Aside0 (Kept w w' (fun k_ => P0_ k_)) ∧ Aside0 (Below w0.heap.size w0 w'))
 case atStart => exact ⟨(l0), (wrap64 (a1 + 1)), rB, H', ⟨Nat.le_refl _⟩, ⟨upR HO0.out⟩, ⟨by repeat (first | (with_reducible first | exact HK.out | apply Kept.alloc | apply Kept.drewN | apply Kept.drew) | exact HK.out)⟩, (aB HB)⟩
 case round =>
  clear H'
  obtain ⟨x0_1, x8_1, rfl, HA, HK1, HO_0, HK, HB⟩ := hrel
  cases gk with
  | zero => exact absurd HA.out (by simp [impl_Lead_76.l0])
  | succ k1 =>
   have H := HA.out
   clear HA
   simp only [impl_Lead_76.l0] at H
   replace H := ifD H
   rcases H with ⟨H, -, c5b0⟩ | ⟨H, -, c5b0⟩
   ·have H' := Aside0.mk H
    clear H
    go_wp2
    go_loopg [9] k1 (fun kq v9 w' => ∃ (x0_2 : List (S25)) (x9_2 : Int), v9 = .int .i64 x9_2 ∧ Aside0 (impl_Lead_76.l1 kq x0_2 a1 a2 x8_1 x9_2 = some r) ∧ Aside0 (kq ≤ k1) ∧ Aside0 (Kd.R k25 25 w' w0.heap.size (fun k_ => (P0_ k_ ∨ w.heap.size ≤ k_)) u9000_ x0_2) ∧ Aside0 (Kept w w' (fun k_ => P0_ k_)) ∧ Aside0 (Below w0.heap.size w0 w'))
    case atStart => exact ⟨(x0_1), (x8_1), rB, H', ⟨Nat.le_refl _⟩, ⟨upR HO_0.out⟩, ⟨by repeat (first | (with_reducible first | exact HK.out | apply Kept.alloc | apply Kept.drewN | apply Kept.drew) | exact HK.out)⟩, (aB HB)⟩
    case round =>
     clear H'
     try clear c5b0
     obtain ⟨x0_2, x9_2, rfl, HA, HK2, HO_0, HK, HB⟩ := hrel
     cases gk with
     | zero => exact absurd HA.out (by simp [impl_Lead_76.l1])
     | succ k2 =>
      have H := HA.out
      clear HA
      simp only [impl_Lead_76.l1] at H
      replace H := ifD H
      rcases H with ⟨H, -, c6b0⟩ | ⟨H, -, c6b0⟩
      ·by_cases c7 : 0 ≤ x9_2
       ·rw [if_pos c7] at H
        have c7b0 : decide (0 ≤ x9_2) = true := decide_eq_true c7
        clear c7
        by_cases c8 : x9_2 < (x0_2.length : Int)
        ·rw [if_pos c8] at H
         have c8b0 : decide (x9_2 < (x0_2.length : Int)) = true := decide_eq_true c8
         clear c8
         obtain ⟨ji9, hji9⟩ : ∃ j_ : Int, (wrap64 (x9_2 - 1)) = j_ := ⟨_, rfl⟩
         replace H : (if 0 ≤ (ji9) then (if (ji9) < (x0_2.length : Int) then ((impl_ranked_2.f ((rd_T25 x0_2 x9_2).f0) ((rd_T25 x0_2 x9_2).f1) ((rd_T25 x0_2 x9_2).f2) ((rd_T25 x0_2 x9_2).f3) ((rd_T25 x0_2 x9_2).f4) ((rd_T25 x0_2 (ji9)).f0) ((rd_T25 x0_2 (ji9)).f1) ((rd_T25 x0_2 (ji9)).f2) ((rd_T25 x0_2 (ji9)).f3) ((rd_T25 x0_2 (ji9)).f4)).bind fun t219 => (if t219 < 0 then (impl_Lead_76.l1 k2 ((x0_2.set (x9_2 : Int).toNat (⟨(rd_T25 x0_2 (ji9)).f0, (rd_T25 x0_2 (ji9)).f1, (rd_T25 x0_2 (ji9)).f2, (rd_T25 x0_2 (ji9)).f3, (rd_T25 x0_2 (ji9)).f4⟩ : S25)).set ((ji9) : Int).toNat (⟨(rd_T25 x0_2 x9_2).f0, (rd_T25 x0_2 x9_2).f1, (rd_T25 x0_2 x9_2).f2, (rd_T25 x0_2 x9_2).f3, (rd_T25 x0_2 x9_2).f4⟩ : S25)) a1 a2 x8_1 ji9) else (impl_Lead_76.l0 k2 x0_2 a1 a2 (wrap64 (x8_1 + 1))))) else (none)) else (none)) = some r := by first | (rw [hji9] at H; exact H) | (simp only [hji9] at H ⊢; exact H)
         have hji9w : (IntKind.i64.wrap (x9_2 - 1)) = ji9 := (i64_w _).trans hji9
         by_cases c10 : 0 ≤ (ji9)
         ·rw [if_pos c10] at H
          have c10b0 : decide (0 ≤ (ji9)) = true := decide_eq_true c10
          clear c10
          by_cases c11 : (ji9) < (x0_2.length : Int)
          ·rw [if_pos c11] at H
           have c11b0 : decide ((ji9) < (x0_2.length : Int)) = true := decide_eq_true c11
           clear c11
           replace H := bA H
           obtain ⟨t219, A12, H⟩ := H
           replace H := ifD H
           rcases H with ⟨H, -, c13b0⟩ | ⟨H, -, c13b0⟩
           ·obtain ⟨y222, hy222⟩ : ∃ y_ : List (S25), y_ = (x0_2.set (x9_2 : Int).toNat (⟨(rd_T25 x0_2 (ji9)).f0, (rd_T25 x0_2 (ji9)).f1, (rd_T25 x0_2 (ji9)).f2, (rd_T25 x0_2 (ji9)).f3, (rd_T25 x0_2 (ji9)).f4⟩ : S25)) := ⟨_, rfl⟩
            replace H : (impl_Lead_76.l1 k2 (y222.set ((ji9) : Int).toNat (⟨(rd_T25 x0_2 x9_2).f0, (rd_T25 x0_2 x9_2).f1, (rd_T25 x0_2 x9_2).f2, (rd_T25 x0_2 x9_2).f3, (rd_T25 x0_2 x9_2).f4⟩ : S25)) a1 a2 x8_1 ji9) = some r := by first | (rw [hy222]; with_reducible exact H) | (have H2_ := (Option.bind_some _ _).symm.trans H; rw [hy222]; with_reducible exact H2_) | (have H2_ := (Option.bind_some _ _).symm.trans H; with_reducible exact H2_) | with_reducible exact H | (rw [hy222]; exact H) | exact H
            have Ny222 := Aside0.mk hy222
            clear hy222
            obtain ⟨y223, hy223⟩ : ∃ y_ : List (S25), y_ = (y222.set ((ji9) : Int).toNat (⟨(rd_T25 x0_2 x9_2).f0, (rd_T25 x0_2 x9_2).f1, (rd_T25 x0_2 x9_2).f2, (rd_T25 x0_2 x9_2).f3, (rd_T25 x0_2 x9_2).f4⟩ : S25)) := ⟨_, rfl⟩
            replace H : (impl_Lead_76.l1 k2 y223 a1 a2 x8_1 ji9) = some r := by first | (rw [hy223]; with_reducible exact H) | (have H2_ := (Option.bind_some _ _).symm.trans H; rw [hy223]; with_reducible exact H2_) | (have H2_ := (Option.bind_some _ _).symm.trans H; with_reducible exact H2_) | with_reducible exact H | (rw [hy223]; exact H) | exact H
            have Ny223 := Aside0.mk hy223
            clear hy223
            have H' := Aside0.mk H
            clear H
            try go_wp2
            replace HO_0 := Aside0.mk (Kd.R_drew HO_0.out)
            replace HK := Aside0.mk (Kept.drew HK.out)
            replace HB := Aside0.mk (below_drew1 HB.out)
            obtain ⟨Ao17, co17, eo17⟩ := Kd.R_slice HO_0.out
            (first | subst eo17 | (injection eo17 with f1_ f2_ f3_; have f4_ := f1_.symm; have f5_ := f3_.symm; clear f1_ f2_ f3_; subst f4_; subst f5_))
            have p217 : 0 ≤ (x9_2 : Int) := of_decide_eq_true asmB
            have q217 : x9_2 < (x0_2.length : Int) := of_decide_eq_true asmB
            obtain ⟨ad217, e217, hx217_0, hx217_1, hx217_2, hx217_3, hx217_4⟩ := at_T25 (Kd.R_reads' HO_0.out).2.2 x9_2 p217 q217
            cases e217
            replace p217 := eq_true p217
            replace q217 := eq_true q217
            have p218 : 0 ≤ ((ji9) : Int) := of_decide_eq_true asmB
            have q218 : (ji9) < (x0_2.length : Int) := of_decide_eq_true asmB
            obtain ⟨ad218, e218, hx218_0, hx218_1, hx218_2, hx218_3, hx218_4⟩ := at_T25 (Kd.R_reads' HO_0.out).2.2 (ji9) p218 q218
            obtain rfl : ad217 = ad218 := (by injection e218)
            replace p218 := eq_true p218
            replace q218 := eq_true q218
            refine sA (n := 17) (S := fun w' => w'.cell? (ad217.add ((x9_2).toNat * 5)) = some (.int .i64 ((rd_T25 x0_2 x9_2).f0)) ∧ w'.cell? ⟨(ad217.add ((x9_2).toNat * 5)).block, (ad217.add ((x9_2).toNat * 5)).off + 1, none⟩ = some (.int .i64 ((rd_T25 x0_2 x9_2).f1)) ∧ w'.cell? ⟨(ad217.add ((x9_2).toNat * 5)).block, (ad217.add ((x9_2).toNat * 5)).off + 2, none⟩ = some (.int .i64 ((rd_T25 x0_2 x9_2).f2)) ∧ w'.cell? ⟨(ad217.add ((x9_2).toNat * 5)).block, (ad217.add ((x9_2).toNat * 5)).off + 3, none⟩ = some (.int .i64 ((rd_T25 x0_2 x9_2).f3)) ∧ w'.cell? ⟨(ad217.add ((x9_2).toNat * 5)).block, (ad217.add ((x9_2).toNat * 5)).off + 4, none⟩ = some (.int .i64 ((rd_T25 x0_2 x9_2).f4)) ∧ w'.cell? (ad217.add (((ji9)).toNat * 5)) = some (.int .i64 ((rd_T25 x0_2 (ji9)).f0)) ∧ w'.cell? ⟨(ad217.add (((ji9)).toNat * 5)).block, (ad217.add (((ji9)).toNat * 5)).off + 1, none⟩ = some (.int .i64 ((rd_T25 x0_2 (ji9)).f1)) ∧ w'.cell? ⟨(ad217.add (((ji9)).toNat * 5)).block, (ad217.add (((ji9)).toNat * 5)).off + 2, none⟩ = some (.int .i64 ((rd_T25 x0_2 (ji9)).f2)) ∧ w'.cell? ⟨(ad217.add (((ji9)).toNat * 5)).block, (ad217.add (((ji9)).toNat * 5)).off + 3, none⟩ = some (.int .i64 ((rd_T25 x0_2 (ji9)).f3)) ∧ w'.cell? ⟨(ad217.add (((ji9)).toNat * 5)).block, (ad217.add (((ji9)).toNat * 5)).off + 4, none⟩ = some (.int .i64 ((rd_T25 x0_2 (ji9)).f4))) (ds := []) impl_Lead_76.tab4 impl_Lead_76.bits4 #[false, false, false, false, false, false, false, false, false, false, false, false, false, false, false, false, false] ⟨hx217_0, hx217_1, hx217_2, hx217_3, hx217_4, hx218_0, hx218_1, hx218_2, hx218_3, hx218_4⟩ fun hHeld HT_ HW_ => ?_
            generalize wr.drew = w16 at HO_0 HK HB hx217_0 hx217_1 hx217_2 hx217_3 hx217_4 hx218_0 hx218_1 hx218_2 hx218_3 hx218_4 hHeld ⊢
            refine pA 0 18 HT_ ?_
            refine pA 1 19 HT_ ?_
            refine pA 2 20 HT_ ?_
            refine pA 3 21 HT_ ?_
            refine pA 4 22 HT_ ?_
            refine pA 5 23 HT_ ?_
            refine pA 6 24 HT_ ?_
            refine pA 7 25 HT_ ?_
            refine pA 9 27 HT_ ?_
            refine pA 10 28 HT_ ?_
            refine pA 11 29 HT_ ?_
            refine pA 12 30 HT_ ?_
            refine tA 8 26 HT_ HW_ hHeld ?_
            refine tA 13 31 HT_ HW_ hHeld ?_
            refine oA 14 (some 32) HT_ fun K hK => ?_
            refine goesV_ (f := 69) (.tmp 22) Try.func69 (by kernel_rfl) rfl #[.agg #[.int .i64 ((rd_T25 x0_2 x9_2).f0), .int .i64 ((rd_T25 x0_2 x9_2).f1), .int .i64 ((rd_T25 x0_2 x9_2).f2), .int .i64 ((rd_T25 x0_2 x9_2).f3), .int .i64 ((rd_T25 x0_2 x9_2).f4)], .agg #[.int .i64 ((rd_T25 x0_2 (ji9)).f0), .int .i64 ((rd_T25 x0_2 (ji9)).f1), .int .i64 ((rd_T25 x0_2 (ji9)).f2), .int .i64 ((rd_T25 x0_2 (ji9)).f3), .int .i64 ((rd_T25 x0_2 (ji9)).f4)]] (by rfl) rfl rfl (by first | rfl | simp [Act.eval]) (by (try simp only [List.map_toArray, List.map_cons, List.map_nil]); first | done | (simp only [hji9]; rfl) | rfl | (simp only [List.length_drop, List.length_take]; rfl)) ?_
            with_reducible refine (impl_ranked_2.calls ((rd_T25 x0_2 x9_2).f0) ((rd_T25 x0_2 x9_2).f1) ((rd_T25 x0_2 x9_2).f2) ((rd_T25 x0_2 x9_2).f3) ((rd_T25 x0_2 x9_2).f4) ((rd_T25 x0_2 (ji9)).f0) ((rd_T25 x0_2 (ji9)).f1) ((rd_T25 x0_2 (ji9)).f2) ((rd_T25 x0_2 (ji9)).f3) ((rd_T25 x0_2 (ji9)).f4) t219 _ A12.out).mono ?_
            rintro e w18 ⟨rfl, hb⟩
            have HS0_ := (hb.cell (World.block_lt_of_cell? _ _ (hHeld.1))).trans (hHeld.1)
            have HS1_ := (hb.cell (World.block_lt_of_cell? _ _ (hHeld.2.1))).trans (hHeld.2.1)
            have HS2_ := (hb.cell (World.block_lt_of_cell? _ _ (hHeld.2.2.1))).trans (hHeld.2.2.1)
            have HS3_ := (hb.cell (World.block_lt_of_cell? _ _ (hHeld.2.2.2.1))).trans (hHeld.2.2.2.1)
            have HS4_ := (hb.cell (World.block_lt_of_cell? _ _ (hHeld.2.2.2.2.1))).trans (hHeld.2.2.2.2.1)
            have HS5_ := (hb.cell (World.block_lt_of_cell? _ _ (hHeld.2.2.2.2.2.1))).trans (hHeld.2.2.2.2.2.1)
            have HS6_ := (hb.cell (World.block_lt_of_cell? _ _ (hHeld.2.2.2.2.2.2.1))).trans (hHeld.2.2.2.2.2.2.1)
            have HS7_ := (hb.cell (World.block_lt_of_cell? _ _ (hHeld.2.2.2.2.2.2.2.1))).trans (hHeld.2.2.2.2.2.2.2.1)
            have HS8_ := (hb.cell (World.block_lt_of_cell? _ _ (hHeld.2.2.2.2.2.2.2.2.1))).trans (hHeld.2.2.2.2.2.2.2.2.1)
            have HS9_ := (hb.cell (World.block_lt_of_cell? _ _ (hHeld.2.2.2.2.2.2.2.2.2))).trans (hHeld.2.2.2.2.2.2.2.2.2)
            refine ⟨_, rfl, ?_⟩
            replace HO_0 := uR HO_0 hb
            replace HK := Aside0.mk (Kept.below (S := (fun k_ => P0_ k_)) (by repeat (first | (with_reducible first | exact HK.out | apply Kept.alloc | apply Kept.drewN | apply Kept.drew) | exact HK.out)) hb)
            replace HB := uB HB hb
            (try clear hb)
            (try clear hk)
            refine hK.out _ _ ⟨HS0_, HS1_, HS2_, HS3_, HS4_, HS5_, HS6_, HS7_, HS8_, HS9_⟩ (fun hHeld => ?_)
            clear hK K
            refine nA ?_ (some 32)
            refine pA 15 33 HT_ ?_
            refine pA 16 34 HT_ ?_
            refine done_ (done_of HT_.out (by kernel_rfl)) ?_
            try go_wp2
            replace HO_0 := Aside0.mk (Kd.R_drew HO_0.out)
            replace HK := Aside0.mk (Kept.drew HK.out)
            replace HB := Aside0.mk (below_drew1 HB.out)
            have p220 : 0 ≤ ((ji9) : Int) := of_decide_eq_true asmB
            have q220 : (ji9) < (x0_2.length : Int) := of_decide_eq_true asmB
            obtain ⟨ad220, e220, hx220_0, hx220_1, hx220_2, hx220_3, hx220_4⟩ := at_T25 (Kd.R_reads' HO_0.out).2.2 (ji9) p220 q220
            obtain rfl : ad217 = ad220 := (by injection e220)
            replace p220 := eq_true p220
            replace q220 := eq_true q220
            have p221 : 0 ≤ (x9_2 : Int) := of_decide_eq_true asmB
            have q221 : x9_2 < (x0_2.length : Int) := of_decide_eq_true asmB
            obtain ⟨ad221, e221, hx221_0, hx221_1, hx221_2, hx221_3, hx221_4⟩ := at_T25 (Kd.R_reads' HO_0.out).2.2 x9_2 p221 q221
            obtain rfl : ad217 = ad221 := (by injection e221)
            replace p221 := eq_true p221
            replace q221 := eq_true q221
            have p14 : 0 ≤ (x9_2 : Int) := of_decide_eq_true asmB
            have q14 : (x9_2 : Int) < ((x0_2.length : Int) : Int) := of_decide_eq_true asmB
            obtain ⟨go14, co14, eo14, gb14, gl14, cl14, HG14⟩ := Kd.R_form HO_0.out (by omega)
            (first | cases eo14 | (injection eo14 with ea_ en_ ec_; (first | subst ea_ | (injection ea_ with ea_; subst ea_)); subst ec_; clear en_))
            have GB14 := Aside0.mk gb14
            have GG14 := Aside0.mk HG14
            clear gb14 gl14 HG14
            have HMgo14 := Aside0.mk (show (P0_ go14 ∨ w.heap.size ≤ go14) from (HO_0.out.1 _ rfl))
            (first | simp only [add_plain] at hx217_0 | skip)
            (first | simp only [add_plain] at hx217_1 | skip)
            (first | simp only [add_plain] at hx217_2 | skip)
            (first | simp only [add_plain] at hx217_3 | skip)
            (first | simp only [add_plain] at hx217_4 | skip)
            (first | simp only [add_plain] at hx218_0 | skip)
            (first | simp only [add_plain] at hx218_1 | skip)
            (first | simp only [add_plain] at hx218_2 | skip)
            (first | simp only [add_plain] at hx218_3 | skip)
            (first | simp only [add_plain] at hx218_4 | skip)
            (first | simp only [add_plain] at hx220_0 | skip)
            (first | simp only [add_plain] at hx220_1 | skip)
            (first | simp only [add_plain] at hx220_2 | skip)
            (first | simp only [add_plain] at hx220_3 | skip)
            (first | simp only [add_plain] at hx220_4 | skip)
            (first | simp only [add_plain] at hx221_0 | skip)
            (first | simp only [add_plain] at hx221_1 | skip)
            (first | simp only [add_plain] at hx221_2 | skip)
            (first | simp only [add_plain] at hx221_3 | skip)
            (first | simp only [add_plain] at hx221_4 | skip)
            obtain ⟨ce14, hcl14, hM14, hcc14, hfr14⟩ := Kd.R_elem HO_0.out z25 (x9_2 : Int) p14 q14
            obtain rfl := k25_openM hM14
            have hx14_0 : World.cell? _ ⟨go14, (x9_2 : Int).toNat * 5, none⟩ = some (.int .i64 ((rd_T25 x0_2 x9_2).f0)) := hcc14 0 _ rfl
            have hx14_1 : World.cell? _ ⟨go14, (x9_2 : Int).toNat * 5 + 1, none⟩ = some (.int .i64 ((rd_T25 x0_2 x9_2).f1)) := hcc14 1 _ rfl
            have hx14_2 : World.cell? _ ⟨go14, (x9_2 : Int).toNat * 5 + 2, none⟩ = some (.int .i64 ((rd_T25 x0_2 x9_2).f2)) := hcc14 2 _ rfl
            have hx14_3 : World.cell? _ ⟨go14, (x9_2 : Int).toNat * 5 + 3, none⟩ = some (.int .i64 ((rd_T25 x0_2 x9_2).f3)) := hcc14 3 _ rfl
            have hx14_4 : World.cell? _ ⟨go14, (x9_2 : Int).toNat * 5 + 4, none⟩ = some (.int .i64 ((rd_T25 x0_2 x9_2).f4)) := hcc14 4 _ rfl
            have hf14_0 : World.frozen? _ ⟨go14, (x9_2 : Int).toNat * 5, none⟩ = false := hfr14 0
            have hf14_1 : World.frozen? _ ⟨go14, (x9_2 : Int).toNat * 5 + 1, none⟩ = false := hfr14 1
            have hf14_2 : World.frozen? _ ⟨go14, (x9_2 : Int).toNat * 5 + 2, none⟩ = false := hfr14 2
            have hf14_3 : World.frozen? _ ⟨go14, (x9_2 : Int).toNat * 5 + 3, none⟩ = false := hfr14 3
            have hf14_4 : World.frozen? _ ⟨go14, (x9_2 : Int).toNat * 5 + 4, none⟩ = false := hfr14 4
            clear hcl14 hcc14 hfr14 hM14
            replace p14 := eq_true p14
            replace q14 := eq_true q14
            obtain ⟨ce20, hcl20, hM20, hcc20, hfr20⟩ := Kd.R_elem HO_0.out z25 (x9_2 : Int) (of_decide_eq_true asmB) (by have h_ : (x9_2 : Int) < ((x0_2.length : Int) : Int) := of_decide_eq_true asmB; first | exact h_ | (have e_ := (Kd.R_reads' HO_0.out).1; omega) | simpa using h_)
            obtain rfl := k25_openM hM20
            have HP20 := (Kd.R_seg HO_0.out (x9_2 : Int) (of_decide_eq_true asmB) (by have h_ : (x9_2 : Int) < ((x0_2.length : Int) : Int) := of_decide_eq_true asmB; first | exact h_ | (have e_ := (Kd.R_reads' HO_0.out).1; omega) | simpa using h_) (seg := [.int .i64 ((rd_T25 x0_2 (ji9)).f0), .int .i64 ((rd_T25 x0_2 (ji9)).f1), .int .i64 ((rd_T25 x0_2 (ji9)).f2), .int .i64 ((rd_T25 x0_2 (ji9)).f3), .int .i64 ((rd_T25 x0_2 (ji9)).f4)]) (j := 0) hcl20 hcc20 (show 5 ≤ 5 from by decide) (x' := (⟨(rd_T25 x0_2 (ji9)).f0, (rd_T25 x0_2 (ji9)).f1, (rd_T25 x0_2 (ji9)).f2, (rd_T25 x0_2 (ji9)).f3, (rd_T25 x0_2 (ji9)).f4⟩ : S25)) (k25_mkM _ _ _ (⟨(rd_T25 x0_2 (ji9)).f0, (rd_T25 x0_2 (ji9)).f1, (rd_T25 x0_2 (ji9)).f2, (rd_T25 x0_2 (ji9)).f3, (rd_T25 x0_2 (ji9)).f4⟩ : S25) ) (fun _ hk => hk)).1
            rw [← Ny222.out] at HP20
            have HQ20 := Aside0.mk HP20
            clear hcl20 hcc20 hfr20 hM20 HP20
            have p15 : 0 ≤ ((ji9) : Int) := of_decide_eq_true asmB
            have q15 : ((ji9) : Int) < ((x0_2.length : Int) : Int) := of_decide_eq_true asmB
            obtain ⟨ce15, hcl15, hM15, hcc15, hfr15⟩ := Kd.R_elem HQ20.out z25 ((ji9) : Int) p15 q15
            obtain rfl := k25_openM hM15
            have hx15_0 : World.cell? _ ⟨go14, ((ji9) : Int).toNat * 5, none⟩ = some (.int .i64 ((rd_T25 y222 (ji9)).f0)) := hcc15 0 _ rfl
            have hx15_1 : World.cell? _ ⟨go14, ((ji9) : Int).toNat * 5 + 1, none⟩ = some (.int .i64 ((rd_T25 y222 (ji9)).f1)) := hcc15 1 _ rfl
            have hx15_2 : World.cell? _ ⟨go14, ((ji9) : Int).toNat * 5 + 2, none⟩ = some (.int .i64 ((rd_T25 y222 (ji9)).f2)) := hcc15 2 _ rfl
            have hx15_3 : World.cell? _ ⟨go14, ((ji9) : Int).toNat * 5 + 3, none⟩ = some (.int .i64 ((rd_T25 y222 (ji9)).f3)) := hcc15 3 _ rfl
            have hx15_4 : World.cell? _ ⟨go14, ((ji9) : Int).toNat * 5 + 4, none⟩ = some (.int .i64 ((rd_T25 y222 (ji9)).f4)) := hcc15 4 _ rfl
            have hf15_0 : World.frozen? _ ⟨go14, ((ji9) : Int).toNat * 5, none⟩ = false := hfr15 0
            have hf15_1 : World.frozen? _ ⟨go14, ((ji9) : Int).toNat * 5 + 1, none⟩ = false := hfr15 1
            have hf15_2 : World.frozen? _ ⟨go14, ((ji9) : Int).toNat * 5 + 2, none⟩ = false := hfr15 2
            have hf15_3 : World.frozen? _ ⟨go14, ((ji9) : Int).toNat * 5 + 3, none⟩ = false := hfr15 3
            have hf15_4 : World.frozen? _ ⟨go14, ((ji9) : Int).toNat * 5 + 4, none⟩ = false := hfr15 4
            clear hcl15 hcc15 hfr15 hM15
            replace p15 := eq_true p15
            replace q15 := eq_true q15
            obtain ⟨ce21, hcl21, hM21, hcc21, hfr21⟩ := Kd.R_elem HQ20.out z25 ((ji9) : Int) (of_decide_eq_true asmB) (by have h_ : ((ji9) : Int) < ((x0_2.length : Int) : Int) := of_decide_eq_true asmB; first | exact h_ | (have e_ := (Kd.R_reads' HO_0.out).1; omega) | simpa using h_)
            obtain rfl := k25_openM hM21
            have HP21 := (Kd.R_seg HQ20.out ((ji9) : Int) (of_decide_eq_true asmB) (by have h_ : ((ji9) : Int) < ((x0_2.length : Int) : Int) := of_decide_eq_true asmB; first | exact h_ | (have e_ := (Kd.R_reads' HO_0.out).1; omega) | simpa using h_) (seg := [.int .i64 ((rd_T25 x0_2 x9_2).f0), .int .i64 ((rd_T25 x0_2 x9_2).f1), .int .i64 ((rd_T25 x0_2 x9_2).f2), .int .i64 ((rd_T25 x0_2 x9_2).f3), .int .i64 ((rd_T25 x0_2 x9_2).f4)]) (j := 0) hcl21 hcc21 (show 5 ≤ 5 from by decide) (x' := (⟨(rd_T25 x0_2 x9_2).f0, (rd_T25 x0_2 x9_2).f1, (rd_T25 x0_2 x9_2).f2, (rd_T25 x0_2 x9_2).f3, (rd_T25 x0_2 x9_2).f4⟩ : S25)) (k25_mkM _ _ _ (⟨(rd_T25 x0_2 x9_2).f0, (rd_T25 x0_2 x9_2).f1, (rd_T25 x0_2 x9_2).f2, (rd_T25 x0_2 x9_2).f3, (rd_T25 x0_2 x9_2).f4⟩ : S25) ) (fun _ hk => hk)).1
            rw [← Ny223.out] at HP21
            have HQ21 := Aside0.mk HP21
            clear hcl21 hcc21 hfr21 hM21 HP21
            refine sA (n := 18) (S := fun w' => w'.cell? ⟨go14, (((ji9)).toNat * 5), none⟩ = some (.int .i64 ((rd_T25 x0_2 (ji9)).f0)) ∧ w'.cell? ⟨go14, (((ji9)).toNat * 5) + 1, none⟩ = some (.int .i64 ((rd_T25 x0_2 (ji9)).f1)) ∧ w'.cell? ⟨go14, (((ji9)).toNat * 5) + 2, none⟩ = some (.int .i64 ((rd_T25 x0_2 (ji9)).f2)) ∧ w'.cell? ⟨go14, (((ji9)).toNat * 5) + 3, none⟩ = some (.int .i64 ((rd_T25 x0_2 (ji9)).f3)) ∧ w'.cell? ⟨go14, (((ji9)).toNat * 5) + 4, none⟩ = some (.int .i64 ((rd_T25 x0_2 (ji9)).f4)) ∧ w'.cell? ⟨go14, ((x9_2).toNat * 5), none⟩ = some (.int .i64 ((rd_T25 x0_2 x9_2).f0)) ∧ w'.cell? ⟨go14, ((x9_2).toNat * 5) + 1, none⟩ = some (.int .i64 ((rd_T25 x0_2 x9_2).f1)) ∧ w'.cell? ⟨go14, ((x9_2).toNat * 5) + 2, none⟩ = some (.int .i64 ((rd_T25 x0_2 x9_2).f2)) ∧ w'.cell? ⟨go14, ((x9_2).toNat * 5) + 3, none⟩ = some (.int .i64 ((rd_T25 x0_2 x9_2).f3)) ∧ w'.cell? ⟨go14, ((x9_2).toNat * 5) + 4, none⟩ = some (.int .i64 ((rd_T25 x0_2 x9_2).f4))) (ds := [15, 17]) impl_Lead_76.tab6 impl_Lead_76.bits6 #[false, false, false, false, false, false, false, false, false, false, false, false, false, false, false, false, false, false] ⟨hx220_0, hx220_1, hx220_2, hx220_3, hx220_4, hx221_0, hx221_1, hx221_2, hx221_3, hx221_4⟩ fun hHeld HT_ HW_ => ?_
            generalize w18.drew = w19 at HO_0 HK HB GG14 HQ20 HQ21 hf14_0 hf14_1 hf14_2 hf14_3 hf14_4 hf15_0 hf15_1 hf15_2 hf15_3 hf15_4 hx14_0 hx14_1 hx14_2 hx14_3 hx14_4 hx15_0 hx15_1 hx15_2 hx15_3 hx15_4 hx217_0 hx217_1 hx217_2 hx217_3 hx217_4 hx218_0 hx218_1 hx218_2 hx218_3 hx218_4 hx220_0 hx220_1 hx220_2 hx220_3 hx220_4 hx221_0 hx221_1 hx221_2 hx221_3 hx221_4 hHeld ⊢
            refine pA 0 37 HT_ ?_
            refine pA 1 38 HT_ ?_
            refine pA 2 39 HT_ ?_
            refine pA 3 40 HT_ ?_
            refine pA 4 41 HT_ ?_
            refine pA 5 42 HT_ ?_
            refine pA 6 43 HT_ ?_
            refine pA 7 44 HT_ ?_
            refine pA 8 45 HT_ ?_
            refine pA 10 47 HT_ ?_
            refine pA 11 48 HT_ ?_
            refine pA 12 49 HT_ ?_
            refine tA 9 46 HT_ HW_ hHeld ?_
            refine tA 13 50 HT_ HW_ hHeld ?_
            refine pA 14 51 HT_ ?_
            refine last_ (i := 15) (N := none) #[true, true, true, true, true, true, true, true, true, true, true, true, true, true, true, true, false, false] rfl rfl (one_of HT_.out (by kernel_rfl)) (by decide) (fun K hK => ?_)
            refine skip_ (w1 := ?_) (by rfl) rfl ?_ ?_
            rotate_left
            ·go_simp
             rfl
            refine hK.out _ _ ?_
            clear hK K
            refine pA 16 52 HT_ ?_
            replace hx15_0 : World.cell? (((((w19.setCell ⟨go14, (x9_2 : Int).toNat * 5, none⟩ (.int .i64 ((rd_T25 x0_2 (ji9)).f0))).setCell ⟨go14, (x9_2 : Int).toNat * 5 + 1, none⟩ (.int .i64 ((rd_T25 x0_2 (ji9)).f1))).setCell ⟨go14, (x9_2 : Int).toNat * 5 + 2, none⟩ (.int .i64 ((rd_T25 x0_2 (ji9)).f2))).setCell ⟨go14, (x9_2 : Int).toNat * 5 + 3, none⟩ (.int .i64 ((rd_T25 x0_2 (ji9)).f3))).setCell ⟨go14, (x9_2 : Int).toNat * 5 + 4, none⟩ (.int .i64 ((rd_T25 x0_2 (ji9)).f4))) ⟨go14, ((ji9) : Int).toNat * 5, none⟩ = some (.int .i64 ((rd_T25 y222 (ji9)).f0)) := hx15_0
            replace hx15_1 : World.cell? (((((w19.setCell ⟨go14, (x9_2 : Int).toNat * 5, none⟩ (.int .i64 ((rd_T25 x0_2 (ji9)).f0))).setCell ⟨go14, (x9_2 : Int).toNat * 5 + 1, none⟩ (.int .i64 ((rd_T25 x0_2 (ji9)).f1))).setCell ⟨go14, (x9_2 : Int).toNat * 5 + 2, none⟩ (.int .i64 ((rd_T25 x0_2 (ji9)).f2))).setCell ⟨go14, (x9_2 : Int).toNat * 5 + 3, none⟩ (.int .i64 ((rd_T25 x0_2 (ji9)).f3))).setCell ⟨go14, (x9_2 : Int).toNat * 5 + 4, none⟩ (.int .i64 ((rd_T25 x0_2 (ji9)).f4))) ⟨go14, ((ji9) : Int).toNat * 5 + 1, none⟩ = some (.int .i64 ((rd_T25 y222 (ji9)).f1)) := hx15_1
            replace hx15_2 : World.cell? (((((w19.setCell ⟨go14, (x9_2 : Int).toNat * 5, none⟩ (.int .i64 ((rd_T25 x0_2 (ji9)).f0))).setCell ⟨go14, (x9_2 : Int).toNat * 5 + 1, none⟩ (.int .i64 ((rd_T25 x0_2 (ji9)).f1))).setCell ⟨go14, (x9_2 : Int).toNat * 5 + 2, none⟩ (.int .i64 ((rd_T25 x0_2 (ji9)).f2))).setCell ⟨go14, (x9_2 : Int).toNat * 5 + 3, none⟩ (.int .i64 ((rd_T25 x0_2 (ji9)).f3))).setCell ⟨go14, (x9_2 : Int).toNat * 5 + 4, none⟩ (.int .i64 ((rd_T25 x0_2 (ji9)).f4))) ⟨go14, ((ji9) : Int).toNat * 5 + 2, none⟩ = some (.int .i64 ((rd_T25 y222 (ji9)).f2)) := hx15_2
            replace hx15_3 : World.cell? (((((w19.setCell ⟨go14, (x9_2 : Int).toNat * 5, none⟩ (.int .i64 ((rd_T25 x0_2 (ji9)).f0))).setCell ⟨go14, (x9_2 : Int).toNat * 5 + 1, none⟩ (.int .i64 ((rd_T25 x0_2 (ji9)).f1))).setCell ⟨go14, (x9_2 : Int).toNat * 5 + 2, none⟩ (.int .i64 ((rd_T25 x0_2 (ji9)).f2))).setCell ⟨go14, (x9_2 : Int).toNat * 5 + 3, none⟩ (.int .i64 ((rd_T25 x0_2 (ji9)).f3))).setCell ⟨go14, (x9_2 : Int).toNat * 5 + 4, none⟩ (.int .i64 ((rd_T25 x0_2 (ji9)).f4))) ⟨go14, ((ji9) : Int).toNat * 5 + 3, none⟩ = some (.int .i64 ((rd_T25 y222 (ji9)).f3)) := hx15_3
            replace hx15_4 : World.cell? (((((w19.setCell ⟨go14, (x9_2 : Int).toNat * 5, none⟩ (.int .i64 ((rd_T25 x0_2 (ji9)).f0))).setCell ⟨go14, (x9_2 : Int).toNat * 5 + 1, none⟩ (.int .i64 ((rd_T25 x0_2 (ji9)).f1))).setCell ⟨go14, (x9_2 : Int).toNat * 5 + 2, none⟩ (.int .i64 ((rd_T25 x0_2 (ji9)).f2))).setCell ⟨go14, (x9_2 : Int).toNat * 5 + 3, none⟩ (.int .i64 ((rd_T25 x0_2 (ji9)).f3))).setCell ⟨go14, (x9_2 : Int).toNat * 5 + 4, none⟩ (.int .i64 ((rd_T25 x0_2 (ji9)).f4))) ⟨go14, ((ji9) : Int).toNat * 5 + 4, none⟩ = some (.int .i64 ((rd_T25 y222 (ji9)).f4)) := hx15_4
            replace hf15_0 : World.frozen? (((((w19.setCell ⟨go14, (x9_2 : Int).toNat * 5, none⟩ (.int .i64 ((rd_T25 x0_2 (ji9)).f0))).setCell ⟨go14, (x9_2 : Int).toNat * 5 + 1, none⟩ (.int .i64 ((rd_T25 x0_2 (ji9)).f1))).setCell ⟨go14, (x9_2 : Int).toNat * 5 + 2, none⟩ (.int .i64 ((rd_T25 x0_2 (ji9)).f2))).setCell ⟨go14, (x9_2 : Int).toNat * 5 + 3, none⟩ (.int .i64 ((rd_T25 x0_2 (ji9)).f3))).setCell ⟨go14, (x9_2 : Int).toNat * 5 + 4, none⟩ (.int .i64 ((rd_T25 x0_2 (ji9)).f4))) ⟨go14, ((ji9) : Int).toNat * 5, none⟩ = false := hf15_0
            replace hf15_1 : World.frozen? (((((w19.setCell ⟨go14, (x9_2 : Int).toNat * 5, none⟩ (.int .i64 ((rd_T25 x0_2 (ji9)).f0))).setCell ⟨go14, (x9_2 : Int).toNat * 5 + 1, none⟩ (.int .i64 ((rd_T25 x0_2 (ji9)).f1))).setCell ⟨go14, (x9_2 : Int).toNat * 5 + 2, none⟩ (.int .i64 ((rd_T25 x0_2 (ji9)).f2))).setCell ⟨go14, (x9_2 : Int).toNat * 5 + 3, none⟩ (.int .i64 ((rd_T25 x0_2 (ji9)).f3))).setCell ⟨go14, (x9_2 : Int).toNat * 5 + 4, none⟩ (.int .i64 ((rd_T25 x0_2 (ji9)).f4))) ⟨go14, ((ji9) : Int).toNat * 5 + 1, none⟩ = false := hf15_1
            replace hf15_2 : World.frozen? (((((w19.setCell ⟨go14, (x9_2 : Int).toNat * 5, none⟩ (.int .i64 ((rd_T25 x0_2 (ji9)).f0))).setCell ⟨go14, (x9_2 : Int).toNat * 5 + 1, none⟩ (.int .i64 ((rd_T25 x0_2 (ji9)).f1))).setCell ⟨go14, (x9_2 : Int).toNat * 5 + 2, none⟩ (.int .i64 ((rd_T25 x0_2 (ji9)).f2))).setCell ⟨go14, (x9_2 : Int).toNat * 5 + 3, none⟩ (.int .i64 ((rd_T25 x0_2 (ji9)).f3))).setCell ⟨go14, (x9_2 : Int).toNat * 5 + 4, none⟩ (.int .i64 ((rd_T25 x0_2 (ji9)).f4))) ⟨go14, ((ji9) : Int).toNat * 5 + 2, none⟩ = false := hf15_2
            replace hf15_3 : World.frozen? (((((w19.setCell ⟨go14, (x9_2 : Int).toNat * 5, none⟩ (.int .i64 ((rd_T25 x0_2 (ji9)).f0))).setCell ⟨go14, (x9_2 : Int).toNat * 5 + 1, none⟩ (.int .i64 ((rd_T25 x0_2 (ji9)).f1))).setCell ⟨go14, (x9_2 : Int).toNat * 5 + 2, none⟩ (.int .i64 ((rd_T25 x0_2 (ji9)).f2))).setCell ⟨go14, (x9_2 : Int).toNat * 5 + 3, none⟩ (.int .i64 ((rd_T25 x0_2 (ji9)).f3))).setCell ⟨go14, (x9_2 : Int).toNat * 5 + 4, none⟩ (.int .i64 ((rd_T25 x0_2 (ji9)).f4))) ⟨go14, ((ji9) : Int).toNat * 5 + 3, none⟩ = false := hf15_3
            replace hf15_4 : World.frozen? (((((w19.setCell ⟨go14, (x9_2 : Int).toNat * 5, none⟩ (.int .i64 ((rd_T25 x0_2 (ji9)).f0))).setCell ⟨go14, (x9_2 : Int).toNat * 5 + 1, none⟩ (.int .i64 ((rd_T25 x0_2 (ji9)).f1))).setCell ⟨go14, (x9_2 : Int).toNat * 5 + 2, none⟩ (.int .i64 ((rd_T25 x0_2 (ji9)).f2))).setCell ⟨go14, (x9_2 : Int).toNat * 5 + 3, none⟩ (.int .i64 ((rd_T25 x0_2 (ji9)).f3))).setCell ⟨go14, (x9_2 : Int).toNat * 5 + 4, none⟩ (.int .i64 ((rd_T25 x0_2 (ji9)).f4))) ⟨go14, ((ji9) : Int).toNat * 5 + 4, none⟩ = false := hf15_4
            refine last_ (i := 17) (N := none) #[true, true, true, true, true, true, true, true, true, true, true, true, true, true, true, true, true, true] rfl rfl (one_of HT_.out (by kernel_rfl)) (by decide) (fun K hK => ?_)
            refine skip_ (w1 := ?_) (by rfl) rfl ?_ ?_
            rotate_left
            ·go_simp
             rfl
            refine hK.out _ _ ?_
            clear hK K
            refine done_ (done_of HT_.out (by kernel_rfl)) ?_
            try go_wp2
            go_roundg k2
            case measure => have := HK1.out; have := HK2.out; omega
            case rel => exact ⟨(y223), (ji9), (by first | rfl | (simp; done) | (simp only [← hji9] <;> (first | rfl | simp)) | (simp [*]; done)), H', ⟨by have := HK1.out; have := HK2.out; omega⟩, ⟨upR HQ21.out⟩, ⟨by repeat (first | (with_reducible first | exact HK.out | apply Kept.alloc | apply Kept.drewN | apply Kept.drew | refine Kept.setCell ?_ HMgo14.out _ | refine Kept.setCell ?_ HMgo14.out _ | refine Kept.setCell ?_ HMgo14.out _ | refine Kept.setCell ?_ HMgo14.out _ | refine Kept.setCell ?_ HMgo14.out _ | refine Kept.setCell ?_ HMgo14.out _ | refine Kept.setCell ?_ HMgo14.out _ | refine Kept.setCell ?_ HMgo14.out _ | refine Kept.setCell ?_ HMgo14.out _ | refine Kept.setCell ?_ HMgo14.out _) | exact HK.out)⟩, ⟨by repeat (first | (with_reducible first | exact HB.out | apply below_alloc | apply pw_below_drewN | apply below_drew1 | refine below_set ?_ GB14.out | refine below_set ?_ GB14.out | refine below_set ?_ GB14.out | refine below_set ?_ GB14.out | refine below_set ?_ GB14.out | refine below_set ?_ GB14.out | refine below_set ?_ GB14.out | refine below_set ?_ GB14.out | refine below_set ?_ GB14.out | refine below_set ?_ GB14.out) | exact HB.out)⟩⟩
           ·have H' := Aside0.mk H
            clear H
            try go_wp2
            replace HO_0 := Aside0.mk (Kd.R_drew HO_0.out)
            replace HK := Aside0.mk (Kept.drew HK.out)
            replace HB := Aside0.mk (below_drew1 HB.out)
            obtain ⟨Ao23, co23, eo23⟩ := Kd.R_slice HO_0.out
            (first | subst eo23 | (injection eo23 with f1_ f2_ f3_; have f4_ := f1_.symm; have f5_ := f3_.symm; clear f1_ f2_ f3_; subst f4_; subst f5_))
            have p217 : 0 ≤ (x9_2 : Int) := of_decide_eq_true asmB
            have q217 : x9_2 < (x0_2.length : Int) := of_decide_eq_true asmB
            obtain ⟨ad217, e217, hx217_0, hx217_1, hx217_2, hx217_3, hx217_4⟩ := at_T25 (Kd.R_reads' HO_0.out).2.2 x9_2 p217 q217
            cases e217
            replace p217 := eq_true p217
            replace q217 := eq_true q217
            have p218 : 0 ≤ ((ji9) : Int) := of_decide_eq_true asmB
            have q218 : (ji9) < (x0_2.length : Int) := of_decide_eq_true asmB
            obtain ⟨ad218, e218, hx218_0, hx218_1, hx218_2, hx218_3, hx218_4⟩ := at_T25 (Kd.R_reads' HO_0.out).2.2 (ji9) p218 q218
            obtain rfl : ad217 = ad218 := (by injection e218)
            replace p218 := eq_true p218
            replace q218 := eq_true q218
            refine sA (n := 17) (S := fun w' => w'.cell? (ad217.add ((x9_2).toNat * 5)) = some (.int .i64 ((rd_T25 x0_2 x9_2).f0)) ∧ w'.cell? ⟨(ad217.add ((x9_2).toNat * 5)).block, (ad217.add ((x9_2).toNat * 5)).off + 1, none⟩ = some (.int .i64 ((rd_T25 x0_2 x9_2).f1)) ∧ w'.cell? ⟨(ad217.add ((x9_2).toNat * 5)).block, (ad217.add ((x9_2).toNat * 5)).off + 2, none⟩ = some (.int .i64 ((rd_T25 x0_2 x9_2).f2)) ∧ w'.cell? ⟨(ad217.add ((x9_2).toNat * 5)).block, (ad217.add ((x9_2).toNat * 5)).off + 3, none⟩ = some (.int .i64 ((rd_T25 x0_2 x9_2).f3)) ∧ w'.cell? ⟨(ad217.add ((x9_2).toNat * 5)).block, (ad217.add ((x9_2).toNat * 5)).off + 4, none⟩ = some (.int .i64 ((rd_T25 x0_2 x9_2).f4)) ∧ w'.cell? (ad217.add (((ji9)).toNat * 5)) = some (.int .i64 ((rd_T25 x0_2 (ji9)).f0)) ∧ w'.cell? ⟨(ad217.add (((ji9)).toNat * 5)).block, (ad217.add (((ji9)).toNat * 5)).off + 1, none⟩ = some (.int .i64 ((rd_T25 x0_2 (ji9)).f1)) ∧ w'.cell? ⟨(ad217.add (((ji9)).toNat * 5)).block, (ad217.add (((ji9)).toNat * 5)).off + 2, none⟩ = some (.int .i64 ((rd_T25 x0_2 (ji9)).f2)) ∧ w'.cell? ⟨(ad217.add (((ji9)).toNat * 5)).block, (ad217.add (((ji9)).toNat * 5)).off + 3, none⟩ = some (.int .i64 ((rd_T25 x0_2 (ji9)).f3)) ∧ w'.cell? ⟨(ad217.add (((ji9)).toNat * 5)).block, (ad217.add (((ji9)).toNat * 5)).off + 4, none⟩ = some (.int .i64 ((rd_T25 x0_2 (ji9)).f4))) (ds := []) impl_Lead_76.tab4 impl_Lead_76.bits4 #[false, false, false, false, false, false, false, false, false, false, false, false, false, false, false, false, false] ⟨hx217_0, hx217_1, hx217_2, hx217_3, hx217_4, hx218_0, hx218_1, hx218_2, hx218_3, hx218_4⟩ fun hHeld HT_ HW_ => ?_
            generalize wr.drew = w22 at HO_0 HK HB hx217_0 hx217_1 hx217_2 hx217_3 hx217_4 hx218_0 hx218_1 hx218_2 hx218_3 hx218_4 hHeld ⊢
            refine pA 0 18 HT_ ?_
            refine pA 1 19 HT_ ?_
            refine pA 2 20 HT_ ?_
            refine pA 3 21 HT_ ?_
            refine pA 4 22 HT_ ?_
            refine pA 5 23 HT_ ?_
            refine pA 6 24 HT_ ?_
            refine pA 7 25 HT_ ?_
            refine pA 9 27 HT_ ?_
            refine pA 10 28 HT_ ?_
            refine pA 11 29 HT_ ?_
            refine pA 12 30 HT_ ?_
            refine tA 8 26 HT_ HW_ hHeld ?_
            refine tA 13 31 HT_ HW_ hHeld ?_
            refine oA 14 (some 32) HT_ fun K hK => ?_
            refine goesV_ (f := 69) (.tmp 22) Try.func69 (by kernel_rfl) rfl #[.agg #[.int .i64 ((rd_T25 x0_2 x9_2).f0), .int .i64 ((rd_T25 x0_2 x9_2).f1), .int .i64 ((rd_T25 x0_2 x9_2).f2), .int .i64 ((rd_T25 x0_2 x9_2).f3), .int .i64 ((rd_T25 x0_2 x9_2).f4)], .agg #[.int .i64 ((rd_T25 x0_2 (ji9)).f0), .int .i64 ((rd_T25 x0_2 (ji9)).f1), .int .i64 ((rd_T25 x0_2 (ji9)).f2), .int .i64 ((rd_T25 x0_2 (ji9)).f3), .int .i64 ((rd_T25 x0_2 (ji9)).f4)]] (by rfl) rfl rfl (by first | rfl | simp [Act.eval]) (by (try simp only [List.map_toArray, List.map_cons, List.map_nil]); first | done | (simp only [hji9]; rfl) | rfl | (simp only [List.length_drop, List.length_take]; rfl)) ?_
            with_reducible refine (impl_ranked_2.calls ((rd_T25 x0_2 x9_2).f0) ((rd_T25 x0_2 x9_2).f1) ((rd_T25 x0_2 x9_2).f2) ((rd_T25 x0_2 x9_2).f3) ((rd_T25 x0_2 x9_2).f4) ((rd_T25 x0_2 (ji9)).f0) ((rd_T25 x0_2 (ji9)).f1) ((rd_T25 x0_2 (ji9)).f2) ((rd_T25 x0_2 (ji9)).f3) ((rd_T25 x0_2 (ji9)).f4) t219 _ A12.out).mono ?_
            rintro e w24 ⟨rfl, hb⟩
            have HS0_ := (hb.cell (World.block_lt_of_cell? _ _ (hHeld.1))).trans (hHeld.1)
            have HS1_ := (hb.cell (World.block_lt_of_cell? _ _ (hHeld.2.1))).trans (hHeld.2.1)
            have HS2_ := (hb.cell (World.block_lt_of_cell? _ _ (hHeld.2.2.1))).trans (hHeld.2.2.1)
            have HS3_ := (hb.cell (World.block_lt_of_cell? _ _ (hHeld.2.2.2.1))).trans (hHeld.2.2.2.1)
            have HS4_ := (hb.cell (World.block_lt_of_cell? _ _ (hHeld.2.2.2.2.1))).trans (hHeld.2.2.2.2.1)
            have HS5_ := (hb.cell (World.block_lt_of_cell? _ _ (hHeld.2.2.2.2.2.1))).trans (hHeld.2.2.2.2.2.1)
            have HS6_ := (hb.cell (World.block_lt_of_cell? _ _ (hHeld.2.2.2.2.2.2.1))).trans (hHeld.2.2.2.2.2.2.1)
            have HS7_ := (hb.cell (World.block_lt_of_cell? _ _ (hHeld.2.2.2.2.2.2.2.1))).trans (hHeld.2.2.2.2.2.2.2.1)
            have HS8_ := (hb.cell (World.block_lt_of_cell? _ _ (hHeld.2.2.2.2.2.2.2.2.1))).trans (hHeld.2.2.2.2.2.2.2.2.1)
            have HS9_ := (hb.cell (World.block_lt_of_cell? _ _ (hHeld.2.2.2.2.2.2.2.2.2))).trans (hHeld.2.2.2.2.2.2.2.2.2)
            refine ⟨_, rfl, ?_⟩
            replace HO_0 := uR HO_0 hb
            replace HK := Aside0.mk (Kept.below (S := (fun k_ => P0_ k_)) (by repeat (first | (with_reducible first | exact HK.out | apply Kept.alloc | apply Kept.drewN | apply Kept.drew) | exact HK.out)) hb)
            replace HB := uB HB hb
            (try clear hb)
            (try clear hk)
            refine hK.out _ _ ⟨HS0_, HS1_, HS2_, HS3_, HS4_, HS5_, HS6_, HS7_, HS8_, HS9_⟩ (fun hHeld => ?_)
            clear hK K
            refine nA ?_ (some 32)
            refine pA 15 33 HT_ ?_
            refine pA 16 34 HT_ ?_
            refine done_ (done_of HT_.out (by kernel_rfl)) ?_
            try go_wp2
            go_roundg k2
            case measure => have := HK1.out; have := HK2.out; omega
            case rel => exact ⟨(x0_2), (wrap64 (x8_1 + 1)), rB, H', ⟨by have := HK1.out; have := HK2.out; omega⟩, ⟨upR HO_0.out⟩, ⟨by repeat (first | (with_reducible first | exact HK.out | apply Kept.alloc | apply Kept.drewN | apply Kept.drew) | exact HK.out)⟩, (aB HB)⟩
          ·rw [if_neg c11] at H
           exact absurd H (by simp)
         ·rw [if_neg c10] at H
          exact absurd H (by simp)
        ·rw [if_neg c8] at H
         exact absurd H (by simp)
       ·rw [if_neg c7] at H
        exact absurd H (by simp)
      ·have H' := Aside0.mk H
       clear H
       try go_wp2
       replace HO_0 := Aside0.mk (Kd.R_drew HO_0.out)
       replace HK := Aside0.mk (Kept.drew HK.out)
       replace HB := Aside0.mk (below_drew1 HB.out)
       refine start_ (n := 17) (S := fun w' => True) (ds := []) #[false, false, false, false, false, false, false, false, false, false, false, false, false, false, false, false, false] (by kernel_rfl) rfl rfl trivial (fun hHeld => ?_); refine with_tabW impl_Lead_76.tab4 impl_Lead_76.bits4 (fun HT_ HW_ => ?_)
       generalize wr.drew = w25 at HO_0 HK HB hHeld ⊢
       refine pA 0 18 HT_ ?_
       refine pA 1 19 HT_ ?_
       refine pA 2 20 HT_ ?_
       refine pA 3 21 HT_ ?_
       refine pU 4 22 HT_ ?_
       refine pU 5 23 HT_ ?_
       refine pU 6 24 HT_ ?_
       refine pU 7 25 HT_ ?_
       refine pU 8 26 HT_ ?_
       refine pU 9 27 HT_ ?_
       refine pU 10 28 HT_ ?_
       refine pU 11 29 HT_ ?_
       refine pU 12 30 HT_ ?_
       refine pU 13 31 HT_ ?_
       refine pU 14 32 HT_ ?_
       refine pU 15 33 HT_ ?_
       refine pA 16 34 HT_ ?_
       refine done_ (done_of HT_.out (by kernel_rfl)) ?_
       try go_wp2
       go_roundg k2
       case measure => have := HK1.out; have := HK2.out; omega
       case rel => exact ⟨(x0_2), (wrap64 (x8_1 + 1)), rB, H', ⟨by have := HK1.out; have := HK2.out; omega⟩, ⟨upR HO_0.out⟩, ⟨by repeat (first | (with_reducible first | exact HK.out | apply Kept.alloc | apply Kept.drewN | apply Kept.drew) | exact HK.out)⟩, (aB HB)⟩
   ·obtain rfl := Option.some.inj H
    go_wp2
    first | go_end0 | ((try simp only [Exit.inBlock, Exit.then]); refine bodyPost_ret (results_none rfl _ _ _) rfl ?_)
    exact ⟨eB, upR HO_0.out, (bW HB), by repeat (first | (with_reducible first | exact HK.out | apply Kept.alloc | apply Kept.drewN | apply Kept.drew) | exact HK.out)⟩

end Go.Proofs.Ytldgjibimolcdaa.QFnLeadTrips
