/- Contracts of Go functions that FnLeadTrips reaches: the call computes what the plain function says. No condition. -/
import Derived.Test.YtldgjibimolcdaaQFnLeadTripsx0
import Derived.Test.YtldgjibimolcdaaQFnLeadTripsx3
import Derived.Test.YtldgjibimolcdaaQFnLeadTripsx5
import Derived.Test.YtldgjibimolcdaaQFnLeadTripsx6
import Derived.Test.YtldgjibimolcdaaQFnLeadTripsx7
namespace Go.Proofs.Ytldgjibimolcdaa.QFnLeadTrips
open Go.RowKit Go.Proofs.YtldgjibimolcdaaW.PrintWords Go.Proofs.YtldgjibimolcdaaW.PrintLast Go.Proofs.YtldgjibimolcdaaW.PrintMore
attribute [local go_sem] max2_int min2_int max_two min_two max_three min_three max_four min_four   -- for this text's walks alone
set_option linter.unusedVariables false
set_option linter.unusedSimpArgs false

/-! ### spec_BestLead: function 31 -/
def spec_BestLead.f (k : Nat) (l0 : List (S25)) : Option (Int × Bool) := (spec_l18Good.f k l0).bind fun t192 => (if t192 = true then ((spec_l18Rank.f k l0).bind fun t193 => (if (t193.length : Int) = 0 then (some (0, false)) else ((spec_l18Rank.f k l0).bind fun t196 => (if 0 < (t196.length : Int) then (if 0 ≤ (rd t196 0) then (if (rd t196 0) < (l0.length : Int) then (some ((rd_T25 l0 (rd t196 0)).f0, true)) else (none)) else (none)) else (none))))) else (some (0, false)))
theorem spec_BestLead.mono : ∀ a0 k, LeO (spec_BestLead.f k a0) (spec_BestLead.f (k + 1) a0) := by
 intro a0 k
 unfold spec_BestLead.f
 repeat' with_reducible first | apply spec_l18Good.mono | apply spec_l18Rank.mono | exact LeO.refl _ | exact LeO.none _ | refine LeO.ite ?_ ?_ | refine LeO.bind ?_ (fun _ => ?_)
set_option maxHeartbeats 8000000 in
set_option maxRecDepth 100000 in
theorem spec_BestLead.calls (k : Nat) (A0 : Option Addr) (c0 : Nat) (l0 : List (S25)) (r1 : Int) (r2 : Bool) (w : World) (hr0 : Kd.C k25 w A0 l0.length l0) (hc0 : l0.length ≤ c0) (h : spec_BestLead.f k l0 = some (r1, r2)) :
  Calls Try.prog 31 #[.slice A0 l0.length c0] w fun e w' => e = .returned (.tuple #[.int .i64 r1, .bool r2]) ∧ Below w.heap.size w w' := by
 have HR0 := Aside0.mk hr0
 have HC0 := Aside0.mk hc0
 clear hr0 hc0
 have HB := Aside0.mk (Below.refl w.heap.size w)
 have H := h
 clear h
 unfold spec_BestLead.f at H
 replace H := bA H
 obtain ⟨t192, A2, H⟩ := H
 rcases Bool.eq_false_or_eq_true t192 with rfl | rfl
 ·replace H := iT rfl H
  replace H := bA H
  obtain ⟨t193, A4, H⟩ := H
  replace H := ifI H
  rcases H with ⟨H, -, c5b0, c5b1⟩ | ⟨H, c5, c5b0, c5b1⟩
  ·simp only [Option.some.injEq, Prod.mk.injEq] at H
   obtain ⟨rfl, rfl⟩ := H
   go_enter Try.func31, Try.ntmps31
   go_wp2_with (first | ((with_reducible refine gC 48 ?_); refine lA (some 5) Try.func48 (spec_l18Good.calls k _ _ l0 true _ ?side1 ?side2 A2.out) ?_; (case side1 => repeat (first | exact HR0.out | (with_reducible refine Kd.C_alloc ?_ _) | (with_reducible refine Kd.C_drewN ?_ _) | (with_reducible refine Kd.C_drew ?_))); (case side2 => exact HC0.out); intro w6 hb; replace HB := uB HB hb; (try clear hb)) | (go_at_call 57; (with_reducible refine (spec_l18Rank.calls k _ _ l0 t193 _ ?side1 ?side2 A4.out).mono ?_); (case side1 => repeat (first | exact (Kd.C_below HR0.out HB.out) | (with_reducible refine Kd.C_alloc ?_ _) | (with_reducible refine Kd.C_drewN ?_ _) | (with_reducible refine Kd.C_drew ?_))); (case side2 => exact HC0.out); rintro e w7 ⟨v194, rfl, ho0, hb⟩; have HO195 := Aside0.mk (Kd.R_lower ho0 (below_size (bW HB))); replace HB := uB HB hb; (try clear hb); (try clear ho0); obtain ⟨Ao8, co8, eo8⟩ := Kd.R_slice HO195.out; subst eo8))
   go_ret2
   exact ⟨eB, (bW HB)⟩
  ·have c5b2 : ¬ (t193 = []) := fun h_ => c5 (by rw [h_]; rfl)
   replace H := bA H
   obtain ⟨t196, A9, H⟩ := H
   by_cases c10 : 0 < (t196.length : Int)
   ·rw [if_pos c10] at H
    have c10b0 : decide (0 < (t196.length : Int)) = true := decide_eq_true c10
    have c10b1 : decide (0 < t196.length) = true := decide_eq_true (by omega)
    clear c10
    by_cases c11 : 0 ≤ (rd t196 0)
    ·rw [if_pos c11] at H
     have c11b0 : decide (0 ≤ (rd t196 0)) = true := decide_eq_true c11
     clear c11
     by_cases c12 : (rd t196 0) < (l0.length : Int)
     ·rw [if_pos c12] at H
      have c12b0 : decide ((rd t196 0) < (l0.length : Int)) = true := decide_eq_true c12
      clear c12
      simp only [Option.some.injEq, Prod.mk.injEq] at H
      obtain ⟨rfl, rfl⟩ := H
      go_enter Try.func31, Try.ntmps31
      go_wp2_with (first | ((with_reducible refine gC 48 ?_); refine lA (some 5) Try.func48 (spec_l18Good.calls k _ _ l0 true _ ?side1 ?side2 A2.out) ?_; (case side1 => repeat (first | exact HR0.out | (with_reducible refine Kd.C_alloc ?_ _) | (with_reducible refine Kd.C_drewN ?_ _) | (with_reducible refine Kd.C_drew ?_))); (case side2 => exact HC0.out); intro w13 hb; replace HB := uB HB hb; (try clear hb)) | (go_at_call 57; (with_reducible refine (spec_l18Rank.calls k _ _ l0 t193 _ ?side1 ?side2 A4.out).mono ?_); (case side1 => repeat (first | exact (Kd.C_below HR0.out HB.out) | (with_reducible refine Kd.C_alloc ?_ _) | (with_reducible refine Kd.C_drewN ?_ _) | (with_reducible refine Kd.C_drew ?_))); (case side2 => exact HC0.out); rintro e w14 ⟨v194, rfl, ho0, hb⟩; have HO195 := Aside0.mk (Kd.R_lower ho0 (below_size (bW HB))); replace HB := uB HB hb; (try clear hb); (try clear ho0); obtain ⟨Ao15, co15, eo15⟩ := Kd.R_slice HO195.out; subst eo15) | ((with_reducible refine gate_callee (f := 57) rfl ?_); refine goesL_ (some 15) rfl rfl Try.func57 (by kernel_rfl) rfl #[.slice A0 l0.length c0] rfl argsB ?_; (with_reducible refine (spec_l18Rank.calls k _ _ l0 t196 _ ?side1 ?side2 A9.out).mono ?_); (case side1 => repeat (first | exact (Kd.C_below HR0.out HB.out) | (with_reducible refine Kd.C_alloc ?_ _) | (with_reducible refine Kd.C_drewN ?_ _) | (with_reducible refine Kd.C_drew ?_))); (case side2 => exact HC0.out); rintro e w16 ⟨v197, rfl, ho0, hb⟩; refine ⟨_, rfl, ?_⟩; have HO198 := Aside0.mk (Kd.R_lower (Kd.R_new' ho0 (Kd.R_lt (upR HO195.out))) (below_size (bW HB))); replace HO195 := Aside0.mk (Kd.R_elder' (upR HO195.out) (Kd.R_base ho0) hb); replace HB := uB HB hb; (try clear hb); (try clear ho0); obtain ⟨Ao17, co17, eo17⟩ := Kd.R_slice HO198.out; subst eo17; have p199 : 0 ≤ (0 : Int) := (by omega); have q199 : 0 < (t196.length : Int) := of_decide_eq_true asmB; obtain ⟨ad199, e199, hx199_0⟩ := Kd.at_int (Kd.R_reads' HO198.out).2.2 0 p199 q199; cases e199; have qi199 : (0 < t196.length) = True := eq_true (by omega); (try rw [show ((0 : Int)).toNat = 0 from rfl] at hx199_0); (try rw [Addr.add_zero'] at hx199_0); replace p199 := eq_true p199; replace q199 := eq_true q199; have p200 : 0 ≤ ((rd t196 0) : Int) := of_decide_eq_true asmB; have q200 : (rd t196 0) < (l0.length : Int) := of_decide_eq_true asmB; obtain ⟨ad200, e200, hx200_0, hx200_1, hx200_2, hx200_3, hx200_4⟩ := at_T25 HR0.out (rd t196 0) p200 q200; cases e200; replace hx200_0 := bx HB.out hx200_0; replace hx200_1 := bx HB.out hx200_1; replace hx200_2 := bx HB.out hx200_2; replace hx200_3 := bx HB.out hx200_3; replace hx200_4 := bx HB.out hx200_4; replace p200 := eq_true p200; replace q200 := eq_true q200))
      go_ret2
      exact ⟨eB, (bW HB)⟩
     ·rw [if_neg c12] at H
      exact absurd H (by simp)
    ·rw [if_neg c11] at H
     exact absurd H (by simp)
   ·rw [if_neg c10] at H
    exact absurd H (by simp)
 ·replace H := iF (by decide) H
  simp only [Option.some.injEq, Prod.mk.injEq] at H
  obtain ⟨rfl, rfl⟩ := H
  go_enter Try.func31, Try.ntmps31
  go_wp2_with (first | ((with_reducible refine gC 48 ?_); refine lA (some 5) Try.func48 (spec_l18Good.calls k _ _ l0 false _ ?side1 ?side2 A2.out) ?_; (case side1 => repeat (first | exact HR0.out | (with_reducible refine Kd.C_alloc ?_ _) | (with_reducible refine Kd.C_drewN ?_ _) | (with_reducible refine Kd.C_drew ?_))); (case side2 => exact HC0.out); intro w18 hb; replace HB := uB HB hb; (try clear hb)))
  go_ret2
  exact ⟨eB, (bW HB)⟩

/-! ### impl_Lead_66: function 66 -/
theorem grown_setRow_ (w : World) (g : Nat) (cs : Array Value) : w.grownBy (w.setRow g cs) (some g) := by
 refine ⟨rfl, rfl, rfl, ?_, fun k hk hne => ?_⟩
 ·simp [World.setRow]
 ·have : g ≠ k := fun h => hne (by rw [h])
  simp [World.setRow, Array.getElem?_modify, this]
theorem setRow_at_ (w : World) (g : Nat) (cur cs : Array Value) (e : TypeId) (h : w.heap[g]? = some (.cells cur e (0, 0))) : (w.setRow g cs).heap[g]? = some (.cells cs e (0, 0)) := by simp [World.setRow, Array.getElem?_modify, h]
theorem zeros_len_ (z : Array Value) (n : Nat) : (Builtin.zeroCells z n).toList.length = n * z.size := by simp [Builtin.zeroCells]
theorem zeros_one_ (z : Array Value) (n : Nat) (hz : ∀ v ∈ z.toList, v.oneCell' = true) : ∀ v ∈ (Builtin.zeroCells z n).toList, v.oneCell' = true := by
 intro v hv
 simp only [Builtin.zeroCells, Array.toList_map, List.mem_map, Array.toList_range, List.mem_range] at hv
 obtain ⟨i, hi, rfl⟩ := hv
 have hs : 0 < z.size := by
  rcases Nat.eq_zero_or_pos z.size with h | h
  ·rw [h, Nat.mul_zero] at hi; omega
  ·exact h
 have hm : i % z.size < z.size := Nat.mod_lt _ hs
 rw [getElem!_pos z _ hm]
 exact hz _ (by simp)
/-- What a clear of a row's tail leaves: the row's head, as it was. -/
theorem clear_own {P : Program} {α : Type} {d : Kd α} {e t : TypeId} {W : World} {base : Nat} {ok : Nat → Prop} {A : Option Addr} {n c : Nat} {xs : List α} {i : TypeInfo} (z : Value) (j : Int)
  (ht : P.underlying t = some (.slice e)) (hi : P.info? e = some i) (hz0 : i.zero = some z) (hsz : i.size = d.sz) (hzs : z.cells.size = d.sz) (hz1 : ∀ v ∈ z.cells.toList, v.oneCell' = true)
  (h : d.R e W base ok (.slice A n c) xs) (h0 : 0 ≤ j) (hj : j ≤ n) :
  ∃ A' n' c' W', (∀ W, (Instr.slice t (.slice A n c) (some (.int .i64 j)) none none).run P W = .ok (.slice A' n' c') W) ∧ (Builtin.clear_ #[t] 0 #[.slice A' n' c']).run P W = .ok (.tuple #[]) W' ∧ d.R e W' base ok (.slice A j.toNat c) (xs.take j.toNat) ∧ W.grownBy W' (Value.slice A n c).ownBlock := by
 have hv : ∀ w, (zeroValue e).run P w = .ok z w := fun w => by simp [zeroValue, typeInfo, hi, hz0]
 have hn : n = xs.length := (by have := (Kd.R_reads' h).1; omega)
 have hT := Kd.R_take (m := j.toNat) h (by omega)
 have hcut := cut_from (P := P) t e .i64 ht hi d.sz hsz A n c j h0 hj
 by_cases hz : n - j.toNat = 0
 ·refine ⟨_, _, _, W, hcut, ?_, hT, World.grownBy.refl W _⟩
  rw [hz]
  split <;> cases A <;> simp [Builtin.clear_, run_underlying ht]
 ·obtain ⟨k0, inner, ho, hr⟩ := hT
  rcases ho.2 with ⟨he, h1⟩ | ⟨g, cap, cur, he, hb, hh, hnc, hcm, hcs, hc⟩
  ·injection he with e1 e2 e3
   subst e1
   obtain ⟨_, inner2, ho2, _⟩ := h
   rcases ho2.2 with ⟨he2, h2⟩ | ⟨g, cap, cur, he2, _⟩
   ·injection he2 with _ e4 _
    omega
   ·injection he2 with e5
    cases e5
  ·injection he with e1 e2 e3
   subst e1 e3
   have hcn : n ≤ c := (Kd.R_reads' h).2.1
   have hcj : ¬ c = j.toNat := by omega
   rw [if_neg hcj] at hcut
   obtain ⟨m, hm⟩ : ∃ m, n - j.toNat = m + 1 := ⟨n - j.toNat - 1, by omega⟩
   have hlz := zeros_len_ z.cells (m + 1)
   rw [hzs] at hlz
   have hfit : j.toNat * d.sz + (Builtin.zeroCells z.cells (m + 1)).toList.length ≤ cur.size := by
    rw [hlz, hcs, ← Nat.add_mul]
    exact Nat.mul_le_mul_right _ (by omega)
   have hst := run_storeCells_at P g (j.toNat * d.sz) e (Builtin.zeroCells z.cells (m + 1)).toList 0 cur W hh (by simpa using hfit) (zeros_one_ _ _ hz1)
   simp only [Nat.add_zero] at hst
   refine ⟨_, _, _, W.setRow g (cur.toList.take (j.toNat * d.sz) ++ (Builtin.zeroCells z.cells (m + 1)).toList ++ cur.toList.drop (j.toNat * d.sz + (Builtin.zeroCells z.cells (m + 1)).toList.length)).toArray, hcut, ?_, ?_, grown_setRow_ _ _ _⟩
   ·rw [hm]
    have ha : (Option.map (fun x : Addr => x.add (j.toNat * d.sz)) (some ⟨g, 0, none⟩)) = some ⟨g, j.toNat * d.sz, none⟩ := by simp [Addr.add]; exact fun h_ => h_.symm
    rw [ha]
    simp [Builtin.clear_, run_underlying ht, hv, hst]
   ·have hgr := grown_setRow_ W g (cur.toList.take (j.toNat * d.sz) ++ (Builtin.zeroCells z.cells (m + 1)).toList ++ cur.toList.drop (j.toNat * d.sz + (Builtin.zeroCells z.cells (m + 1)).toList.length)).toArray
    have hle : j.toNat * d.sz ≤ cur.toList.length := by rw [Array.length_toList]; omega
    refine ⟨k0, inner, ⟨ho.1, .inr ⟨g, c, _, congrArg (fun q => Value.slice (some ⟨g, 0, none⟩) q c) e2, hb, setRow_at_ W g cur _ e hh, hnc, hcm, ?_, ?_⟩⟩, hr.imp_ (fun _ _ hp => d.M_grown hp hgr (fun k hk he => hk.2 (by rw [he]; rfl)))⟩
    ·rw [List.size_toArray, List.length_append, List.length_append, List.length_take, List.length_drop, Array.length_toList, Nat.min_eq_left (by rw [Array.length_toList] at hle; exact hle)]
     omega
    ·rw [← e2] at hc ⊢
     rw [List.toList_toArray, List.append_assoc, List.take_append_of_le_length (by rw [List.length_take, Nat.min_eq_left hle]; exact Nat.le_refl _), List.take_take, Nat.min_self]
     exact hc
def impl_Lead_66.l0 : Nat → List (S25) → Int → Int → Option ((List (S25)))
 | 0, _, _, _ => none
 | k + 1, x0, x5, x6 => if x6 < (x0.length : Int) then (if 0 ≤ x6 then ((impl_ranked_1.f ((rd_T25 x0 x6).f0) ((rd_T25 x0 x6).f1) ((rd_T25 x0 x6).f2) ((rd_T25 x0 x6).f3) ((rd_T25 x0 x6).f4)).bind fun t204 => (if t204 = true then (impl_Lead_66.l0 k x0 x5 (wrap64 (x6 + 1))) else (if 0 ≤ x5 then (if x5 < (x0.length : Int) then (impl_Lead_66.l0 k (x0.set (x5 : Int).toNat (⟨(rd_T25 x0 x6).f0, (rd_T25 x0 x6).f1, (rd_T25 x0 x6).f2, (rd_T25 x0 x6).f3, (rd_T25 x0 x6).f4⟩ : S25)) (wrap64 (x5 + 1)) (wrap64 (x6 + 1))) else (none)) else (none)))) else (none)) else (if 0 ≤ x5 then (if x5 ≤ (x0.length : Int) then (some (x0.take (x5 : Int).toNat)) else (none)) else (none))
def impl_Lead_66.f (k : Nat) (l0 : List (S25)) (a1 : Int) : Option ((List (S25))) := (impl_Lead_53.f k l0 a1).bind fun t201 => (if t201 = (-1) then (some l0) else (impl_Lead_66.l0 k l0 t201 (wrap64 (t201 + 1))))
theorem impl_Lead_66.mono_l : ∀ k, (∀ y0 y1 y2, LeO (impl_Lead_66.l0 k y0 y1 y2) (impl_Lead_66.l0 (k + 1) y0 y1 y2))
 | 0 => fun _ _ _ r h => by simp [impl_Lead_66.l0] at h
 | k + 1 => by
  have ih0 := impl_Lead_66.mono_l k
  ·intro y0 y1 y2
   unfold impl_Lead_66.l0
   repeat' with_reducible first | apply ih0 | apply impl_Lead_53.mono | exact LeO.refl _ | exact LeO.none _ | refine LeO.ite ?_ ?_ | refine LeO.bind ?_ (fun _ => ?_)
theorem impl_Lead_66.mono : ∀ a0 a1 k, LeO (impl_Lead_66.f k a0 a1) (impl_Lead_66.f (k + 1) a0 a1) := by
 intro a0 a1 k
 have ih0 := impl_Lead_66.mono_l k
 unfold impl_Lead_66.f
 repeat' with_reducible first | apply ih0 | apply impl_Lead_53.mono | exact LeO.refl _ | exact LeO.none _ | refine LeO.ite ?_ ?_ | refine LeO.bind ?_ (fun _ => ?_)
set_option maxHeartbeats 8000000 in
set_option maxRecDepth 100000 in
theorem impl_Lead_66.calls (k : Nat) (P0_ : Nat → Prop) (u9000_ : Value) (l0 : List (S25)) (a1 : Int) (r : List (S25)) (w0 w : World) (hB : Below w0.heap.size w0 w) (ho0 : Kd.R k25 25 w w0.heap.size P0_ u9000_ l0) (h : impl_Lead_66.f k l0 a1 = some r) :
  Calls Try.prog 66 #[u9000_, .func (.func 67) #[] #[]] w fun e w' => ∃ v0_ : Value, e = .returned (v0_) ∧ Kd.R k25 25 w' w0.heap.size (fun k_ => (P0_ k_ ∨ w.heap.size ≤ k_)) v0_ r ∧ Below w0.heap.size w0 w' ∧ Kept w w' (fun k_ => P0_ k_) := by
 have hu25 := Try.underlying25
 have HO0 := Aside0.mk (show Kd.R k25 25 w w0.heap.size (fun k_ => (P0_ k_ ∨ w.heap.size ≤ k_)) u9000_ l0 from Kd.R_mono ho0 (fun k_ hk => (.inl hk)))
 have HK := Aside0.mk (Kept.refl w (fun k_ => P0_ k_))
 have HW0 := Aside0.mk hB.size
 have HB := Aside0.mk hB
 clear hB
 have H := h
 clear h
 unfold impl_Lead_66.f at H
 replace H := bA H
 obtain ⟨t201, A3, H⟩ := H
 replace H := ifI H
 rcases H with ⟨H, -, c4b0, c4b1⟩ | ⟨H, c4, c4b0, c4b1⟩
 ·obtain rfl := Option.some.inj H
  obtain ⟨Ao5, co5, eo5⟩ := Kd.R_slice HO0.out
  subst eo5
  go_enter Try.func66, Try.ntmps66
  go_wp2_with (first | ((with_reducible refine gC 53 ?_); refine lA (some 10) Try.func53 (impl_Lead_53.calls k _ _ l0 a1 t201 _ ?side1 ?side2 A3.out) ?_; (case side1 => repeat (first | exact (Kd.R_reads' HO0.out).2.2 | (with_reducible refine Kd.C_alloc ?_ _) | (with_reducible refine Kd.C_drewN ?_ _) | (with_reducible refine Kd.C_drew ?_))); (case side2 => exact (Kd.R_reads' HO0.out).2.1); intro w6 hb; replace HO0 := uR HO0 hb; replace HK := Aside0.mk (Kept.below (S := (fun k_ => P0_ k_)) (by repeat (first | (with_reducible first | exact HK.out | apply Kept.alloc | apply Kept.drewN | apply Kept.drew) | exact HK.out)) hb); replace HB := uB HB hb; (try clear hb); (try clear hk)))
  go_ret
  exact ⟨_, eB, upR HO0.out, (bW HB), by repeat (first | (with_reducible first | exact HK.out | apply Kept.alloc | apply Kept.drewN | apply Kept.drew) | exact HK.out)⟩
 ·have H' := Aside0.mk H
  clear H
  obtain ⟨Ao7, co7, eo7⟩ := Kd.R_slice HO0.out
  subst eo7
  go_enter Try.func66, Try.ntmps66
  go_wp2_with (first | ((with_reducible refine gC 53 ?_); refine lA (some 10) Try.func53 (impl_Lead_53.calls k _ _ l0 a1 t201 _ ?side1 ?side2 A3.out) ?_; (case side1 => repeat (first | exact (Kd.R_reads' HO0.out).2.2 | (with_reducible refine Kd.C_alloc ?_ _) | (with_reducible refine Kd.C_drewN ?_ _) | (with_reducible refine Kd.C_drew ?_))); (case side2 => exact (Kd.R_reads' HO0.out).2.1); intro w8 hb; replace HO0 := uR HO0 hb; replace HK := Aside0.mk (Kept.below (S := (fun k_ => P0_ k_)) (by repeat (first | (with_reducible first | exact HK.out | apply Kept.alloc | apply Kept.drewN | apply Kept.drew) | exact HK.out)) hb); replace HB := uB HB hb; (try clear hb); (try clear hk)))
  (try simp only [Act.put, List.setIfInBounds_toArray, List.set_cons_zero, List.set_cons_succ])
  go_loopg [5, 6] k (fun kq v5 v6 w' => ∃ (x0_1 : List (S25)) (x5_1 x6_1 : Int), v5 = .int .i64 x5_1 ∧ v6 = .int .i64 x6_1 ∧ Aside0 (impl_Lead_66.l0 kq x0_1 x5_1 x6_1 = some r) ∧ Aside0 (kq ≤ k) ∧ Aside0 (Kd.R k25 25 w' w0.heap.size (fun k_ => (P0_ k_ ∨ w.heap.size ≤ k_)) (.slice Ao7 l0.length co7) x0_1) ∧ Aside0 (Kept w w' (fun k_ => P0_ k_)) ∧ Aside0 (Below w0.heap.size w0 w'))
  case atStart => exact ⟨(l0), (t201), (wrap64 (t201 + 1)), rB, rB, H', ⟨Nat.le_refl _⟩, ⟨upR HO0.out⟩, ⟨by repeat (first | (with_reducible first | exact HK.out | apply Kept.alloc | apply Kept.drewN | apply Kept.drew) | exact HK.out)⟩, (aB HB)⟩
  case round =>
   clear H'
   try clear c4
   try clear c4b0
   try clear c4b1
   obtain ⟨x0_1, x5_1, x6_1, rfl, rfl, HA, HK1, HO_0, HK, HB⟩ := hrel
   have hl0_1 := (Kd.R_reads' HO_0.out).1
   rw [hl0_1] at HO_0
   (try simp only [hl0_1])
   cases gk with
   | zero => exact absurd HA.out (by simp [impl_Lead_66.l0])
   | succ k1 =>
    have H := HA.out
    clear HA
    simp only [impl_Lead_66.l0] at H
    replace H := ifD H
    rcases H with ⟨H, -, c9b0⟩ | ⟨H, -, c9b0⟩
    ·by_cases c10 : 0 ≤ x6_1
     ·rw [if_pos c10] at H
      have c10b0 : decide (0 ≤ x6_1) = true := decide_eq_true c10
      clear c10
      replace H := bA H
      obtain ⟨t204, A11, H⟩ := H
      rcases Bool.eq_false_or_eq_true t204 with rfl | rfl
      ·replace H := iT rfl H
       have H' := Aside0.mk H
       clear H
       have p202 : 0 ≤ (x6_1 : Int) := of_decide_eq_true asmB
       have q202 : x6_1 < (x0_1.length : Int) := of_decide_eq_true asmB
       obtain ⟨ad202, e202, hx202_0, hx202_1, hx202_2, hx202_3, hx202_4⟩ := at_T25 (Kd.R_reads' HO_0.out).2.2 x6_1 p202 q202
       cases e202
       replace p202 := eq_true p202
       replace q202 := eq_true q202
       go_wp2_with (first | ((with_reducible refine gD 7 ?_); refine bxE 7 25 #[.int .i64 0, .int .i64 0, .int .i64 0, .int .i64 0, .int .i64 0] fun gb203 w13 hg hbox hb => ?_; have BK203 := Aside0.mk hbox; have GW203 := Aside0.mk ((by rw [hg]; exact (by first | exact HK.out.1 | exact (show Kept w _ (fun k_ => P0_ k_) from by repeat (first | (with_reducible first | exact HK.out | apply Kept.alloc | apply Kept.drewN | apply Kept.drew) | exact HK.out)).1) : w.heap.size ≤ gb203)); have GE203 := Aside0.mk ((by rw [hg]; exact (below_size (bW HB)) : w0.heap.size ≤ gb203)); replace HO_0 := Aside0.mk (Kd.R_below (Kd.R_elderB (upR HO_0.out) gb203 (Nat.le_of_eq hg.symm)) hb); replace HK := Aside0.mk (Kept.below (S := (fun k_ => P0_ k_)) (by repeat (first | (with_reducible first | exact HK.out | apply Kept.alloc | apply Kept.drewN | apply Kept.drew) | exact HK.out)) hb); replace HB := uB HB hb; clear hb hbox hg; have ⟨hcz14_0, hcz14_1, hcz14_2, hcz14_3, hcz14_4, hfz14_0⟩ := cz5 BK203) | (go_at_call 67; (with_reducible refine (impl_ranked_1.calls ((rd_T25 x0_1 x6_1).f0) ((rd_T25 x0_1 x6_1).f1) ((rd_T25 x0_1 x6_1).f2) ((rd_T25 x0_1 x6_1).f3) ((rd_T25 x0_1 x6_1).f4) true _ A11.out).mono ?_); rintro e w15 ⟨rfl, hb⟩; replace HO_0 := Aside0.mk (Kd.R_below (by (with_reducible repeat (first | apply Kd.R_alloc | apply Kd.R_drewN | apply Kd.R_drew)); exact (Kd.R_mono (Kd.R_far (p := ⟨gb203, 4, none⟩) (Kd.R_far (p := ⟨gb203, 3, none⟩) (Kd.R_far (p := ⟨gb203, 2, none⟩) (Kd.R_far (p := ⟨gb203, 1, none⟩) (Kd.R_far (p := ⟨gb203, 0, none⟩) (Kd.R_mono HO_0.out (fun k_ hk => (⟨hk, hk.2⟩ : _ ∧ k_ ≠ gb203))) (fun _ hk => hk.2) (.int .i64 ((rd_T25 x0_1 x6_1).f0))) (fun _ hk => hk.2) (.int .i64 ((rd_T25 x0_1 x6_1).f1))) (fun _ hk => hk.2) (.int .i64 ((rd_T25 x0_1 x6_1).f2))) (fun _ hk => hk.2) (.int .i64 ((rd_T25 x0_1 x6_1).f3))) (fun _ hk => hk.2) (.int .i64 ((rd_T25 x0_1 x6_1).f4))) (fun _ h_ => h_.1))) hb); replace BK203 := uQ BK203 hb #[.int .i64 ((rd_T25 x0_1 x6_1).f0), .int .i64 ((rd_T25 x0_1 x6_1).f1), .int .i64 ((rd_T25 x0_1 x6_1).f2), .int .i64 ((rd_T25 x0_1 x6_1).f3), .int .i64 ((rd_T25 x0_1 x6_1).f4)]; replace HK := Aside0.mk (Kept.below (S := (fun k_ => P0_ k_)) (by repeat (first | (with_reducible first | exact HK.out | apply Kept.alloc | apply Kept.drewN | apply Kept.drew | refine Kept.setCell ?_ (.inr GW203.out) _) | exact HK.out)) hb); replace HB := uB HB hb; (try clear hb); (try clear hk)))
       (try simp only [← hl0_1])
       go_roundg k1
       case measure => have := HK1.out; omega
       case rel => exact ⟨(x0_1), (x5_1), (wrap64 (x6_1 + 1)), rB, rB, H', ⟨by have := HK1.out; omega⟩, ⟨by (try simp only [hl0_1]); (with_reducible repeat (first | apply Kd.R_alloc | apply Kd.R_drewN | apply Kd.R_drew)); exact Kd.R_mono HO_0.out (fun _ hk => hk.1)⟩, ⟨by repeat (first | (with_reducible first | exact HK.out | apply Kept.alloc | apply Kept.drewN | apply Kept.drew | refine Kept.setCell ?_ (.inr GW203.out) _) | exact HK.out)⟩, (aB HB)⟩
      ·replace H := iF (by decide) H
       by_cases c16 : 0 ≤ x5_1
       ·rw [if_pos c16] at H
        have c16b0 : decide (0 ≤ x5_1) = true := decide_eq_true c16
        clear c16
        by_cases c17 : x5_1 < (x0_1.length : Int)
        ·rw [if_pos c17] at H
         have c17b0 : decide (x5_1 < (x0_1.length : Int)) = true := decide_eq_true c17
         clear c17
         obtain ⟨y205, hy205⟩ : ∃ y_ : List (S25), y_ = (x0_1.set (x5_1 : Int).toNat (⟨(rd_T25 x0_1 x6_1).f0, (rd_T25 x0_1 x6_1).f1, (rd_T25 x0_1 x6_1).f2, (rd_T25 x0_1 x6_1).f3, (rd_T25 x0_1 x6_1).f4⟩ : S25)) := ⟨_, rfl⟩
         replace H : (impl_Lead_66.l0 k1 y205 (wrap64 (x5_1 + 1)) (wrap64 (x6_1 + 1))) = some r := by first | (rw [hy205]; with_reducible exact H) | (have H2_ := (Option.bind_some _ _).symm.trans H; rw [hy205]; with_reducible exact H2_) | (have H2_ := (Option.bind_some _ _).symm.trans H; with_reducible exact H2_) | with_reducible exact H | (rw [hy205]; exact H) | exact H
         have Ny205 := Aside0.mk hy205
         clear hy205
         have H' := Aside0.mk H
         clear H
         have p202 : 0 ≤ (x6_1 : Int) := of_decide_eq_true asmB
         have q202 : x6_1 < (x0_1.length : Int) := of_decide_eq_true asmB
         obtain ⟨ad202, e202, hx202_0, hx202_1, hx202_2, hx202_3, hx202_4⟩ := at_T25 (Kd.R_reads' HO_0.out).2.2 x6_1 p202 q202
         cases e202
         replace p202 := eq_true p202
         replace q202 := eq_true q202
         go_wp2_with (first | ((with_reducible refine gD 7 ?_); refine bxE 7 25 #[.int .i64 0, .int .i64 0, .int .i64 0, .int .i64 0, .int .i64 0] fun gb203 w19 hg hbox hb => ?_; have BK203 := Aside0.mk hbox; have GW203 := Aside0.mk ((by rw [hg]; exact (by first | exact HK.out.1 | exact (show Kept w _ (fun k_ => P0_ k_) from by repeat (first | (with_reducible first | exact HK.out | apply Kept.alloc | apply Kept.drewN | apply Kept.drew) | exact HK.out)).1) : w.heap.size ≤ gb203)); have GE203 := Aside0.mk ((by rw [hg]; exact (below_size (bW HB)) : w0.heap.size ≤ gb203)); replace HO_0 := Aside0.mk (Kd.R_below (Kd.R_elderB (upR HO_0.out) gb203 (Nat.le_of_eq hg.symm)) hb); replace HK := Aside0.mk (Kept.below (S := (fun k_ => P0_ k_)) (by repeat (first | (with_reducible first | exact HK.out | apply Kept.alloc | apply Kept.drewN | apply Kept.drew) | exact HK.out)) hb); replace HB := uB HB hb; clear hb hbox hg; have ⟨hcz20_0, hcz20_1, hcz20_2, hcz20_3, hcz20_4, hfz20_0⟩ := cz5 BK203) | (go_at_call 67; (with_reducible refine (impl_ranked_1.calls ((rd_T25 x0_1 x6_1).f0) ((rd_T25 x0_1 x6_1).f1) ((rd_T25 x0_1 x6_1).f2) ((rd_T25 x0_1 x6_1).f3) ((rd_T25 x0_1 x6_1).f4) false _ A11.out).mono ?_); rintro e w21 ⟨rfl, hb⟩; replace HO_0 := Aside0.mk (Kd.R_below (by (with_reducible repeat (first | apply Kd.R_alloc | apply Kd.R_drewN | apply Kd.R_drew)); exact (Kd.R_mono (Kd.R_far (p := ⟨gb203, 4, none⟩) (Kd.R_far (p := ⟨gb203, 3, none⟩) (Kd.R_far (p := ⟨gb203, 2, none⟩) (Kd.R_far (p := ⟨gb203, 1, none⟩) (Kd.R_far (p := ⟨gb203, 0, none⟩) (Kd.R_mono HO_0.out (fun k_ hk => (⟨hk, hk.2⟩ : _ ∧ k_ ≠ gb203))) (fun _ hk => hk.2) (.int .i64 ((rd_T25 x0_1 x6_1).f0))) (fun _ hk => hk.2) (.int .i64 ((rd_T25 x0_1 x6_1).f1))) (fun _ hk => hk.2) (.int .i64 ((rd_T25 x0_1 x6_1).f2))) (fun _ hk => hk.2) (.int .i64 ((rd_T25 x0_1 x6_1).f3))) (fun _ hk => hk.2) (.int .i64 ((rd_T25 x0_1 x6_1).f4))) (fun _ h_ => h_.1))) hb); replace BK203 := uQ BK203 hb #[.int .i64 ((rd_T25 x0_1 x6_1).f0), .int .i64 ((rd_T25 x0_1 x6_1).f1), .int .i64 ((rd_T25 x0_1 x6_1).f2), .int .i64 ((rd_T25 x0_1 x6_1).f3), .int .i64 ((rd_T25 x0_1 x6_1).f4)]; replace HK := Aside0.mk (Kept.below (S := (fun k_ => P0_ k_)) (by repeat (first | (with_reducible first | exact HK.out | apply Kept.alloc | apply Kept.drewN | apply Kept.drew | refine Kept.setCell ?_ (.inr GW203.out) _) | exact HK.out)) hb); replace HB := uB HB hb; (try clear hb); (try clear hk); have ⟨hcz22_0, hcz22_1, hcz22_2, hcz22_3, hcz22_4, hfz22_0⟩ := cz5 BK203; have p18 : 0 ≤ (x5_1 : Int) := of_decide_eq_true asmB; have q18 : (x5_1 : Int) < ((x0_1.length : Int) : Int) := of_decide_eq_true asmB; obtain ⟨go18, co18, eo18, gb18, gl18, cl18, HG18⟩ := Kd.R_form HO_0.out (by omega); (first | cases eo18 | (injection eo18 with ea_ en_ ec_; (first | subst ea_ | (injection ea_ with ea_; subst ea_)); subst ec_; clear en_)); have GB18 := Aside0.mk gb18; have GG18 := Aside0.mk HG18; clear gb18 gl18 HG18; have HMgo18 := Aside0.mk (show (P0_ go18 ∨ w.heap.size ≤ go18) from (HO_0.out.1 _ rfl).1); (first | simp only [add_plain] at hx202_0 | skip); (first | simp only [add_plain] at hx202_1 | skip); (first | simp only [add_plain] at hx202_2 | skip); (first | simp only [add_plain] at hx202_3 | skip); (first | simp only [add_plain] at hx202_4 | skip); obtain ⟨ce18, hcl18, hM18, hcc18, hfr18⟩ := Kd.R_elem HO_0.out z25 (x5_1 : Int) p18 q18; obtain rfl := k25_openM hM18; have hx18_0 : w21.cell? ⟨go18, (x5_1 : Int).toNat * 5, none⟩ = some (.int .i64 ((rd_T25 x0_1 x5_1).f0)) := hcc18 0 _ rfl; have hx18_1 : w21.cell? ⟨go18, (x5_1 : Int).toNat * 5 + 1, none⟩ = some (.int .i64 ((rd_T25 x0_1 x5_1).f1)) := hcc18 1 _ rfl; have hx18_2 : w21.cell? ⟨go18, (x5_1 : Int).toNat * 5 + 2, none⟩ = some (.int .i64 ((rd_T25 x0_1 x5_1).f2)) := hcc18 2 _ rfl; have hx18_3 : w21.cell? ⟨go18, (x5_1 : Int).toNat * 5 + 3, none⟩ = some (.int .i64 ((rd_T25 x0_1 x5_1).f3)) := hcc18 3 _ rfl; have hx18_4 : w21.cell? ⟨go18, (x5_1 : Int).toNat * 5 + 4, none⟩ = some (.int .i64 ((rd_T25 x0_1 x5_1).f4)) := hcc18 4 _ rfl; have hf18_0 : w21.frozen? ⟨go18, (x5_1 : Int).toNat * 5, none⟩ = false := hfr18 0; have hf18_1 : w21.frozen? ⟨go18, (x5_1 : Int).toNat * 5 + 1, none⟩ = false := hfr18 1; have hf18_2 : w21.frozen? ⟨go18, (x5_1 : Int).toNat * 5 + 2, none⟩ = false := hfr18 2; have hf18_3 : w21.frozen? ⟨go18, (x5_1 : Int).toNat * 5 + 3, none⟩ = false := hfr18 3; have hf18_4 : w21.frozen? ⟨go18, (x5_1 : Int).toNat * 5 + 4, none⟩ = false := hfr18 4; clear hcl18 hcc18 hfr18 hM18; replace p18 := eq_true p18; replace q18 := eq_true q18; have HX23 := Aside0.mk (show Kd.R k25 25 w21 w0.heap.size (fun k_ => (P0_ k_ ∨ w.heap.size ≤ k_) ∧ k_ ≠ gb203) (.slice (some ⟨go18, 0, none⟩) x0_1.length co7) x0_1 from (upR HO_0.out)); obtain ⟨ce23, hcl23, hM23, hcc23, hfr23⟩ := Kd.R_elem HX23.out z25 (x5_1 : Int) (of_decide_eq_true asmB) (by have h_ : (x5_1 : Int) < ((x0_1.length : Int) : Int) := of_decide_eq_true asmB; first | exact h_ | (have e_ := (Kd.R_reads' HO_0.out).1; omega) | simpa using h_); obtain rfl := k25_openM hM23; have HP23 := Kd.R_seg HX23.out (x5_1 : Int) (of_decide_eq_true asmB) (by have h_ : (x5_1 : Int) < ((x0_1.length : Int) : Int) := of_decide_eq_true asmB; first | exact h_ | (have e_ := (Kd.R_reads' HO_0.out).1; omega) | simpa using h_) (seg := [.int .i64 ((rd_T25 x0_1 x6_1).f0), .int .i64 ((rd_T25 x0_1 x6_1).f1), .int .i64 ((rd_T25 x0_1 x6_1).f2), .int .i64 ((rd_T25 x0_1 x6_1).f3), .int .i64 ((rd_T25 x0_1 x6_1).f4)]) (j := 0) hcl23 hcc23 (show 5 ≤ 5 from by decide) (x' := (⟨(rd_T25 x0_1 x6_1).f0, (rd_T25 x0_1 x6_1).f1, (rd_T25 x0_1 x6_1).f2, (rd_T25 x0_1 x6_1).f3, (rd_T25 x0_1 x6_1).f4⟩ : S25)) (k25_mkM _ _ _ (⟨(rd_T25 x0_1 x6_1).f0, (rd_T25 x0_1 x6_1).f1, (rd_T25 x0_1 x6_1).f2, (rd_T25 x0_1 x6_1).f3, (rd_T25 x0_1 x6_1).f4⟩ : S25) ) (fun _ hk => hk); have hx23_0 := hcc23 0 _ rfl; (try simp only [show (k25).sz = 5 from rfl, Nat.mul_one, Nat.add_zero] at hx23_0); have hf23_0 := hfr23 0; (try simp only [show (k25).sz = 5 from rfl, Nat.mul_one, Nat.add_zero] at hf23_0); have hx23_1 := hcc23 1 _ rfl; (try simp only [show (k25).sz = 5 from rfl, Nat.mul_one, Nat.add_zero] at hx23_1); have hf23_1 := hfr23 1; (try simp only [show (k25).sz = 5 from rfl, Nat.mul_one, Nat.add_zero] at hf23_1); have hx23_2 := hcc23 2 _ rfl; (try simp only [show (k25).sz = 5 from rfl, Nat.mul_one, Nat.add_zero] at hx23_2); have hf23_2 := hfr23 2; (try simp only [show (k25).sz = 5 from rfl, Nat.mul_one, Nat.add_zero] at hf23_2); have hx23_3 := hcc23 3 _ rfl; (try simp only [show (k25).sz = 5 from rfl, Nat.mul_one, Nat.add_zero] at hx23_3); have hf23_3 := hfr23 3; (try simp only [show (k25).sz = 5 from rfl, Nat.mul_one, Nat.add_zero] at hf23_3); have hx23_4 := hcc23 4 _ rfl; (try simp only [show (k25).sz = 5 from rfl, Nat.mul_one, Nat.add_zero] at hx23_4); have hf23_4 := hfr23 4; (try simp only [show (k25).sz = 5 from rfl, Nat.mul_one, Nat.add_zero] at hf23_4); clear hcl23 hcc23 hfr23 hM23) | ((with_reducible refine gate_store (t := 25) (p := 33) rfl ?_); refine store_event (t := 25) (p := 33) (v := ?vo_w24) (w1 := (((((w21.setCell ⟨go18, (x5_1 : Int).toNat * 5, none⟩ (.int .i64 ((rd_T25 x0_1 x6_1).f0))).setCell ⟨go18, (x5_1 : Int).toNat * 5 + 1, none⟩ (.int .i64 ((rd_T25 x0_1 x6_1).f1))).setCell ⟨go18, (x5_1 : Int).toNat * 5 + 2, none⟩ (.int .i64 ((rd_T25 x0_1 x6_1).f2))).setCell ⟨go18, (x5_1 : Int).toNat * 5 + 3, none⟩ (.int .i64 ((rd_T25 x0_1 x6_1).f3))).setCell ⟨go18, (x5_1 : Int).toNat * 5 + 4, none⟩ (.int .i64 ((rd_T25 x0_1 x6_1).f4)))) ?hg ?ho ?hn ?hr ?_; (case ho => rfl); (case hg => rfl); (case hn => rfl); (case hr => first | (go_simp; done) | (go_simp; rfl)); intro w24 hw; have hg : w21.grownBy w24 (some go18) := (by rw [hw]; exact HP23.2); have hp_ : Kd.R k25 25 w24 w0.heap.size (fun k_ => (P0_ k_ ∨ w.heap.size ≤ k_) ∧ k_ ≠ gb203) (.slice (some ⟨go18, 0, none⟩) x0_1.length co7) y205 := (by rw [hw, Ny205.out]; exact HP23.1); clear HP23; replace BK203 := Aside0.mk (blk_grown (g := gb203) (o := .cells #[.int .i64 ((rd_T25 x0_1 x6_1).f0), .int .i64 ((rd_T25 x0_1 x6_1).f1), .int .i64 ((rd_T25 x0_1 x6_1).f2), .int .i64 ((rd_T25 x0_1 x6_1).f3), .int .i64 ((rd_T25 x0_1 x6_1).f4)] 25 (0, 0)) (upK BK203.out) hg (Kd.R_away HO_0.out (fun _ hk => hk.2))); replace HB := Aside0.mk ((by rw [hw]; exact below_set (below_set (below_set (below_set (below_set (HB.out) GB18.out) GB18.out) GB18.out) GB18.out) GB18.out : Below w0.heap.size w0 w24)); replace HK := Aside0.mk (Kept.of_grown (S := (fun k_ => P0_ k_)) hg (by repeat (first | (with_reducible first | exact HK.out | apply Kept.alloc | apply Kept.drewN | apply Kept.drew | refine Kept.setCell ?_ (.inr GW203.out) _) | exact HK.out)) (fun k_ e_ => (HO_0.out.1 k_ e_).1)); replace HO_0 := Aside0.mk (hp_); clear hg hw hp_))
         (try simp only [← hl0_1])
         go_roundg k1
         case measure => have := HK1.out; omega
         case rel => exact ⟨(y205), (wrap64 (x5_1 + 1)), (wrap64 (x6_1 + 1)), rB, rB, H', ⟨by have := HK1.out; omega⟩, ⟨by (try simp only [hl0_1]); (with_reducible repeat (first | apply Kd.R_alloc | apply Kd.R_drewN | apply Kd.R_drew)); exact Kd.R_mono HO_0.out (fun _ hk => hk.1)⟩, ⟨by repeat (first | (with_reducible first | exact HK.out | apply Kept.alloc | apply Kept.drewN | apply Kept.drew | refine Kept.setCell ?_ (.inr GW203.out) _) | exact HK.out)⟩, (aB HB)⟩
        ·rw [if_neg c17] at H
         exact absurd H (by simp)
       ·rw [if_neg c16] at H
        exact absurd H (by simp)
     ·rw [if_neg c10] at H
      exact absurd H (by simp)
    ·by_cases c25 : 0 ≤ x5_1
     ·rw [if_pos c25] at H
      have c25b0 := eq_true c25
      have c25b1 : decide (0 ≤ x5_1) = true := decide_eq_true c25
      clear c25
      by_cases c26 : x5_1 ≤ (x0_1.length : Int)
      ·rw [if_pos c26] at H
       have c26b0 := eq_true c26
       have c26b1 : decide (x5_1 ≤ (x0_1.length : Int)) = true := decide_eq_true c26
       clear c26
       obtain ⟨y206, hy206⟩ : ∃ y_ : List (S25), y_ = (x0_1.take (x5_1 : Int).toNat) := ⟨_, rfl⟩
       replace H : (some y206) = some r := by first | (rw [hy206]; with_reducible exact H) | (have H2_ := (Option.bind_some _ _).symm.trans H; rw [hy206]; with_reducible exact H2_) | (have H2_ := (Option.bind_some _ _).symm.trans H; with_reducible exact H2_) | with_reducible exact H | (rw [hy206]; exact H) | exact H
       have Ny206 := Aside0.mk hy206
       clear hy206
       obtain rfl := Option.some.inj H
       obtain ⟨i0c_, hi0c_, hzc_⟩ := Option.map_eq_some_iff.1 info25
       simp only [Prod.mk.injEq] at hzc_
       obtain ⟨Ac_, nc_, cc_, Wc_, hcutc_, hclrc_, hoc_, hgrc_⟩ := clear_own _ x5_1 Try.underlying31 hi0c_ hzc_.1 hzc_.2.1 rfl (by intro v_ hv_; simp [Value.cells] at hv_; subst hv_; rfl) HO_0.out (of_decide_eq_true asmB) (of_decide_eq_true asmB)
       have hbc_ := Aside0.mk (HB.out.grown hgrc_ HB.out.size (fun k_ e_ => Kd.R_base HO_0.out k_ e_))
       have hkc_ := Aside0.mk (Kept.of_grown hgrc_ HK.out (fun k_ e_ => HO_0.out.1 k_ e_))
       clear hi0c_ hzc_ hgrc_ HB HK
       have HB := hbc_
       have HK := hkc_
       clear hbc_ hkc_
       have q27 : (x5_1 : Int) ≤ ((x0_1.length : Int) : Int) := of_decide_eq_true asmB
       obtain ⟨i027, hi027, _, hsz27, _⟩ := info_parts info25
       have hcut27 := cut_to (P := Try.prog) 31 25 .i64 Try.underlying31 hi027 Ao7 x0_1.length co7 x5_1 (of_decide_eq_true asmB) q27 (Kd.R_reads' HO_0.out).2.1
       have hr27 := hoc_
       have hy27 : y206.length = (x5_1 : Int).toNat := (by rw [Ny206.out, List.length_take]; omega)
       rw [← Ny206.out] at hr27
       rw [← hy27] at hr27 hcut27
       clear hy27 hi027 hsz27 HO_0
       have HO208 := Aside0.mk hr27
       clear hr27
       replace q27 := eq_true q27
       go_wp2_with (simp only [hclrc_])
       go_ret
       exact ⟨_, eB, upR HO208.out, (bW HB), by repeat (first | (with_reducible first | exact HK.out | apply Kept.alloc | apply Kept.drewN | apply Kept.drew) | exact HK.out)⟩
      ·rw [if_neg c26] at H
       exact absurd H (by simp)
     ·rw [if_neg c25] at H
      exact absurd H (by simp)

/-! ### cmp_isNaN_int: function 75 -/
def cmp_isNaN_int.f (a0 : Int) : Option (Bool) := some (a0 != a0)
set_option maxHeartbeats 8000000 in
set_option maxRecDepth 100000 in
theorem cmp_isNaN_int.calls (a0 : Int) (r : Bool) (w : World) (h : cmp_isNaN_int.f a0 = some r) :
  Calls Try.prog 75 #[.int .i64 a0] w fun e w' => e = .returned (.bool r) ∧ Drawn0 w w' := by
 have H : (some (a0 != a0)) = some r := h
 clear h
 obtain rfl := Option.some.inj H
 go_enter Try.func75, Try.ntmps75
 go_wp2
 go_ret
 exact ⟨rB, by repeat (first | exact Drawn0.refl _ | apply Drawn0.step)⟩

/-! ### cmp_Compare_int: function 70 -/
def cmp_Compare_int.f (a0 a1 : Int) : Option (Int) := (cmp_isNaN_int.f a0).bind fun t209 => ((cmp_isNaN_int.f a1).bind fun t210 => (if t209 = true then (if t210 = true then (some 0) else (some (-1))) else (if t210 = true then (some 1) else (if a0 < a1 then (some (-1)) else (if a0 > a1 then (some 1) else (some 0))))))
set_option maxHeartbeats 8000000 in
set_option maxRecDepth 100000 in
theorem cmp_Compare_int.calls (a0 a1 r : Int) (w : World) (h : cmp_Compare_int.f a0 a1 = some r) :
  Calls Try.prog 70 #[.int .i64 a0, .int .i64 a1] w fun e w' => e = .returned (.int .i64 r) ∧ Drawn0 w w' := by
 have H := h
 clear h
 unfold cmp_Compare_int.f at H
 replace H := bA H
 obtain ⟨t209, A3, H⟩ := H
 replace H := bA H
 obtain ⟨t210, A4, H⟩ := H
 rcases Bool.eq_false_or_eq_true t209 with rfl | rfl
 ·replace H := iT rfl H
  rcases Bool.eq_false_or_eq_true t210 with rfl | rfl
  ·replace H := iT rfl H
   obtain rfl := Option.some.inj H
   go_enter Try.func70, Try.ntmps70
   go_wp2_with (first | ((with_reducible refine gC 75 ?_); refine lA (some 8) Try.func75 (cmp_isNaN_int.calls a0 true _ A3.out) ?_; rintro _ ⟨nd, rfl⟩) | ((with_reducible refine gC 75 ?_); refine lA (some 10) Try.func75 (cmp_isNaN_int.calls a1 true _ A4.out) ?_; rintro _ ⟨nd, rfl⟩))
   go_ret
   exact ⟨rB, by repeat (first | exact Drawn0.refl _ | apply Drawn0.step)⟩
  ·replace H := iF (by decide) H
   obtain rfl := Option.some.inj H
   go_enter Try.func70, Try.ntmps70
   go_wp2_with (first | ((with_reducible refine gC 75 ?_); refine lA (some 8) Try.func75 (cmp_isNaN_int.calls a0 true _ A3.out) ?_; rintro _ ⟨nd, rfl⟩) | ((with_reducible refine gC 75 ?_); refine lA (some 10) Try.func75 (cmp_isNaN_int.calls a1 false _ A4.out) ?_; rintro _ ⟨nd, rfl⟩))
   go_ret
   exact ⟨rB, by repeat (first | exact Drawn0.refl _ | apply Drawn0.step)⟩
 ·replace H := iF (by decide) H
  rcases Bool.eq_false_or_eq_true t210 with rfl | rfl
  ·replace H := iT rfl H
   obtain rfl := Option.some.inj H
   go_enter Try.func70, Try.ntmps70
   go_wp2_with (first | ((with_reducible refine gC 75 ?_); refine lA (some 8) Try.func75 (cmp_isNaN_int.calls a0 false _ A3.out) ?_; rintro _ ⟨nd, rfl⟩) | ((with_reducible refine gC 75 ?_); refine lA (some 10) Try.func75 (cmp_isNaN_int.calls a1 true _ A4.out) ?_; rintro _ ⟨nd, rfl⟩))
   go_ret
   exact ⟨rB, by repeat (first | exact Drawn0.refl _ | apply Drawn0.step)⟩
  ·replace H := iF (by decide) H
   replace H := ifD H
   rcases H with ⟨H, -, c8b0⟩ | ⟨H, -, c8b0⟩
   ·obtain rfl := Option.some.inj H
    go_enter Try.func70, Try.ntmps70
    go_wp2_with (first | ((with_reducible refine gC 75 ?_); refine lA (some 8) Try.func75 (cmp_isNaN_int.calls a0 false _ A3.out) ?_; rintro _ ⟨nd, rfl⟩) | ((with_reducible refine gC 75 ?_); refine lA (some 10) Try.func75 (cmp_isNaN_int.calls a1 false _ A4.out) ?_; rintro _ ⟨nd, rfl⟩))
    go_ret
    exact ⟨rB, by repeat (first | exact Drawn0.refl _ | apply Drawn0.step)⟩
   ·replace H := ifD H
    rcases H with ⟨H, -, c9b0⟩ | ⟨H, -, c9b0⟩
    ·obtain rfl := Option.some.inj H
     go_enter Try.func70, Try.ntmps70
     go_wp2_with (first | ((with_reducible refine gC 75 ?_); refine lA (some 8) Try.func75 (cmp_isNaN_int.calls a0 false _ A3.out) ?_; rintro _ ⟨nd, rfl⟩) | ((with_reducible refine gC 75 ?_); refine lA (some 10) Try.func75 (cmp_isNaN_int.calls a1 false _ A4.out) ?_; rintro _ ⟨nd, rfl⟩))
     go_ret
     exact ⟨rB, by repeat (first | exact Drawn0.refl _ | apply Drawn0.step)⟩
    ·obtain rfl := Option.some.inj H
     go_enter Try.func70, Try.ntmps70
     go_wp2_with (first | ((with_reducible refine gC 75 ?_); refine lA (some 8) Try.func75 (cmp_isNaN_int.calls a0 false _ A3.out) ?_; rintro _ ⟨nd, rfl⟩) | ((with_reducible refine gC 75 ?_); refine lA (some 10) Try.func75 (cmp_isNaN_int.calls a1 false _ A4.out) ?_; rintro _ ⟨nd, rfl⟩))
     go_ret
     exact ⟨rB, by repeat (first | exact Drawn0.refl _ | apply Drawn0.step)⟩

/-! ### impl_Lead_worth: function 71 -/
def impl_Lead_worth.f (a0_0 a0_1 a0_2 a0_3 a0_4 : Int) : Option (Int) := some (wrap64 ((wrap64 (3 * a0_2)) + a0_3))
set_option maxHeartbeats 8000000 in
set_option maxRecDepth 100000 in
theorem impl_Lead_worth.calls (a0_0 a0_1 a0_2 a0_3 a0_4 r : Int) (w : World) (h : impl_Lead_worth.f a0_0 a0_1 a0_2 a0_3 a0_4 = some r) :
  Calls Try.prog 71 #[.agg #[.int .i64 a0_0, .int .i64 a0_1, .int .i64 a0_2, .int .i64 a0_3, .int .i64 a0_4]] w fun e w' => e = .returned (.int .i64 r) ∧ Below w.heap.size w w' := by
 have hu25 := Try.underlying25
 have HB := Aside0.mk (Below.refl w.heap.size w)
 have H : (some (wrap64 ((wrap64 (3 * a0_2)) + a0_3))) = some r := h
 clear h
 obtain rfl := Option.some.inj H
 go_enter Try.func71, Try.ntmps71
 go_wp2_with (first | ((with_reducible refine gD 1 ?_); refine bxE 1 25 #[.int .i64 a0_0, .int .i64 a0_1, .int .i64 a0_2, .int .i64 a0_3, .int .i64 a0_4] fun gb211 w2 hg hbox hb => ?_; have BK211 := Aside0.mk hbox; have GE211 := gB HB hg; replace HB := uB HB hb; clear hb hbox hg; have ⟨hcz3_0, hcz3_1, hcz3_2, hcz3_3, hcz3_4, hfz3_0⟩ := cz5 BK211))
 go_ret
 exact ⟨eB, (bW HB)⟩

/-! ### impl_ranked_2: function 69 -/
def impl_ranked_2.f (a0_0 a0_1 a0_2 a0_3 a0_4 a1_0 a1_1 a1_2 a1_3 a1_4 : Int) : Option (Int) := (impl_Lead_worth.f a1_0 a1_1 a1_2 a1_3 a1_4).bind fun t214 => ((impl_Lead_worth.f a0_0 a0_1 a0_2 a0_3 a0_4).bind fun t215 => ((cmp_Compare_int.f t214 t215).bind fun t216 => (some t216)))
set_option maxHeartbeats 8000000 in
set_option maxRecDepth 100000 in
theorem impl_ranked_2.calls (a0_0 a0_1 a0_2 a0_3 a0_4 a1_0 a1_1 a1_2 a1_3 a1_4 r : Int) (w : World) (h : impl_ranked_2.f a0_0 a0_1 a0_2 a0_3 a0_4 a1_0 a1_1 a1_2 a1_3 a1_4 = some r) :
  Calls Try.prog 69 #[.agg #[.int .i64 a0_0, .int .i64 a0_1, .int .i64 a0_2, .int .i64 a0_3, .int .i64 a0_4], .agg #[.int .i64 a1_0, .int .i64 a1_1, .int .i64 a1_2, .int .i64 a1_3, .int .i64 a1_4]] w fun e w' => e = .returned (.int .i64 r) ∧ Below w.heap.size w w' := by
 have hu25 := Try.underlying25
 have HB := Aside0.mk (Below.refl w.heap.size w)
 have H := h
 clear h
 unfold impl_ranked_2.f at H
 replace H := bA H
 obtain ⟨t214, A3, H⟩ := H
 replace H := bA H
 obtain ⟨t215, A4, H⟩ := H
 replace H := bA H
 obtain ⟨t216, A5, H⟩ := H
 obtain rfl := Option.some.inj H
 go_enter Try.func69, Try.ntmps69
 try go_wp2_with (first | ((with_reducible refine gD 2 ?_); refine bxE 2 25 #[.int .i64 a0_0, .int .i64 a0_1, .int .i64 a0_2, .int .i64 a0_3, .int .i64 a0_4] fun gb212 w6 hg hbox hb => ?_; have BK212 := Aside0.mk hbox; have GE212 := gB HB hg; replace HB := uB HB hb; clear hb hbox hg) | ((with_reducible refine gD 3 ?_); refine bxE 3 25 #[.int .i64 a1_0, .int .i64 a1_1, .int .i64 a1_2, .int .i64 a1_3, .int .i64 a1_4] fun gb213 w7 hg hbox hb => ?_; have BK213 := Aside0.mk hbox; have GE213 := gB HB hg; have ⟨NB212_213, NB213_212⟩ := nB BK212 hg; replace BK212 := uK BK212 hb; replace HB := uB HB hb; clear hb hbox hg))
 replace BK212 := dK BK212
 replace BK213 := dK BK213
 replace HB := Aside0.mk (below_drew1 HB.out)
 refine start_ (n := 6) (S := fun w' => w'.cell? ⟨gb213, 0, none⟩ = some (.int .i64 a1_0) ∧ w'.cell? ⟨gb213, 1, none⟩ = some (.int .i64 a1_1) ∧ w'.cell? ⟨gb213, 2, none⟩ = some (.int .i64 a1_2) ∧ w'.cell? ⟨gb213, 3, none⟩ = some (.int .i64 a1_3) ∧ w'.cell? ⟨gb213, 4, none⟩ = some (.int .i64 a1_4) ∧ w'.cell? ⟨gb212, 0, none⟩ = some (.int .i64 a0_0) ∧ w'.cell? ⟨gb212, 1, none⟩ = some (.int .i64 a0_1) ∧ w'.cell? ⟨gb212, 2, none⟩ = some (.int .i64 a0_2) ∧ w'.cell? ⟨gb212, 3, none⟩ = some (.int .i64 a0_3) ∧ w'.cell? ⟨gb212, 4, none⟩ = some (.int .i64 a0_4)) (ds := []) #[false, false, false, false, false, false] (by kernel_rfl) rfl rfl ⟨cb BK213 0, cb BK213 1, cb BK213 2, cb BK213 3, cb BK213 4, cb BK212 0, cb BK212 1, cb BK212 2, cb BK212 3, cb BK212 4⟩ (fun hHeld => ?_)
 generalize w7.drew = w8 at BK212 BK213 HB hHeld ⊢
 refine take_ (i := 0) (N := some 5) (v := ?_) (a' := ?_) #[true, false, false, false, false, false] rfl rfl (by kernel_rfl) (fun _ _ _ h => h) (Or.inl ⟨by rfl, ?_⟩) hHeld ?_ ?_
 rotate_left
 ·rintro w' ⟨s0, s1, s2, s3, s4, s5, s6, s7, s8, s9⟩
  go_simp
  with_reducible rfl
 rotate_left
 ·simp only [Act.put, List.setIfInBounds_toArray, List.set_cons_zero, List.set_cons_succ, i64_w, i32_w]
  rfl
 refine take_ (i := 2) (N := some 7) (v := ?_) (a' := ?_) #[true, false, true, false, false, false] rfl rfl (by kernel_rfl) (fun _ _ _ h => h) (Or.inl ⟨by rfl, ?_⟩) hHeld ?_ ?_
 rotate_left
 ·rintro w' ⟨s0, s1, s2, s3, s4, s5, s6, s7, s8, s9⟩
  go_simp
  with_reducible rfl
 rotate_left
 ·simp only [Act.put, List.setIfInBounds_toArray, List.set_cons_zero, List.set_cons_succ, i64_w, i32_w]
  rfl
 refine one_ (i := 1) (N := some 6) #[true, true, true, false, false, false] rfl rfl (by kernel_rfl) (by decide) (fun K hK => ?_)
 refine rA Try.func71 (impl_Lead_worth.calls a1_0 a1_1 a1_2 a1_3 a1_4 t214 _ A3.out) ?_
 intro w9 hb
 replace BK212 := uK BK212 hb
 replace BK213 := uK BK213 hb
 replace HB := uB HB hb
 (try clear hb)
 refine hK.out _ _ ⟨cb BK213 0, cb BK213 1, cb BK213 2, cb BK213 3, cb BK213 4, cb BK212 0, cb BK212 1, cb BK212 2, cb BK212 3, cb BK212 4⟩ (fun hHeld => ?_)
 clear hK K
 refine nA ?_ (some 6)
 refine one_ (i := 3) (N := some 8) #[true, true, true, true, false, false] rfl rfl (by kernel_rfl) (by decide) (fun K hK => ?_)
 refine rA Try.func71 (impl_Lead_worth.calls a0_0 a0_1 a0_2 a0_3 a0_4 t215 _ A4.out) ?_
 intro w10 hb
 replace BK212 := uK BK212 hb
 replace BK213 := uK BK213 hb
 replace HB := uB HB hb
 (try clear hb)
 refine hK.out _ _ ⟨cb BK213 0, cb BK213 1, cb BK213 2, cb BK213 3, cb BK213 4, cb BK212 0, cb BK212 1, cb BK212 2, cb BK212 3, cb BK212 4⟩ (fun hHeld => ?_)
 clear hK K
 refine nA ?_ (some 8)
 refine one_ (i := 4) (N := some 9) #[true, true, true, true, true, false] rfl rfl (by kernel_rfl) (by decide) (fun K hK => ?_)
 refine rA Try.func70 (cmp_Compare_int.calls t214 t215 t216 _ A5.out) ?_
 rintro _ ⟨nd, rfl⟩
 refine hK.out _ _ ⟨cb BK213 0, cb BK213 1, cb BK213 2, cb BK213 3, cb BK213 4, cb BK212 0, cb BK212 1, cb BK212 2, cb BK212 3, cb BK212 4⟩ (fun hHeld => ?_)
 clear hK K
 refine nA ?_ (some 9)
 refine pure_ (i := 5) (N := some 4) (v := ?_) (a' := ?_) #[true, true, true, true, true, true] rfl rfl (by kernel_rfl) (fun _ _ _ h => h) (Or.inl ⟨by rfl, ?_⟩) ?_ ?_
 rotate_left
 ·intro w'
  go_simp
  with_reducible rfl
 rotate_left
 ·simp only [Act.put, List.setIfInBounds_toArray, List.set_cons_zero, List.set_cons_succ, i64_w, i32_w]
  rfl
 refine done_ (by kernel_rfl) ?_
 try go_wp2
 go_ret
 exact ⟨eB, (bW HB)⟩

end Go.Proofs.Ytldgjibimolcdaa.QFnLeadTrips
