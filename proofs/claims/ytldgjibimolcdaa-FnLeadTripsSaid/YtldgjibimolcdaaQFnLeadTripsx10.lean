/- Contracts of Go functions that FnLeadTrips reaches: the call computes what the plain function says. No condition. -/
import Derived.Test.YtldgjibimolcdaaQFnLeadTripsx0
import Derived.Test.YtldgjibimolcdaaQFnLeadTripsx3
import Derived.Test.YtldgjibimolcdaaQFnLeadTripsx5
import Derived.Test.YtldgjibimolcdaaQFnLeadTripsx6
import Derived.Test.YtldgjibimolcdaaQFnLeadTripsx7
import Derived.Test.YtldgjibimolcdaaQFnLeadTripsx8
import Derived.Test.YtldgjibimolcdaaQFnLeadTripsx9
namespace Go.Proofs.Ytldgjibimolcdaa.QFnLeadTrips
open Go.RowKit Go.Proofs.YtldgjibimolcdaaW.PrintWords Go.Proofs.YtldgjibimolcdaaW.PrintLast Go.Proofs.YtldgjibimolcdaaW.PrintMore
attribute [local go_sem] max2_int min2_int max_two min_two max_three min_three max_four min_four   -- for this text's walks alone
set_option linter.unusedVariables false
set_option linter.unusedSimpArgs false

-- NOT PRINTED: function 79 (impl_Lead_79)

-- NOT PRINTED: function 78 (impl_Lead_78)

-- NOT PRINTED: function 77 (impl_Lead_77)

/-! ### impl_Lead_74: function 74 -/
theorem guard20_ {α : Type} {p : Prop} [Decidable p] {x : Option α} {r : α} (h : (if p then x else none) = some r) : p ∧ x = some r := by
 split at h
 ·exact ⟨by assumption, h⟩
 ·cases h
def impl_Lead_74.f (k : Nat) (l0 : List (S25)) (a1 a2 : Int) : Option ((List (S25))) := if a1 < 20 then (impl_Lead_76.f k l0 0 a1 a2).bind fun t224 => (some t224) else none
theorem impl_Lead_74.mono : ∀ a0 a1 a2 k, LeO (impl_Lead_74.f k a0 a1 a2) (impl_Lead_74.f (k + 1) a0 a1 a2) := by
 intro a0 a1 a2 k
 unfold impl_Lead_74.f
 repeat' with_reducible first | apply impl_Lead_76.mono | exact LeO.refl _ | exact LeO.none _ | refine LeO.ite ?_ ?_ | refine LeO.bind ?_ (fun _ => ?_)
set_option maxHeartbeats 8000000 in
set_option maxRecDepth 100000 in
theorem impl_Lead_74.calls (k : Nat) (P0_ : Nat → Prop) (u9000_ : Value) (l0 : List (S25)) (a1 a2 : Int) (r : List (S25)) (w0 w : World) (hB : Below w0.heap.size w0 w) (ho0 : Kd.R k25 25 w w0.heap.size P0_ u9000_ l0) (h : impl_Lead_74.f k l0 a1 a2 = some r) :
  Calls Try.prog 74 #[u9000_, .int .i64 a1, .func (.func 69) #[] #[]] w fun e w' => e = .returned (.tuple #[]) ∧ Kd.R k25 25 w' w0.heap.size (fun k_ => (P0_ k_ ∨ w.heap.size ≤ k_)) u9000_ r ∧ Below w0.heap.size w0 w' ∧ Kept w w' (fun k_ => P0_ k_) := by
 have HO0 := Aside0.mk (show Kd.R k25 25 w w0.heap.size (fun k_ => (P0_ k_ ∨ w.heap.size ≤ k_)) u9000_ l0 from Kd.R_mono ho0 (fun k_ hk => (.inl hk)))
 have HK := Aside0.mk (Kept.refl w (fun k_ => P0_ k_))
 have HW0 := Aside0.mk hB.size
 have HB := Aside0.mk hB
 clear hB
 obtain ⟨hg_, h⟩ := guard20_ h
 have d1_ : decide (20 ≤ a1) = false := decide_eq_false (by omega)
 have d2_ : decide (20 < a1) = false := decide_eq_false (by omega)
 have d3_ : (20 ≤ a1) = False := eq_false (by omega)
 have d4_ : (20 < a1) = False := eq_false (by omega)
 clear hg_
 have H := h
 clear h
 unfold impl_Lead_74.f at H
 replace H := bA H
 obtain ⟨t224, A4, H⟩ := H
 obtain rfl := Option.some.inj H
 obtain ⟨Ao5, co5, eo5⟩ := Kd.R_slice HO0.out
 subst eo5
 go_enter Try.func74, Try.ntmps74
 go_wp2_with (first | ((with_reducible refine wp_loop_rounds 3 ?_); (with_reducible rw [rounds_succ])) | (with_reducible rw [rounds_succ]) | ((with_reducible refine gate_callee (f := 76) rfl ?_); refine goesL_ (some 27) rfl rfl Try.func76 (by kernel_rfl) rfl #[.slice Ao5 l0.length co5, .int .i64 0, .int .i64 a1, .func (.func 69) #[] #[]] rfl argsB ?_; (with_reducible refine (impl_Lead_76.calls k (fun k_ => some k_ = (.slice Ao5 l0.length co5 : Value).ownBlock) (.slice Ao5 l0.length co5) l0 0 a1 a2 t224 w0 _ ?side1 ?side2 A4.out).mono ?_); (case side1 => repeat (first | (with_reducible first | exact HB.out | apply below_alloc | apply pw_below_drewN | apply below_drew1) | exact HB.out)); (case side2 => exact Kd.R_tight rfl HO0.out); rintro e w6 ⟨rfl, hy0, hb, hkp⟩; refine ⟨_, rfl, ?_⟩; replace HK := Aside0.mk (Kept.then_ (S := (fun k_ => P0_ k_)) (by repeat (first | (with_reducible first | exact HK.out | apply Kept.alloc | apply Kept.drewN | apply Kept.drew) | exact HK.out)) hkp (fun k_ hs_ => (fun e_ => (HO0.out.1 k_ e_.symm)) hs_)); replace HO0 := Aside0.mk (Kd.R_reok rfl hy0 (fun k_ e_ => HO0.out.1 k_ e_)); replace HB := Aside0.mk (hb); (try clear hb); (try clear hkp); (try clear hy0)))
 first | go_end0 | ((try simp only [Exit.inBlock, Exit.then]); refine bodyPost_ret (results_none rfl _ _ _) rfl ?_)
 exact ⟨eB, upR HO0.out, (bW HB), by repeat (first | (with_reducible first | exact HK.out | apply Kept.alloc | apply Kept.drewN | apply Kept.drew) | exact HK.out)⟩

/-! ### impl_Lead_68: function 68 -/
def impl_Lead_68.f (k : Nat) (l0 : List (S25)) (a1 : Int) : Option ((List (S25))) := (impl_Lead_74.f k l0 (l0.length : Int) a1).bind fun t225 => (some t225)
theorem impl_Lead_68.mono : ∀ a0 a1 k, LeO (impl_Lead_68.f k a0 a1) (impl_Lead_68.f (k + 1) a0 a1) := by
 intro a0 a1 k
 unfold impl_Lead_68.f
 repeat' with_reducible first | apply impl_Lead_74.mono | exact LeO.refl _ | exact LeO.none _ | refine LeO.ite ?_ ?_ | refine LeO.bind ?_ (fun _ => ?_)
set_option maxHeartbeats 8000000 in
set_option maxRecDepth 100000 in
theorem impl_Lead_68.calls (k : Nat) (P0_ : Nat → Prop) (u9000_ : Value) (l0 : List (S25)) (a1 : Int) (r : List (S25)) (w0 w : World) (hB : Below w0.heap.size w0 w) (ho0 : Kd.R k25 25 w w0.heap.size P0_ u9000_ l0) (h : impl_Lead_68.f k l0 a1 = some r) :
  Calls Try.prog 68 #[u9000_, .func (.func 69) #[] #[]] w fun e w' => e = .returned (.tuple #[]) ∧ Kd.R k25 25 w' w0.heap.size (fun k_ => (P0_ k_ ∨ w.heap.size ≤ k_)) u9000_ r ∧ Below w0.heap.size w0 w' ∧ Kept w w' (fun k_ => P0_ k_) := by
 have HO0 := Aside0.mk (show Kd.R k25 25 w w0.heap.size (fun k_ => (P0_ k_ ∨ w.heap.size ≤ k_)) u9000_ l0 from Kd.R_mono ho0 (fun k_ hk => (.inl hk)))
 have HK := Aside0.mk (Kept.refl w (fun k_ => P0_ k_))
 have HW0 := Aside0.mk hB.size
 have HB := Aside0.mk hB
 clear hB
 have H := h
 clear h
 unfold impl_Lead_68.f at H
 replace H := bA H
 obtain ⟨t225, A3, H⟩ := H
 obtain rfl := Option.some.inj H
 obtain ⟨Ao4, co4, eo4⟩ := Kd.R_slice HO0.out
 subst eo4
 go_enter Try.func68, Try.ntmps68
 go_wp2_with (first | ((with_reducible refine gate_callee (f := 74) rfl ?_); refine goesL_ (some 8) rfl rfl Try.func74 (by kernel_rfl) rfl #[.slice Ao4 l0.length co4, .int .i64 (l0.length : Int), .func (.func 69) #[] #[]] rfl argsB ?_; (with_reducible refine (impl_Lead_74.calls k (fun k_ => some k_ = (.slice Ao4 l0.length co4 : Value).ownBlock) (.slice Ao4 l0.length co4) l0 (l0.length : Int) a1 t225 w0 _ ?side1 ?side2 A3.out).mono ?_); (case side1 => repeat (first | (with_reducible first | exact HB.out | apply below_alloc | apply pw_below_drewN | apply below_drew1) | exact HB.out)); (case side2 => exact Kd.R_tight rfl HO0.out); rintro e w5 ⟨rfl, hy0, hb, hkp⟩; refine ⟨_, rfl, ?_⟩; replace HK := Aside0.mk (Kept.then_ (S := (fun k_ => P0_ k_)) (by repeat (first | (with_reducible first | exact HK.out | apply Kept.alloc | apply Kept.drewN | apply Kept.drew) | exact HK.out)) hkp (fun k_ hs_ => (fun e_ => (HO0.out.1 k_ e_.symm)) hs_)); replace HO0 := Aside0.mk (Kd.R_reok rfl hy0 (fun k_ e_ => HO0.out.1 k_ e_)); replace HB := Aside0.mk (hb); (try clear hb); (try clear hkp); (try clear hy0)))
 first | go_end0 | ((try simp only [Exit.inBlock, Exit.then]); refine bodyPost_ret (results_none rfl _ _ _) rfl ?_)
 exact ⟨eB, upR HO0.out, (bW HB), by repeat (first | (with_reducible first | exact HK.out | apply Kept.alloc | apply Kept.drewN | apply Kept.drew) | exact HK.out)⟩

/-! ### impl_ranked: function 58 -/
def impl_ranked.f (k : Nat) (l0 : List (S25)) : Option ((List (S25))) := (impl_Lead_56.f l0).bind fun t226 => ((impl_Lead_66.f k t226 0).bind fun t229 => ((impl_Lead_68.f k t229 0).bind fun t232 => (some t232)))
theorem impl_ranked.mono : ∀ a0 k, LeO (impl_ranked.f k a0) (impl_ranked.f (k + 1) a0) := by
 intro a0 k
 unfold impl_ranked.f
 repeat' with_reducible first | apply impl_Lead_66.mono | apply impl_Lead_68.mono | exact LeO.refl _ | exact LeO.none _ | refine LeO.ite ?_ ?_ | refine LeO.bind ?_ (fun _ => ?_)
set_option maxHeartbeats 8000000 in
set_option maxRecDepth 100000 in
theorem impl_ranked.calls (k : Nat) (A0 : Option Addr) (c0 : Nat) (l0 : List (S25)) (r : List (S25)) (w : World) (hr0 : Kd.C k25 w A0 l0.length l0) (hc0 : l0.length ≤ c0) (h : impl_ranked.f k l0 = some r) :
  Calls Try.prog 58 #[.slice A0 l0.length c0] w fun e w' => ∃ v0_ : Value, e = .returned (v0_) ∧ Kd.R k25 25 w' w.heap.size (fun _ => True) v0_ r ∧ Below w.heap.size w w' := by
 have HR0 := Aside0.mk hr0
 have HC0 := Aside0.mk hc0
 clear hr0 hc0
 have HB := Aside0.mk (Below.refl w.heap.size w)
 have H := h
 clear h
 unfold impl_ranked.f at H
 replace H := bA H
 obtain ⟨t226, A2, H⟩ := H
 replace H := bA H
 obtain ⟨t229, A3, H⟩ := H
 replace H := bA H
 obtain ⟨t232, A4, H⟩ := H
 obtain rfl := Option.some.inj H
 go_enter Try.func58, Try.ntmps58
 go_wp2_with (first | ((with_reducible refine gate_callee (f := 56) rfl ?_); refine goesL_ (some 5) rfl rfl Try.func56 (by kernel_rfl) rfl #[.slice A0 l0.length c0] rfl argsB ?_; (with_reducible refine (impl_Lead_56.calls _ _ l0 t226 _ ?side1 ?side2 A2.out).mono ?_); (case side1 => repeat (first | exact HR0.out | (with_reducible refine Kd.C_alloc ?_ _) | (with_reducible refine Kd.C_drewN ?_ _) | (with_reducible refine Kd.C_drew ?_))); (case side2 => exact HC0.out); rintro e w5 ⟨v227, rfl, ho0, hb⟩; refine ⟨_, rfl, ?_⟩; have HO228 := Aside0.mk (Kd.R_lower ho0 (below_size (bW HB))); replace HB := uB HB hb; (try clear hb); (try clear ho0); obtain ⟨Ao6, co6, eo6⟩ := Kd.R_slice HO228.out; subst eo6) | ((with_reducible refine gate_callee (f := 66) rfl ?_); refine goesL_ (some 6) rfl rfl Try.func66 (by kernel_rfl) rfl #[.slice Ao6 t226.length co6, .func (.func 67) #[] #[]] rfl argsB ?_; (with_reducible refine (impl_Lead_66.calls k (fun k_ => some k_ = (.slice Ao6 t226.length co6 : Value).ownBlock) (.slice Ao6 t226.length co6) t226 0 t229 w _ ?side1 ?side2 A3.out).mono ?_); (case side1 => repeat (first | (with_reducible first | exact HB.out | apply below_alloc | apply pw_below_drewN | apply below_drew1) | exact HB.out)); (case side2 => exact Kd.R_tight rfl HO228.out); rintro e w7 ⟨v230, rfl, ho0, hb, hkp⟩; refine ⟨_, rfl, ?_⟩; have HO231 := Aside0.mk (Kd.R_mono (ok' := fun k_ => True) ho0 (fun k_ hk_ => trivial)); replace HB := Aside0.mk (hb); clear HO228; (try clear hb); (try clear hkp); (try clear ho0); obtain ⟨Ao8, co8, eo8⟩ := Kd.R_slice HO231.out; subst eo8) | ((with_reducible refine gate_callee (f := 68) rfl ?_); refine goesL_ (some 8) rfl rfl Try.func68 (by kernel_rfl) rfl #[.slice Ao8 t229.length co8, .func (.func 69) #[] #[]] rfl argsB ?_; (with_reducible refine (impl_Lead_68.calls k (fun k_ => some k_ = (.slice Ao8 t229.length co8 : Value).ownBlock) (.slice Ao8 t229.length co8) t229 0 t232 w _ ?side1 ?side2 A4.out).mono ?_); (case side1 => repeat (first | (with_reducible first | exact HB.out | apply below_alloc | apply pw_below_drewN | apply below_drew1) | exact HB.out)); (case side2 => exact Kd.R_tight rfl HO231.out); rintro e w9 ⟨rfl, hy0, hb, hkp⟩; refine ⟨_, rfl, ?_⟩; replace HO231 := Aside0.mk (Kd.R_reok rfl hy0 (fun k_ e_ => HO231.out.1 k_ e_)); replace HB := Aside0.mk (hb); (try clear hb); (try clear hkp); (try clear hy0)))
 go_ret
 exact ⟨_, eB, upR HO231.out, (bW HB)⟩

/-! ### impl_BestLead: function 32 -/
def impl_BestLead.f (k : Nat) (l0 : List (S25)) : Option (Int × Bool) := (impl_AreLeads.f k l0).bind fun t233 => (if t233 = true then ((impl_ranked.f k l0).bind fun t234 => (if (t234.length : Int) = 0 then (some (0, false)) else (if 0 < (t234.length : Int) then (some ((rd_T25 t234 0).f0, true)) else (none)))) else (some (0, false)))
theorem impl_BestLead.mono : ∀ a0 k, LeO (impl_BestLead.f k a0) (impl_BestLead.f (k + 1) a0) := by
 intro a0 k
 unfold impl_BestLead.f
 repeat' with_reducible first | apply impl_AreLeads.mono | apply impl_ranked.mono | exact LeO.refl _ | exact LeO.none _ | refine LeO.ite ?_ ?_ | refine LeO.bind ?_ (fun _ => ?_)
set_option maxHeartbeats 8000000 in
set_option maxRecDepth 100000 in
theorem impl_BestLead.calls (k : Nat) (A0 : Option Addr) (c0 : Nat) (l0 : List (S25)) (r1 : Int) (r2 : Bool) (w : World) (hr0 : Kd.C k25 w A0 l0.length l0) (hc0 : l0.length ≤ c0) (h : impl_BestLead.f k l0 = some (r1, r2)) :
  Calls Try.prog 32 #[.slice A0 l0.length c0] w fun e w' => e = .returned (.tuple #[.int .i64 r1, .bool r2]) ∧ Below w.heap.size w w' := by
 have HR0 := Aside0.mk hr0
 have HC0 := Aside0.mk hc0
 clear hr0 hc0
 have HB := Aside0.mk (Below.refl w.heap.size w)
 have H := h
 clear h
 unfold impl_BestLead.f at H
 replace H := bA H
 obtain ⟨t233, A2, H⟩ := H
 rcases Bool.eq_false_or_eq_true t233 with rfl | rfl
 ·replace H := iT rfl H
  replace H := bA H
  obtain ⟨t234, A4, H⟩ := H
  replace H := ifI H
  rcases H with ⟨H, -, c5b0, c5b1⟩ | ⟨H, c5, c5b0, c5b1⟩
  ·simp only [Option.some.injEq, Prod.mk.injEq] at H
   obtain ⟨rfl, rfl⟩ := H
   go_enter Try.func32, Try.ntmps32
   go_wp2_with (first | ((with_reducible refine gC 18 ?_); refine lA (some 6) Try.func18 (impl_AreLeads.calls k _ _ l0 true _ ?side1 ?side2 A2.out) ?_; (case side1 => repeat (first | exact HR0.out | (with_reducible refine Kd.C_alloc ?_ _) | (with_reducible refine Kd.C_drewN ?_ _) | (with_reducible refine Kd.C_drew ?_))); (case side2 => exact HC0.out); intro w6 hb; replace HB := uB HB hb; (try clear hb)) | ((with_reducible refine gate_callee (f := 58) rfl ?_); refine goesL_ (some 9) rfl rfl Try.func58 (by kernel_rfl) rfl #[.slice A0 l0.length c0] rfl argsB ?_; (with_reducible refine (impl_ranked.calls k _ _ l0 t234 _ ?side1 ?side2 A4.out).mono ?_); (case side1 => repeat (first | exact (Kd.C_below HR0.out HB.out) | (with_reducible refine Kd.C_alloc ?_ _) | (with_reducible refine Kd.C_drewN ?_ _) | (with_reducible refine Kd.C_drew ?_))); (case side2 => exact HC0.out); rintro e w7 ⟨v235, rfl, ho0, hb⟩; refine ⟨_, rfl, ?_⟩; have HO236 := Aside0.mk (Kd.R_lower ho0 (below_size (bW HB))); replace HB := uB HB hb; (try clear hb); (try clear ho0); obtain ⟨Ao8, co8, eo8⟩ := Kd.R_slice HO236.out; subst eo8))
   go_ret2
   exact ⟨eB, (bW HB)⟩
  ·have c5b2 : ¬ (t234 = []) := fun h_ => c5 (by rw [h_]; rfl)
   by_cases c9 : 0 < (t234.length : Int)
   ·rw [if_pos c9] at H
    have c9b0 : decide (0 < (t234.length : Int)) = true := decide_eq_true c9
    have c9b1 : decide (0 < t234.length) = true := decide_eq_true (by omega)
    clear c9
    simp only [Option.some.injEq, Prod.mk.injEq] at H
    obtain ⟨rfl, rfl⟩ := H
    go_enter Try.func32, Try.ntmps32
    go_wp2_with (first | ((with_reducible refine gC 18 ?_); refine lA (some 6) Try.func18 (impl_AreLeads.calls k _ _ l0 true _ ?side1 ?side2 A2.out) ?_; (case side1 => repeat (first | exact HR0.out | (with_reducible refine Kd.C_alloc ?_ _) | (with_reducible refine Kd.C_drewN ?_ _) | (with_reducible refine Kd.C_drew ?_))); (case side2 => exact HC0.out); intro w10 hb; replace HB := uB HB hb; (try clear hb)) | ((with_reducible refine gate_callee (f := 58) rfl ?_); refine goesL_ (some 9) rfl rfl Try.func58 (by kernel_rfl) rfl #[.slice A0 l0.length c0] rfl argsB ?_; (with_reducible refine (impl_ranked.calls k _ _ l0 t234 _ ?side1 ?side2 A4.out).mono ?_); (case side1 => repeat (first | exact (Kd.C_below HR0.out HB.out) | (with_reducible refine Kd.C_alloc ?_ _) | (with_reducible refine Kd.C_drewN ?_ _) | (with_reducible refine Kd.C_drew ?_))); (case side2 => exact HC0.out); rintro e w11 ⟨v235, rfl, ho0, hb⟩; refine ⟨_, rfl, ?_⟩; have HO236 := Aside0.mk (Kd.R_lower ho0 (below_size (bW HB))); replace HB := uB HB hb; (try clear hb); (try clear ho0); obtain ⟨Ao12, co12, eo12⟩ := Kd.R_slice HO236.out; subst eo12; have p237 : 0 ≤ (0 : Int) := (by omega); have q237 : 0 < (t234.length : Int) := of_decide_eq_true asmB; obtain ⟨ad237, e237, hx237_0, hx237_1, hx237_2, hx237_3, hx237_4⟩ := at_T25 (Kd.R_reads' HO236.out).2.2 0 p237 q237; cases e237; have qi237 : (0 < t234.length) = True := eq_true (by omega); (try rw [show ((0 : Int)).toNat = 0 from rfl] at hx237_0); (try rw [show 0 * 5 = 0 from rfl] at hx237_0); (try rw [Addr.add_zero'] at hx237_0); (try rw [show ((0 : Int)).toNat = 0 from rfl] at hx237_1); (try rw [show 0 * 5 = 0 from rfl] at hx237_1); (try rw [Addr.add_zero'] at hx237_1); (try rw [show ((0 : Int)).toNat = 0 from rfl] at hx237_2); (try rw [show 0 * 5 = 0 from rfl] at hx237_2); (try rw [Addr.add_zero'] at hx237_2); (try rw [show ((0 : Int)).toNat = 0 from rfl] at hx237_3); (try rw [show 0 * 5 = 0 from rfl] at hx237_3); (try rw [Addr.add_zero'] at hx237_3); (try rw [show ((0 : Int)).toNat = 0 from rfl] at hx237_4); (try rw [show 0 * 5 = 0 from rfl] at hx237_4); (try rw [Addr.add_zero'] at hx237_4); replace p237 := eq_true p237; replace q237 := eq_true q237))
    go_ret2
    exact ⟨eB, (bW HB)⟩
   ·rw [if_neg c9] at H
    exact absurd H (by simp)
 ·replace H := iF (by decide) H
  simp only [Option.some.injEq, Prod.mk.injEq] at H
  obtain ⟨rfl, rfl⟩ := H
  go_enter Try.func32, Try.ntmps32
  go_wp2_with (first | ((with_reducible refine gC 18 ?_); refine lA (some 6) Try.func18 (impl_AreLeads.calls k _ _ l0 false _ ?side1 ?side2 A2.out) ?_; (case side1 => repeat (first | exact HR0.out | (with_reducible refine Kd.C_alloc ?_ _) | (with_reducible refine Kd.C_drewN ?_ _) | (with_reducible refine Kd.C_drew ?_))); (case side2 => exact HC0.out); intro w13 hb; replace HB := uB HB hb; (try clear hb)))
  go_ret2
  exact ⟨eB, (bW HB)⟩

/-! ### spec_RankLeads: function 33 -/
def spec_RankLeads.l0 : Nat → List (S25) → List Int → Int → Option (List Int × Bool)
 | 0, _, _, _ => none
 | k + 1, x0, x4, x5 => if x5 < (x4.length : Int) then (if 0 ≤ x5 then (if 0 ≤ (rd x4 x5) then (if (rd x4 x5) < (x0.length : Int) then (spec_RankLeads.l0 k x0 (x4.set (x5 : Int).toNat ((rd_T25 x0 (rd x4 x5)).f0)) (wrap64 (x5 + 1))) else (none)) else (none)) else (none)) else (some (x4, true))
def spec_RankLeads.f (k : Nat) (l0 : List (S25)) : Option (List Int × Bool) := (spec_l18Good.f k l0).bind fun t238 => (if t238 = true then ((spec_l18Rank.f k l0).bind fun t242 => (spec_RankLeads.l0 k l0 t242 0)) else (some ((([] : List Int)), false)))
theorem spec_RankLeads.mono_l : ∀ k, (∀ y0 y1 y2, LeO (spec_RankLeads.l0 k y0 y1 y2) (spec_RankLeads.l0 (k + 1) y0 y1 y2))
 | 0 => fun _ _ _ r h => by simp [spec_RankLeads.l0] at h
 | k + 1 => by
  have ih0 := spec_RankLeads.mono_l k
  ·intro y0 y1 y2
   unfold spec_RankLeads.l0
   repeat' with_reducible first | apply ih0 | apply spec_l18Good.mono | apply spec_l18Rank.mono | exact LeO.refl _ | exact LeO.none _ | refine LeO.ite ?_ ?_ | refine LeO.bind ?_ (fun _ => ?_)
theorem spec_RankLeads.mono : ∀ a0 k, LeO (spec_RankLeads.f k a0) (spec_RankLeads.f (k + 1) a0) := by
 intro a0 k
 have ih0 := spec_RankLeads.mono_l k
 unfold spec_RankLeads.f
 repeat' with_reducible first | apply ih0 | apply spec_l18Good.mono | apply spec_l18Rank.mono | exact LeO.refl _ | exact LeO.none _ | refine LeO.ite ?_ ?_ | refine LeO.bind ?_ (fun _ => ?_)
set_option maxHeartbeats 8000000 in
set_option maxRecDepth 100000 in
theorem spec_RankLeads.calls (k : Nat) (A0 : Option Addr) (c0 : Nat) (l0 : List (S25)) (r1 : List Int) (r2 : Bool) (w : World) (hr0 : Kd.C k25 w A0 l0.length l0) (hc0 : l0.length ≤ c0) (h : spec_RankLeads.f k l0 = some (r1, r2)) :
  Calls Try.prog 33 #[.slice A0 l0.length c0] w fun e w' => ∃ v0_ : Value, e = .returned (.tuple #[v0_, .bool r2]) ∧ Kd.R (Kd.int .i64) 3 w' w.heap.size (fun _ => True) v0_ r1 ∧ Below w.heap.size w w' := by
 have HR0 := Aside0.mk hr0
 have HC0 := Aside0.mk hc0
 clear hr0 hc0
 have HB := Aside0.mk (Below.refl w.heap.size w)
 have H := h
 clear h
 unfold spec_RankLeads.f at H
 replace H := bA H
 obtain ⟨t238, A2, H⟩ := H
 rcases Bool.eq_false_or_eq_true t238 with rfl | rfl
 ·replace H := iT rfl H
  replace H := bA H
  obtain ⟨t242, A4, H⟩ := H
  have H' := Aside0.mk H
  clear H
  go_enter Try.func33, Try.ntmps33
  go_wp2_with (first | ((with_reducible refine gC 48 ?_); refine lA (some 7) Try.func48 (spec_l18Good.calls k _ _ l0 true _ ?side1 ?side2 A2.out) ?_; (case side1 => repeat (first | exact HR0.out | (with_reducible refine Kd.C_alloc ?_ _) | (with_reducible refine Kd.C_drewN ?_ _) | (with_reducible refine Kd.C_drew ?_))); (case side2 => exact HC0.out); intro w5 hb; replace HB := uB HB hb; (try clear hb); (try clear hk)) | ((with_reducible refine gate_callee (f := 57) rfl ?_); refine goesL_ (some 11) rfl rfl Try.func57 (by kernel_rfl) rfl #[.slice A0 l0.length c0] rfl argsB ?_; (with_reducible refine (spec_l18Rank.calls k _ _ l0 t242 _ ?side1 ?side2 A4.out).mono ?_); (case side1 => repeat (first | exact (Kd.C_below HR0.out HB.out) | (with_reducible refine Kd.C_alloc ?_ _) | (with_reducible refine Kd.C_drewN ?_ _) | (with_reducible refine Kd.C_drew ?_))); (case side2 => exact HC0.out); rintro e w6 ⟨v243, rfl, ho0, hb⟩; refine ⟨_, rfl, ?_⟩; have HO244 := Aside0.mk (Kd.R_lower ho0 (below_size (bW HB))); replace HB := uB HB hb; (try clear hb); (try clear hk); (try clear ho0)))
  (try simp only [Act.put, List.setIfInBounds_toArray, List.set_cons_zero, List.set_cons_succ])
  go_loopg [5] k (fun kq v5 w' => ∃ (x4_1 : List Int) (x5_1 : Int), v5 = .int .i64 x5_1 ∧ Aside0 (spec_RankLeads.l0 kq l0 x4_1 x5_1 = some (r1, r2)) ∧ Aside0 (kq ≤ k) ∧ Aside0 (Kd.R (Kd.int .i64) 3 w' w.heap.size (fun _ => True) v243 x4_1) ∧ Aside0 (Below w.heap.size w w'))
  case atStart => exact ⟨(t242), (0), rB, H', ⟨Nat.le_refl _⟩, ⟨upR HO244.out⟩, (aB HB)⟩
  case round =>
   clear H'
   obtain ⟨x4_1, x5_1, rfl, HA, HK1, HO_4, HB⟩ := hrel
   cases gk with
   | zero => exact absurd HA.out (by simp [spec_RankLeads.l0])
   | succ k1 =>
    have H := HA.out
    clear HA
    simp only [spec_RankLeads.l0] at H
    replace H := ifD H
    rcases H with ⟨H, -, c7b0⟩ | ⟨H, -, c7b0⟩
    ·by_cases c8 : 0 ≤ x5_1
     ·rw [if_pos c8] at H
      have c8b0 : decide (0 ≤ x5_1) = true := decide_eq_true c8
      clear c8
      by_cases c9 : 0 ≤ (rd x4_1 x5_1)
      ·rw [if_pos c9] at H
       have c9b0 : decide (0 ≤ (rd x4_1 x5_1)) = true := decide_eq_true c9
       clear c9
       by_cases c10 : (rd x4_1 x5_1) < (l0.length : Int)
       ·rw [if_pos c10] at H
        have c10b0 : decide ((rd x4_1 x5_1) < (l0.length : Int)) = true := decide_eq_true c10
        clear c10
        obtain ⟨y247, hy247⟩ : ∃ y_ : List Int, y_ = (x4_1.set (x5_1 : Int).toNat ((rd_T25 l0 (rd x4_1 x5_1)).f0)) := ⟨_, rfl⟩
        replace H : (spec_RankLeads.l0 k1 l0 y247 (wrap64 (x5_1 + 1))) = some (r1, r2) := by first | (rw [hy247]; with_reducible exact H) | (have H2_ := (Option.bind_some _ _).symm.trans H; rw [hy247]; with_reducible exact H2_) | (have H2_ := (Option.bind_some _ _).symm.trans H; with_reducible exact H2_) | with_reducible exact H | (rw [hy247]; exact H) | exact H
        have Ny247 := Aside0.mk hy247
        clear hy247
        have H' := Aside0.mk H
        clear H
        obtain ⟨Ao12, co12, eo12⟩ := Kd.R_slice HO_4.out
        subst eo12
        have p245 : 0 ≤ (x5_1 : Int) := of_decide_eq_true asmB
        have q245 : x5_1 < (x4_1.length : Int) := of_decide_eq_true asmB
        obtain ⟨ad245, e245, hx245_0⟩ := Kd.at_int (Kd.R_reads' HO_4.out).2.2 x5_1 p245 q245
        cases e245
        replace p245 := eq_true p245
        replace q245 := eq_true q245
        have p246 : 0 ≤ ((rd x4_1 x5_1) : Int) := of_decide_eq_true asmB
        have q246 : (rd x4_1 x5_1) < (l0.length : Int) := of_decide_eq_true asmB
        obtain ⟨ad246, e246, hx246_0, hx246_1, hx246_2, hx246_3, hx246_4⟩ := at_T25 HR0.out (rd x4_1 x5_1) p246 q246
        cases e246
        replace hx246_0 := bx HB.out hx246_0
        replace hx246_1 := bx HB.out hx246_1
        replace hx246_2 := bx HB.out hx246_2
        replace hx246_3 := bx HB.out hx246_3
        replace hx246_4 := bx HB.out hx246_4
        replace p246 := eq_true p246
        replace q246 := eq_true q246
        have p11 : 0 ≤ (x5_1 : Int) := of_decide_eq_true asmB
        have q11 : (x5_1 : Int) < ((x4_1.length : Int) : Int) := of_decide_eq_true asmB
        obtain ⟨go11, co11, eo11, gb11, gl11, cl11, HG11⟩ := Kd.R_form HO_4.out (by omega)
        (first | cases eo11 | (injection eo11 with ea_ en_ ec_; (first | subst ea_ | (injection ea_ with ea_; subst ea_)); subst ec_; clear en_))
        have GB11 := Aside0.mk gb11
        have GG11 := Aside0.mk HG11
        clear gb11 gl11 HG11
        (first | simp only [add_plain] at hx245_0 | skip)
        obtain ⟨hx11_0, hf11_0⟩ := Kd.R_celln 0 HO_4.out (x5_1 : Int) p11 q11
        replace p11 := eq_true p11
        replace q11 := eq_true q11
        have HP13 := Kd.R_putg HO_4.out (x5_1 : Int) ((rd_T25 l0 (rd x4_1 x5_1)).f0)
        go_wp2_with (first | ((with_reducible refine gate_store (t := 3) (p := 28) rfl ?_); refine store_event (t := 3) (p := 28) (v := ?vo_w14) (w1 := (wr.setCell ⟨go11, (x5_1 : Int).toNat, none⟩ (.int .i64 ((rd_T25 l0 (rd x4_1 x5_1)).f0)))) ?hg ?ho ?hn ?hr ?_; (case ho => rfl); (case hg => rfl); (case hn => rfl); (case hr => first | (go_simp; done) | (go_simp; rfl)); intro w14 hw; have hg : wr.grownBy w14 (some go11) := (by rw [hw]; exact HP13.2); have hp_ : Kd.R (Kd.int .i64) 3 w14 w.heap.size (fun _ => True) (.slice (some ⟨go11, 0, none⟩) x4_1.length co12) y247 := (by rw [hw, Ny247.out]; exact HP13.1); clear HP13; replace HO_4 := Aside0.mk (hp_); replace HB := Aside0.mk ((by rw [hw]; exact below_set (HB.out) GB11.out : Below w.heap.size w w14)); clear hg hw hp_))
        go_roundg k1
        case measure => have := HK1.out; omega
        case rel => exact ⟨(y247), (wrap64 (x5_1 + 1)), rB, H', ⟨by have := HK1.out; omega⟩, ⟨upR HO_4.out⟩, (aB HB)⟩
       ·rw [if_neg c10] at H
        exact absurd H (by simp)
      ·rw [if_neg c9] at H
       exact absurd H (by simp)
     ·rw [if_neg c8] at H
      exact absurd H (by simp)
    ·simp only [Option.some.injEq, Prod.mk.injEq] at H
     obtain ⟨rfl, rfl⟩ := H
     obtain ⟨Ao15, co15, eo15⟩ := Kd.R_slice HO_4.out
     subst eo15
     go_wp2
     go_ret2
     exact ⟨_, eB, upR HO_4.out, (bW HB)⟩
 ·replace H := iF (by decide) H
  obtain ⟨y239, hy239⟩ : ∃ y_ : List Int, y_ = (([] : List Int)) := ⟨_, rfl⟩
  replace H : (some (y239, false)) = some (r1, r2) := by first | (rw [hy239]; with_reducible exact H) | (have H2_ := (Option.bind_some _ _).symm.trans H; rw [hy239]; with_reducible exact H2_) | (have H2_ := (Option.bind_some _ _).symm.trans H; with_reducible exact H2_) | with_reducible exact H | (rw [hy239]; exact H) | exact H
  have Ny239 := Aside0.mk hy239
  clear hy239
  simp only [Option.some.injEq, Prod.mk.injEq] at H
  obtain ⟨rfl, rfl⟩ := H
  go_enter Try.func33, Try.ntmps33
  go_wp2_with (first | ((with_reducible refine gC 48 ?_); refine lA (some 7) Try.func48 (spec_l18Good.calls k _ _ l0 false _ ?side1 ?side2 A2.out) ?_; (case side1 => repeat (first | exact HR0.out | (with_reducible refine Kd.C_alloc ?_ _) | (with_reducible refine Kd.C_drewN ?_ _) | (with_reducible refine Kd.C_drew ?_))); (case side2 => exact HC0.out); intro w16 hb; replace HB := uB HB hb; (try clear hb); (try clear hk)) | ((with_reducible refine gate_dst (N := 9) rfl ?_); refine Kd.R_lit (Kd.int .i64) _ 3 ?hg (N := 9) ?hd (xs := ([] : List Int)) (inner := []) (ok := fun _ => True) (okp := fun _ => True) ?hr ?hp (fun _ hk => hk) trivial (Below.refl _ _) (Nat.le_refl _) (by simp) ?_; (case hd => rfl); (case hg => rfl); (case hr => first | (go_simp; done) | (go_simp; rfl)); (case hp => exact (Reps.none _ _)); intro v240 w17 ho18 hb hg_ hnew_; clear hg_ hnew_; (first | rw [← Ny239.out] at ho18 | (simp only [Int.reduceToNat] at ho18; rw [← Ny239.out] at ho18)); have HO241 := Aside0.mk (Kd.R_lower ho18 (below_size (bW HB))); replace HB := uB HB hb; clear hb ho18))
  go_ret2
  exact ⟨_, eB, upR HO241.out, (bW HB)⟩

/-! ### impl_RankLeads: function 34 -/
def impl_RankLeads.l0 : Nat → List Int → List (S25) → Int → Int → Option (List Int × Bool)
 | 0, _, _, _, _ => none
 | k + 1, x4, x11, x12, x13 => if x13 < x12 then (if 0 ≤ x13 then (if x13 < (x11.length : Int) then (if x4.length < 17592186044416 then (impl_RankLeads.l0 k (x4 ++ [(rd_T25 x11 x13).f0]) x11 x12 (wrap64 (x13 + 1))) else (none)) else (none)) else (none)) else (some (x4, true))
def impl_RankLeads.f (k : Nat) (l0 : List (S25)) : Option (List Int × Bool) := (impl_AreLeads.f k l0).bind fun t248 => (if t248 = true then ((impl_ranked.f k l0).bind fun t249 => (impl_RankLeads.l0 k ([] : List Int) t249 (t249.length : Int) 0)) else (some (([] : List Int), false)))
theorem impl_RankLeads.mono_l : ∀ k, (∀ y0 y1 y2 y3, LeO (impl_RankLeads.l0 k y0 y1 y2 y3) (impl_RankLeads.l0 (k + 1) y0 y1 y2 y3))
 | 0 => fun _ _ _ _ r h => by simp [impl_RankLeads.l0] at h
 | k + 1 => by
  have ih0 := impl_RankLeads.mono_l k
  ·intro y0 y1 y2 y3
   unfold impl_RankLeads.l0
   repeat' with_reducible first | apply ih0 | apply impl_AreLeads.mono | apply impl_ranked.mono | exact LeO.refl _ | exact LeO.none _ | refine LeO.ite ?_ ?_ | refine LeO.bind ?_ (fun _ => ?_)
theorem impl_RankLeads.mono : ∀ a0 k, LeO (impl_RankLeads.f k a0) (impl_RankLeads.f (k + 1) a0) := by
 intro a0 k
 have ih0 := impl_RankLeads.mono_l k
 unfold impl_RankLeads.f
 repeat' with_reducible first | apply ih0 | apply impl_AreLeads.mono | apply impl_ranked.mono | exact LeO.refl _ | exact LeO.none _ | refine LeO.ite ?_ ?_ | refine LeO.bind ?_ (fun _ => ?_)
set_option maxHeartbeats 8000000 in
set_option maxRecDepth 100000 in
theorem impl_RankLeads.calls (k : Nat) (A0 : Option Addr) (c0 : Nat) (l0 : List (S25)) (r1 : List Int) (r2 : Bool) (w : World) (hr0 : Kd.C k25 w A0 l0.length l0) (hc0 : l0.length ≤ c0) (h : impl_RankLeads.f k l0 = some (r1, r2)) :
  Calls Try.prog 34 #[.slice A0 l0.length c0] w fun e w' => ∃ v0_ : Value, e = .returned (.tuple #[v0_, .bool r2]) ∧ Kd.R (Kd.int .i64) 3 w' w.heap.size (fun _ => True) v0_ r1 ∧ Below w.heap.size w w' := by
 have hu25 := Try.underlying25
 have HR0 := Aside0.mk hr0
 have HC0 := Aside0.mk hc0
 clear hr0 hc0
 have HB := Aside0.mk (Below.refl w.heap.size w)
 have H := h
 clear h
 unfold impl_RankLeads.f at H
 replace H := bA H
 obtain ⟨t248, A2, H⟩ := H
 rcases Bool.eq_false_or_eq_true t248 with rfl | rfl
 ·replace H := iT rfl H
  replace H := bA H
  obtain ⟨t249, A4, H⟩ := H
  have H' := Aside0.mk H
  clear H
  go_enter Try.func34, Try.ntmps34
  go_wp2_with (first | ((with_reducible refine gC 18 ?_); refine lA (some 8) Try.func18 (impl_AreLeads.calls k _ _ l0 true _ ?side1 ?side2 A2.out) ?_; (case side1 => repeat (first | exact HR0.out | (with_reducible refine Kd.C_alloc ?_ _) | (with_reducible refine Kd.C_drewN ?_ _) | (with_reducible refine Kd.C_drew ?_))); (case side2 => exact HC0.out); intro w5 hb; replace HB := uB HB hb; (try clear hb); (try clear hk)) | ((with_reducible refine gate_callee (f := 58) rfl ?_); refine goesL_ (some 11) rfl rfl Try.func58 (by kernel_rfl) rfl #[.slice A0 l0.length c0] rfl argsB ?_; (with_reducible refine (impl_ranked.calls k _ _ l0 t249 _ ?side1 ?side2 A4.out).mono ?_); (case side1 => repeat (first | exact (Kd.C_below HR0.out HB.out) | (with_reducible refine Kd.C_alloc ?_ _) | (with_reducible refine Kd.C_drewN ?_ _) | (with_reducible refine Kd.C_drew ?_))); (case side2 => exact HC0.out); rintro e w6 ⟨v250, rfl, ho0, hb⟩; refine ⟨_, rfl, ?_⟩; have HO251 := Aside0.mk (Kd.R_lower ho0 (below_size (bW HB))); replace HB := uB HB hb; (try clear hb); (try clear hk); (try clear ho0); obtain ⟨Ao7, co7, eo7⟩ := Kd.R_slice HO251.out; subst eo7))
  (try simp only [Act.put, List.setIfInBounds_toArray, List.set_cons_zero, List.set_cons_succ])
  go_loopg [4, 13] k (fun kq v4 v13 w' => ∃ (x4_1 : List Int) (x13_1 : Int), v13 = .int .i64 x13_1 ∧ Aside0 (impl_RankLeads.l0 kq x4_1 t249 (t249.length : Int) x13_1 = some (r1, r2)) ∧ Aside0 (kq ≤ k) ∧ Aside0 (Kd.R (Kd.int .i64) 3 w' w.heap.size (fun _ => True) v4 x4_1) ∧ Aside0 (Kd.R k25 25 w' w.heap.size (fun _ => True) (.slice Ao7 t249.length co7) t249) ∧ Aside0 (Below w.heap.size w w'))
  case atStart => exact ⟨(([] : List Int)), (0), rB, H', ⟨Nat.le_refl _⟩, ⟨by first | exact Kd.R_nil _ _ _ _ _ | exact Kd.N_nil _ _ _ _ _ | exact Kd.V_nil _ _ _ _ _ | exact Kd.Q_nil _ _ _ _ _ | exact Kd.S_nil _ _ _ _ _⟩, ⟨upR HO251.out⟩, (aB HB)⟩
  case round =>
   clear H'
   obtain ⟨x4_1, x13_1, rfl, HA, HK1, HO_4, HO_11, HB⟩ := hrel
   cases gk with
   | zero => exact absurd HA.out (by simp [impl_RankLeads.l0])
   | succ k1 =>
    have H := HA.out
    clear HA
    simp only [impl_RankLeads.l0] at H
    replace H := ifD H
    rcases H with ⟨H, -, c8b0⟩ | ⟨H, -, c8b0⟩
    ·by_cases c9 : 0 ≤ x13_1
     ·rw [if_pos c9] at H
      have c9b0 : decide (0 ≤ x13_1) = true := decide_eq_true c9
      clear c9
      by_cases c10 : x13_1 < (t249.length : Int)
      ·rw [if_pos c10] at H
       have c10b0 : decide (x13_1 < (t249.length : Int)) = true := decide_eq_true c10
       clear c10
       by_cases c11 : x4_1.length < 17592186044416
       ·rw [if_pos c11] at H
        have LMc11 := Aside0.mk c11
        clear c11
        obtain ⟨y254, hy254⟩ : ∃ y_ : List Int, y_ = (x4_1 ++ [(rd_T25 t249 x13_1).f0]) := ⟨_, rfl⟩
        replace H : (impl_RankLeads.l0 k1 y254 t249 (t249.length : Int) (wrap64 (x13_1 + 1))) = some (r1, r2) := by first | (rw [hy254]; with_reducible exact H) | (have H2_ := (Option.bind_some _ _).symm.trans H; rw [hy254]; with_reducible exact H2_) | (have H2_ := (Option.bind_some _ _).symm.trans H; with_reducible exact H2_) | with_reducible exact H | (rw [hy254]; exact H) | exact H
        have Ny254 := Aside0.mk hy254
        clear hy254
        have H' := Aside0.mk H
        clear H
        have p252 : 0 ≤ (x13_1 : Int) := of_decide_eq_true asmB
        have q252 : x13_1 < (t249.length : Int) := of_decide_eq_true asmB
        obtain ⟨ad252, e252, hx252_0, hx252_1, hx252_2, hx252_3, hx252_4⟩ := at_T25 (Kd.R_reads' HO_11.out).2.2 x13_1 p252 q252
        cases e252
        replace p252 := eq_true p252
        replace q252 := eq_true q252
        go_wp2_with (first | ((with_reducible refine gD 6 ?_); refine bxE 6 25 #[.int .i64 0, .int .i64 0, .int .i64 0, .int .i64 0, .int .i64 0] fun gb253 w12 hg hbox hb => ?_; have BK253 := Aside0.mk hbox; have GE253 := gB HB hg; replace HO_4 := uR HO_4 hb; replace HO_11 := Aside0.mk (Kd.R_below (Kd.R_elderB (upR HO_11.out) gb253 (Nat.le_of_eq hg.symm)) hb); replace HB := uB HB hb; clear hb hbox hg; have ⟨hcz13_0, hcz13_1, hcz13_2, hcz13_3, hcz13_4, hfz13_0⟩ := cz5 BK253) | ((with_reducible refine gate_builtin (b := .append) (xs := #[.tmp 17, .tmp 20]) rfl ?_); at_builtin; refine Kd.R_append (Kd.int .i64) (w0 := w) w.heap.size rfl (.tmp 17) (.tmp 20) 35 3 (.int .i64 0) 8 rfl Try.underlying35 info3 rfl (by decide) (by omega) u4 x4_1 ((rd_T25 t249 x13_1).f0) [.int .i64 ((rd_T25 t249 x13_1).f0)] (fun _ => True) (fun _ => False) rfl (by first | (go_simp; done) | (go_simp; rfl)) ?aP (fun _ hk => hk.elim) ?aF ?aO ?aB ?aS ?aL ?_; (case aP => exact rfl); (case aB => exact (bW HB)); (case aF => exact (fun _ _ => trivial)); (case aO => exact (by (with_reducible repeat (first | apply Kd.R_alloc | apply Kd.R_drewN | apply Kd.R_drew)); exact Kd.R_mono (Kd.R_far (p := ⟨gb253, 4, none⟩) (Kd.R_far (p := ⟨gb253, 3, none⟩) (Kd.R_far (p := ⟨gb253, 2, none⟩) (Kd.R_far (p := ⟨gb253, 1, none⟩) (Kd.R_far (p := ⟨gb253, 0, none⟩) (Kd.R_types HO_4.out BK253.out (by decide)) (fun _ hk => hk.2) (.int .i64 ((rd_T25 t249 x13_1).f0))) (fun _ hk => hk.2) (.int .i64 ((rd_T25 t249 x13_1).f1))) (fun _ hk => hk.2) (.int .i64 ((rd_T25 t249 x13_1).f2))) (fun _ hk => hk.2) (.int .i64 ((rd_T25 t249 x13_1).f3))) (fun _ hk => hk.2) (.int .i64 ((rd_T25 t249 x13_1).f4))) (fun _ hk => trivial))); (case aS => exact (below_size (bW HB))); (case aL => have := LMc11.out; omega); intro v255 w14 ho hb hg hat; rw [← Ny254.out] at ho; have HO256 := Aside0.mk (ho); replace HO_11 := Aside0.mk (Kd.R_over' (by (with_reducible repeat (first | apply Kd.R_alloc | apply Kd.R_drewN | apply Kd.R_drew)); exact (Kd.R_mono (Kd.R_far (p := ⟨gb253, 4, none⟩) (Kd.R_far (p := ⟨gb253, 3, none⟩) (Kd.R_far (p := ⟨gb253, 2, none⟩) (Kd.R_far (p := ⟨gb253, 1, none⟩) (Kd.R_far (p := ⟨gb253, 0, none⟩) (Kd.R_mono HO_11.out (fun k_ hk => (⟨hk, hk.2⟩ : _ ∧ k_ ≠ gb253))) (fun _ hk => hk.2) (.int .i64 ((rd_T25 t249 x13_1).f0))) (fun _ hk => hk.2) (.int .i64 ((rd_T25 t249 x13_1).f1))) (fun _ hk => hk.2) (.int .i64 ((rd_T25 t249 x13_1).f2))) (fun _ hk => hk.2) (.int .i64 ((rd_T25 t249 x13_1).f3))) (fun _ hk => hk.2) (.int .i64 ((rd_T25 t249 x13_1).f4))) (fun _ h_ => h_.1))) (Kd.R_typed (by (with_reducible repeat (first | apply Kd.R_alloc | apply Kd.R_drewN | apply Kd.R_drew)); exact (Kd.R_mono (Kd.R_far (p := ⟨gb253, 4, none⟩) (Kd.R_far (p := ⟨gb253, 3, none⟩) (Kd.R_far (p := ⟨gb253, 2, none⟩) (Kd.R_far (p := ⟨gb253, 1, none⟩) (Kd.R_far (p := ⟨gb253, 0, none⟩) (Kd.R_types HO_4.out BK253.out (by decide)) (fun _ hk => hk.2) (.int .i64 ((rd_T25 t249 x13_1).f0))) (fun _ hk => hk.2) (.int .i64 ((rd_T25 t249 x13_1).f1))) (fun _ hk => hk.2) (.int .i64 ((rd_T25 t249 x13_1).f2))) (fun _ hk => hk.2) (.int .i64 ((rd_T25 t249 x13_1).f3))) (fun _ hk => hk.2) (.int .i64 ((rd_T25 t249 x13_1).f4))) (fun _ h_ => h_.1)))) (by decide) hg); replace BK253 := Aside0.mk (blk_grown (g := gb253) (o := .cells #[.int .i64 ((rd_T25 t249 x13_1).f0), .int .i64 ((rd_T25 t249 x13_1).f1), .int .i64 ((rd_T25 t249 x13_1).f2), .int .i64 ((rd_T25 t249 x13_1).f3), .int .i64 ((rd_T25 t249 x13_1).f4)] 25 (0, 0)) (by exact pW BK253) hg (Kd.R_ne HO_4.out BK253.out (by decide))); replace HB := Aside0.mk (hb); clear HO_4; clear ho hb hg hat))
        go_roundg k1
        case measure => have := HK1.out; omega
        case rel => exact ⟨(y254), (wrap64 (x13_1 + 1)), rB, H', ⟨by have := HK1.out; omega⟩, ⟨upR HO256.out⟩, ⟨by (with_reducible repeat (first | apply Kd.R_alloc | apply Kd.R_drewN | apply Kd.R_drew)); exact Kd.R_mono HO_11.out (fun _ hk => trivial)⟩, (aB HB)⟩
       ·rw [if_neg c11] at H
        exact absurd H (by simp)
      ·rw [if_neg c10] at H
       exact absurd H (by simp)
     ·rw [if_neg c9] at H
      exact absurd H (by simp)
    ·simp only [Option.some.injEq, Prod.mk.injEq] at H
     obtain ⟨rfl, rfl⟩ := H
     go_wp2
     go_ret2
     exact ⟨_, eB, upR HO_4.out, (bW HB)⟩
 ·replace H := iF (by decide) H
  simp only [Option.some.injEq, Prod.mk.injEq] at H
  obtain ⟨rfl, rfl⟩ := H
  go_enter Try.func34, Try.ntmps34
  go_wp2_with (first | ((with_reducible refine gC 18 ?_); refine lA (some 8) Try.func18 (impl_AreLeads.calls k _ _ l0 false _ ?side1 ?side2 A2.out) ?_; (case side1 => repeat (first | exact HR0.out | (with_reducible refine Kd.C_alloc ?_ _) | (with_reducible refine Kd.C_drewN ?_ _) | (with_reducible refine Kd.C_drew ?_))); (case side2 => exact HC0.out); intro w15 hb; replace HB := uB HB hb; (try clear hb); (try clear hk)))
  go_ret2
  exact ⟨_, eB, by first | exact Kd.R_nil _ _ _ _ _ | exact Kd.N_nil _ _ _ _ _ | exact Kd.V_nil _ _ _ _ _ | exact Kd.Q_nil _ _ _ _ _ | exact Kd.S_nil _ _ _ _ _, (bW HB)⟩

end Go.Proofs.Ytldgjibimolcdaa.QFnLeadTrips
