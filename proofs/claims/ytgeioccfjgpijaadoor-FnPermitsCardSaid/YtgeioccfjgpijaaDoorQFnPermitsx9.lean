/- Contracts of Go functions that FnPermits reaches: the call computes what the plain function says. No condition. -/
import Derived.Test.YtgeioccfjgpijaaDoorQFnPermitsx0
import Derived.Test.YtgeioccfjgpijaaDoorQFnPermitsx3
import Derived.Test.YtgeioccfjgpijaaDoorQFnPermitsx4
import Derived.Test.YtgeioccfjgpijaaDoorQFnPermitsx5
import Derived.Test.YtgeioccfjgpijaaDoorQFnPermitsx6
import Derived.Test.YtgeioccfjgpijaaDoorQFnPermitsx7
namespace Go.Proofs.YtgeioccfjgpijaaDoor.QFnPermits
open Go.RowKit Go.Proofs.YtgeioccfjgpijaaDoorW.PrintWords Go.Proofs.YtgeioccfjgpijaaDoorW.PrintLast Go.Proofs.YtgeioccfjgpijaaDoorW.PrintMore
attribute [local go_sem] max2_int min2_int max_two min_two max_three min_three max_four min_four   -- for this text's walks alone
set_option linter.unusedVariables false
set_option linter.unusedSimpArgs false

/-! ### impl_xPermitId: function 142 -/
set_option maxHeartbeats 4000000 in
set_option maxRecDepth 100000 in
theorem IndexFunc_permitId (p : S26 → Bool) (V : Value) (A0 : Option Addr) (c0 : Nat) (l0 : List (S26)) (w : World) (hr0 : Kd.C k26 w A0 l0.length l0) (hc0 : l0.length ≤ c0)
  (hp : ∀ (x : S26) (W : World), x ∈ l0 → Below w.heap.size w W → Calls Tryd.prog 94 #[.agg #[.int .i64 x.f0, .string x.f1, .int .i64 x.f2, .int .i64 x.f3, .int .i64 x.f4, .int .i64 x.f5], V] W fun e W' => e = .returned (.bool (p x)) ∧ Below W.heap.size W W') :
  Calls Tryd.prog 92 #[.slice A0 l0.length c0, .func (.func 94) #[] #[V]] w fun e w' => e = .returned (.int .i64 (idxP26 p l0 0)) ∧ Below w.heap.size w w' := by
 have hu := Tryd.underlying26
 have hm := hr0.2.1
 go_enter Tryd.func92, Tryd.ntmps92
 go_wp2
 go_loopw [8] (fun v wr => ∃ i : Nat, i ≤ l0.length ∧ v = .int .i64 i ∧ idxP26 p l0 0 = idxP26 p (l0.drop i) i ∧ Below w.heap.size w wr) (fun v _ => l0.length - (intOf v).toNat)
 case atStart => exact ⟨0, by omega, rfl, by simp, Below.refl _ _⟩
 case round =>
  obtain ⟨i, hi, rfl, he, hb⟩ := hrel
  by_cases hlt : i < l0.length
  ·obtain ⟨ad, rfl, h0, h1, h2, h3, h4, h5⟩ := at_T26 (Kd.C_below hr0 hb) (i : Int) (by omega) (by omega)
   have hx : rd_T26 l0 (i : Int) = l0.getD i z26 := by unfold rd_T26; rw [Int.toNat_natCast]
   have hmem := getD_mem' l0 i z26 hlt
   rw [hx] at h0 h1 h2 h3 h4 h5
   rw [getD_drop' l0 i z26 hlt] at he
   generalize l0.getD i z26 = x at h0 h1 h2 h3 h4 h5 he hx hmem
   clear hx
   rw [Int.toNat_natCast] at h0 h1 h2 h3 h4 h5
   cases hpx : p x with
   | true =>
    have hq := hp x wr hmem hb
    rw [hpx] at hq
    have he' := Aside0.mk he
    have hb' := Aside0.mk hb
    have hpx' := Aside0.mk hpx
    clear he hb hp hpx hmem
    go_wp2_with (go_at_call 94; refine hq.mono ?_; rintro e w1 ⟨rfl, hb1⟩)
    go_ret
    refine ⟨?_, hb'.out.trans (hb1.mono hb'.out.size)⟩
    rw [he'.out, idxP26, if_pos hpx'.out]
    rfl
   | false =>
    have hq := hp x wr hmem hb
    rw [hpx] at hq
    have he' := Aside0.mk he
    have hb' := Aside0.mk hb
    have hpx' := Aside0.mk hpx
    have hp' := Aside0.mk hp
    clear he hb hp hpx hmem
    go_wp2_with (go_at_call 94; refine hq.mono ?_; rintro e w1 ⟨rfl, hb1⟩)
    go_roundw
    case rel => exact ⟨i + 1, by omega, by go_num, by rw [he'.out, idxP26, hpx'.out]; rfl, hb'.out.trans (hb1.mono hb'.out.size)⟩
    case measure => simp [intOf]; omega
  ·have hd : l0.drop i = [] := List.drop_eq_nil_of_le (by omega)
   rw [hd] at he
   have he' := Aside0.mk he
   have hb' := Aside0.mk hb
   clear he hb hp hd
   go_wp2
   go_ret
   exact ⟨by rw [he'.out, idxP26]; rfl, hb'.out⟩

theorem permitIdClosure (x : S26) (q : Int) (b : Nat) (W : World) (h : W.cell? ⟨b, 0, none⟩ = some (.int .i64 q)) :
  Calls Tryd.prog 94 #[.agg #[.int .i64 x.f0, .string x.f1, .int .i64 x.f2, .int .i64 x.f3, .int .i64 x.f4, .int .i64 x.f5], .pointer (some ⟨b, 0, none⟩)] W fun e W' => e = .returned (.bool (x.f0 == q)) ∧ Below W.heap.size W W' := by
 have hu := Tryd.underlying26
 have hl := World.block_lt_of_cell? W _ h
 go_enter Tryd.func94, Tryd.ntmps94
 go_wp2
 go_ret
 exact ⟨rfl, ((Below.refl _ W).alloc (Nat.le_refl _) _)⟩
def impl_xPermitId.f (l0 : List (S26)) (a1 : Int) : Option Int := some (idxP26 (fun x => x.f0 == a1) l0 0)
theorem impl_xPermitId.calls (A0 : Option Addr) (c0 : Nat) (l0 : List (S26)) (a1 r : Int) (w : World) (hr0 : Kd.C k26 w A0 l0.length l0) (hc0 : l0.length ≤ c0) (h : impl_xPermitId.f l0 a1 = some r) {b : Nat} (hcell : w.cell? ⟨b, 0, none⟩ = some (.int .i64 a1) := by first | assumption | simp) :
  Calls Tryd.prog 92 #[.slice A0 l0.length c0, .func (.func 94) #[] #[.pointer (some ⟨b, 0, none⟩)]] w fun e w' => e = .returned (.int .i64 r) ∧ Below w.heap.size w w' := by
 obtain rfl := Option.some.inj h
 have hl := World.block_lt_of_cell? w _ hcell
 exact IndexFunc_permitId (fun x => x.f0 == a1) (.pointer (some ⟨b, 0, none⟩)) A0 c0 l0 w hr0 hc0 (fun x W _ hB => permitIdClosure x a1 b W ((hB.cell hl).trans hcell))

/-! ### impl_permitAt: function 74 -/
def impl_permitAt.f (k : Nat) (l0 : List (S26)) (a1 : Int) : Option (Int × Bool) := (impl_xPermitId.f l0 a1).bind fun t237 => (if t237 ≥ 0 then ((impl_ArePermits.f k l0).bind fun t238 => (some (t237, t238))) else (some (t237, false)))
theorem impl_permitAt.mono : ∀ a0 a1 k, LeO (impl_permitAt.f k a0 a1) (impl_permitAt.f (k + 1) a0 a1) := by
  intro a0 a1 k
  unfold impl_permitAt.f
  repeat' first
      | (with_reducible exact impl_ArePermits.mono _ _)
      | (with_reducible exact LeO.refl _)
      | (with_reducible exact LeO.none _)
      | (with_reducible refine LeO.ite ?_ ?_)
      | (with_reducible refine LeO.bind ?_ (fun _ => ?_))
      | exact impl_ArePermits.mono _ _
      | exact LeO.none _
      | refine LeO.ite ?_ ?_
      | refine LeO.bind ?_ (fun _ => ?_)
set_option maxHeartbeats 8000000 in
set_option maxRecDepth 100000 in
theorem impl_permitAt.calls (k : Nat) (A0 : Option Addr) (c0 : Nat) (l0 : List (S26)) (a1 : Int) (r1 : Int) (r2 : Bool) (w : World) (hr0 : Kd.C k26 w A0 l0.length l0) (hc0 : l0.length ≤ c0) (h : impl_permitAt.f k l0 a1 = some (r1, r2)) :
    Calls Tryd.prog 74 #[.slice A0 l0.length c0, .int .i64 a1] w fun e w' => e = .returned (.tuple #[.int .i64 r1, .bool r2]) ∧ Below w.heap.size w w' := by
  have HR0 := Aside0.mk hr0
  have HC0 := Aside0.mk hc0
  clear hr0 hc0
  have HB := Aside0.mk (Below.refl w.heap.size w)
  have H : ((impl_xPermitId.f l0 a1).bind fun t237 => (if t237 ≥ 0 then ((impl_ArePermits.f k l0).bind fun t238 => (some (t237, t238))) else (some (t237, false)))) = some (r1, r2) := h
  clear h
  replace H := Option.bind_eq_some_iff.mp H
  obtain ⟨t237, A30, H⟩ := H
  replace H : (if t237 ≥ 0 then ((impl_ArePermits.f k l0).bind fun t238 => (some (t237, t238))) else (some (t237, false))) = some (r1, r2) := H
  have A3 := Aside0.mk A30
  clear A30
  by_cases c4 : t237 ≥ 0
  · rw [if_pos c4] at H
    have c4b0 : decide (0 ≤ t237) = true := decide_eq_true c4
    clear c4
    replace H := Option.bind_eq_some_iff.mp H
    obtain ⟨t238, A50, H⟩ := H
    replace H : (some (t237, t238)) = some (r1, r2) := H
    have A5 := Aside0.mk A50
    clear A50
    simp only [Option.some.injEq, Prod.mk.injEq] at H
    obtain ⟨rfl, rfl⟩ := H
    go_enter Tryd.func74, Tryd.ntmps74
    go_wp2_with (first | ((with_reducible refine gate_callee (f := 92) rfl ?_); refine goesL_ (some 9) rfl rfl Tryd.func92 (by kernel_rfl) rfl #[.slice A0 l0.length c0, .func (.func 94) #[] #[.pointer (some ⟨w.heap.size, 0, none⟩)]] rfl argsB ?_; (with_reducible refine (impl_xPermitId.calls _ _ l0 a1 t237 _ ?side1 ?side2 A3.out).mono ?_); (case side1 => repeat (first | exact HR0.out | (with_reducible refine Kd.C_alloc ?_ _) | (with_reducible refine Kd.C_drewN ?_ _) | (with_reducible refine Kd.C_drew ?_))); (case side2 => exact HC0.out); rintro e w6 ⟨rfl, hb⟩; refine ⟨_, rfl, ?_⟩; have n0_ := Aside0.mk (below_step (upB HB.out) hb); clear HB; have HB := n0_; clear n0_; (try clear hb)) | (go_at_call 21; (with_reducible refine (impl_ArePermits.calls k _ _ l0 t238 _ ?side1 ?side2 A5.out).mono ?_); (case side1 => repeat (first | exact (Kd.C_below HR0.out HB.out) | (with_reducible refine Kd.C_alloc ?_ _) | (with_reducible refine Kd.C_drewN ?_ _) | (with_reducible refine Kd.C_drew ?_))); (case side2 => exact HC0.out); rintro e w7 ⟨rfl, hb⟩; have n0_ := Aside0.mk (below_step (upB HB.out) hb); clear HB; have HB := n0_; clear n0_; (try clear hb)))
    go_ret2
    exact ⟨by first | rfl | (simp [errW_none, errW_some] <;> rfl) | (simp [*, errW_none, errW_some] <;> rfl), (upB HB.out)⟩
  · rw [if_neg c4] at H
    have c4b0 : decide (0 ≤ t237) = false := decide_eq_false c4
    clear c4
    simp only [Option.some.injEq, Prod.mk.injEq] at H
    obtain ⟨rfl, rfl⟩ := H
    go_enter Tryd.func74, Tryd.ntmps74
    go_wp2_with (first | ((with_reducible refine gate_callee (f := 92) rfl ?_); refine goesL_ (some 9) rfl rfl Tryd.func92 (by kernel_rfl) rfl #[.slice A0 l0.length c0, .func (.func 94) #[] #[.pointer (some ⟨w.heap.size, 0, none⟩)]] rfl argsB ?_; (with_reducible refine (impl_xPermitId.calls _ _ l0 a1 t237 _ ?side1 ?side2 A3.out).mono ?_); (case side1 => repeat (first | exact HR0.out | (with_reducible refine Kd.C_alloc ?_ _) | (with_reducible refine Kd.C_drewN ?_ _) | (with_reducible refine Kd.C_drew ?_))); (case side2 => exact HC0.out); rintro e w8 ⟨rfl, hb⟩; refine ⟨_, rfl, ?_⟩; have n0_ := Aside0.mk (below_step (upB HB.out) hb); clear HB; have HB := n0_; clear n0_; (try clear hb)))
    go_ret2
    exact ⟨by first | rfl | (simp [errW_none, errW_some] <;> rfl) | (simp [*, errW_none, errW_some] <;> rfl), (upB HB.out)⟩

/-! ### impl_withState: function 75 -/
def impl_withState.f (k : Nat) (l0 : List (S26)) (a1 a2 : Int) : Option ((List (S26)) × Bool) := (impl_Permit_68.f l0).bind fun t239 => (if 0 ≤ a1 then (if a1 < (t239.length : Int) then ((some (t239.set (a1 : Int).toNat (⟨(rd_T26 t239 a1).f0, (rd_T26 t239 a1).f1, (rd_T26 t239 a1).f2, (rd_T26 t239 a1).f3, (rd_T26 t239 a1).f4, a2⟩ : S26) : List (S26))).bind fun y242 => ((impl_ArePermits.f k y242).bind fun t243 => (if t243 = true then (some (y242, true)) else (some (([] : List (S26)), false))))) else (none)) else (none))
theorem impl_withState.mono : ∀ a0 a1 a2 k, LeO (impl_withState.f k a0 a1 a2) (impl_withState.f (k + 1) a0 a1 a2) := by
 intro a0 a1 a2 k
 unfold impl_withState.f
 repeat' with_reducible first | apply impl_ArePermits.mono | exact LeO.refl _ | exact LeO.none _ | refine LeO.ite ?_ ?_ | refine LeO.bind ?_ (fun _ => ?_)
set_option maxHeartbeats 8000000 in
set_option maxRecDepth 100000 in
theorem impl_withState.calls (k : Nat) (A0 : Option Addr) (c0 : Nat) (l0 : List (S26)) (a1 a2 : Int) (r1 : List (S26)) (r2 : Bool) (w : World) (hr0 : Kd.C k26 w A0 l0.length l0) (hc0 : l0.length ≤ c0) (h : impl_withState.f k l0 a1 a2 = some (r1, r2)) :
  Calls Tryd.prog 75 #[.slice A0 l0.length c0, .int .i64 a1, .int .i64 a2] w fun e w' => ∃ v0_ : Value, e = .returned (.tuple #[v0_, .bool r2]) ∧ Kd.R k26 26 w' w.heap.size (fun _ => True) v0_ r1 ∧ Below w.heap.size w w' := by
 have HR0 := Aside0.mk hr0
 have HC0 := Aside0.mk hc0
 clear hr0 hc0
 have HB := Aside0.mk (Below.refl w.heap.size w)
 have H := h
 clear h
 unfold impl_withState.f at H
 replace H := bA H
 obtain ⟨t239, A4, H⟩ := H
 by_cases c5 : 0 ≤ a1
 ·rw [if_pos c5] at H
  have c5b0 : decide (0 ≤ a1) = true := decide_eq_true c5
  clear c5
  by_cases c6 : a1 < (t239.length : Int)
  ·rw [if_pos c6] at H
   have c6b0 : decide (a1 < (t239.length : Int)) = true := decide_eq_true c6
   clear c6
   obtain ⟨y242, hy242⟩ : ∃ y_ : List (S26), y_ = (t239.set (a1 : Int).toNat (⟨(rd_T26 t239 a1).f0, (rd_T26 t239 a1).f1, (rd_T26 t239 a1).f2, (rd_T26 t239 a1).f3, (rd_T26 t239 a1).f4, a2⟩ : S26)) := ⟨_, rfl⟩
   replace H : ((impl_ArePermits.f k y242).bind fun t243 => (if t243 = true then (some (y242, true)) else (some (([] : List (S26)), false)))) = some (r1, r2) := by first | (rw [hy242]; with_reducible exact H) | (have H2_ := (Option.bind_some _ _).symm.trans H; rw [hy242]; with_reducible exact H2_) | (have H2_ := (Option.bind_some _ _).symm.trans H; with_reducible exact H2_) | with_reducible exact H | (rw [hy242]; exact H) | exact H
   have Ny242 := Aside0.mk hy242
   clear hy242
   replace H := bA H
   obtain ⟨t243, A8, H⟩ := H
   rcases Bool.eq_false_or_eq_true t243 with rfl | rfl
   ·replace H := iT rfl H
    simp only [Option.some.injEq, Prod.mk.injEq] at H
    obtain ⟨rfl, rfl⟩ := H
    go_enter Tryd.func75, Tryd.ntmps75
    go_wp2_with (first | ((with_reducible refine gate_callee (f := 68) rfl ?_); refine goesL_ (some 10) rfl rfl Tryd.func68 (by kernel_rfl) rfl #[.slice A0 l0.length c0] rfl argsB ?_; (with_reducible refine (impl_Permit_68.calls _ _ l0 t239 _ ?side1 ?side2 A4.out).mono ?_); (case side1 => repeat (first | exact HR0.out | (with_reducible refine Kd.C_alloc ?_ _) | (with_reducible refine Kd.C_drewN ?_ _) | (with_reducible refine Kd.C_drew ?_))); (case side2 => exact HC0.out); rintro e w10 ⟨v240, rfl, ho0, hb⟩; refine ⟨_, rfl, ?_⟩; have HO241 := Aside0.mk (Kd.R_lower ho0 (below_size (bW HB))); replace HB := uB HB hb; (try clear hb); (try clear hk); (try clear ho0); have p7 : 0 ≤ (a1 : Int) := of_decide_eq_true asmB; have q7 : (a1 : Int) < ((t239.length : Int) : Int) := of_decide_eq_true asmB; obtain ⟨go7, co7, eo7, gb7, gl7, cl7, HG7⟩ := Kd.R_form HO241.out (by omega); (first | cases eo7 | (injection eo7 with ea_ en_ ec_; (first | subst ea_ | (injection ea_ with ea_; subst ea_)); subst ec_; clear en_)); have GB7 := Aside0.mk gb7; have GG7 := Aside0.mk HG7; clear gb7 gl7 HG7; obtain ⟨ce7, hcl7, hM7, hcc7, hfr7⟩ := Kd.R_elem HO241.out z26 (a1 : Int) p7 q7; obtain rfl := k26_openM hM7; have hx7_0 : w10.cell? ⟨go7, (a1 : Int).toNat * 6, none⟩ = some (.int .i64 ((rd_T26 t239 a1).f0)) := hcc7 0 _ rfl; have hx7_1 : w10.cell? ⟨go7, (a1 : Int).toNat * 6 + 1, none⟩ = some (.string ((rd_T26 t239 a1).f1)) := hcc7 1 _ rfl; have hx7_2 : w10.cell? ⟨go7, (a1 : Int).toNat * 6 + 2, none⟩ = some (.int .i64 ((rd_T26 t239 a1).f2)) := hcc7 2 _ rfl; have hx7_3 : w10.cell? ⟨go7, (a1 : Int).toNat * 6 + 3, none⟩ = some (.int .i64 ((rd_T26 t239 a1).f3)) := hcc7 3 _ rfl; have hx7_4 : w10.cell? ⟨go7, (a1 : Int).toNat * 6 + 4, none⟩ = some (.int .i64 ((rd_T26 t239 a1).f4)) := hcc7 4 _ rfl; have hx7_5 : w10.cell? ⟨go7, (a1 : Int).toNat * 6 + 5, none⟩ = some (.int .i64 ((rd_T26 t239 a1).f5)) := hcc7 5 _ rfl; have hf7_0 : w10.frozen? ⟨go7, (a1 : Int).toNat * 6, none⟩ = false := hfr7 0; have hf7_1 : w10.frozen? ⟨go7, (a1 : Int).toNat * 6 + 1, none⟩ = false := hfr7 1; have hf7_2 : w10.frozen? ⟨go7, (a1 : Int).toNat * 6 + 2, none⟩ = false := hfr7 2; have hf7_3 : w10.frozen? ⟨go7, (a1 : Int).toNat * 6 + 3, none⟩ = false := hfr7 3; have hf7_4 : w10.frozen? ⟨go7, (a1 : Int).toNat * 6 + 4, none⟩ = false := hfr7 4; have hf7_5 : w10.frozen? ⟨go7, (a1 : Int).toNat * 6 + 5, none⟩ = false := hfr7 5; clear hcl7 hcc7 hfr7 hM7; replace p7 := eq_true p7; replace q7 := eq_true q7; have HX11 := Aside0.mk (show Kd.R k26 26 w10 w.heap.size (fun _ => True) (.slice (some ⟨go7, 0, none⟩) t239.length co7) t239 from (upR HO241.out)); obtain ⟨ce11, hcl11, hM11, hcc11, hfr11⟩ := Kd.R_elem HX11.out z26 (a1 : Int) (of_decide_eq_true asmB) (by have h_ : (a1 : Int) < ((t239.length : Int) : Int) := of_decide_eq_true asmB; first | exact h_ | (have e_ := (Kd.R_reads' HO241.out).1; omega) | simpa using h_); obtain rfl := k26_openM hM11; have HP11 := Kd.R_seg HX11.out (a1 : Int) (of_decide_eq_true asmB) (by have h_ : (a1 : Int) < ((t239.length : Int) : Int) := of_decide_eq_true asmB; first | exact h_ | (have e_ := (Kd.R_reads' HO241.out).1; omega) | simpa using h_) (seg := [.int .i64 a2]) (j := 5) hcl11 hcc11 (show 6 ≤ 6 from by decide) (x' := (⟨(rd_T26 t239 a1).f0, (rd_T26 t239 a1).f1, (rd_T26 t239 a1).f2, (rd_T26 t239 a1).f3, (rd_T26 t239 a1).f4, a2⟩ : S26)) (k26_mkM _ _ _ (⟨(rd_T26 t239 a1).f0, (rd_T26 t239 a1).f1, (rd_T26 t239 a1).f2, (rd_T26 t239 a1).f3, (rd_T26 t239 a1).f4, a2⟩ : S26) ) (fun _ hk => hk); have hx11_5 := hcc11 5 _ rfl; (try simp only [show (k26).sz = 6 from rfl, Nat.mul_one, Nat.add_zero] at hx11_5); have hf11_5 := hfr11 5; (try simp only [show (k26).sz = 6 from rfl, Nat.mul_one, Nat.add_zero] at hf11_5); clear hcl11 hcc11 hfr11 hM11) | ((with_reducible refine gate_store (t := 3) (p := 15) rfl ?_); refine store_event (t := 3) (p := 15) (v := ?vo_w12) (w1 := (w10.setCell ⟨go7, (a1 : Int).toNat * 6 + 5, none⟩ (.int .i64 a2))) ?hg ?ho ?hn ?hr ?_; (case ho => rfl); (case hg => rfl); (case hn => rfl); (case hr => first | (go_simp; done) | (go_simp; rfl)); intro w12 hw; have hg : w10.grownBy w12 (some go7) := (by rw [hw]; exact HP11.2); have hp_ : Kd.R k26 26 w12 w.heap.size (fun _ => True) (.slice (some ⟨go7, 0, none⟩) t239.length co7) y242 := (by rw [hw, Ny242.out]; exact HP11.1); clear HP11; replace HO241 := Aside0.mk (hp_); replace HB := Aside0.mk ((by rw [hw]; exact below_set (HB.out) GB7.out : Below w.heap.size w w12)); clear hg hw hp_) | ((with_reducible refine gate_callee (f := 21) rfl ?_); refine goesL_ (some 17) rfl rfl Tryd.func21 (by kernel_rfl) rfl #[.slice (some ⟨go7, 0, none⟩) y242.length co7] rfl (by (try simp only [List.map_toArray, List.map_cons, List.map_nil]); first | done | (rw [show y242.length = t239.length from (Kd.R_reads' HO241.out).1.symm] <;> rfl) | rfl | (simp only [List.length_drop, List.length_take]; rfl)) ?_; (with_reducible refine (impl_ArePermits.calls k _ _ y242 true _ ?side1 ?side2 A8.out).mono ?_); (case side1 => repeat (first | exact (Kd.R_reads' HO241.out).2.2 | (with_reducible refine Kd.C_alloc ?_ _) | (with_reducible refine Kd.C_drewN ?_ _) | (with_reducible refine Kd.C_drew ?_))); (case side2 => rw [show y242.length = t239.length from (Kd.R_reads' HO241.out).1.symm]; exact (Kd.R_reads' HO241.out).2.1); rintro e w13 ⟨rfl, hb⟩; refine ⟨_, rfl, ?_⟩; replace HO241 := uR HO241 hb; replace HB := uB HB hb; (try clear hb); (try clear hk)))
    go_ret2
    exact ⟨_, eB, upR HO241.out, (bW HB)⟩
   ·replace H := iF (by decide) H
    simp only [Option.some.injEq, Prod.mk.injEq] at H
    obtain ⟨rfl, rfl⟩ := H
    go_enter Tryd.func75, Tryd.ntmps75
    go_wp2_with (first | ((with_reducible refine gate_callee (f := 68) rfl ?_); refine goesL_ (some 10) rfl rfl Tryd.func68 (by kernel_rfl) rfl #[.slice A0 l0.length c0] rfl argsB ?_; (with_reducible refine (impl_Permit_68.calls _ _ l0 t239 _ ?side1 ?side2 A4.out).mono ?_); (case side1 => repeat (first | exact HR0.out | (with_reducible refine Kd.C_alloc ?_ _) | (with_reducible refine Kd.C_drewN ?_ _) | (with_reducible refine Kd.C_drew ?_))); (case side2 => exact HC0.out); rintro e w14 ⟨v240, rfl, ho0, hb⟩; refine ⟨_, rfl, ?_⟩; have HO241 := Aside0.mk (Kd.R_lower ho0 (below_size (bW HB))); replace HB := uB HB hb; (try clear hb); (try clear hk); (try clear ho0); have p7 : 0 ≤ (a1 : Int) := of_decide_eq_true asmB; have q7 : (a1 : Int) < ((t239.length : Int) : Int) := of_decide_eq_true asmB; obtain ⟨go7, co7, eo7, gb7, gl7, cl7, HG7⟩ := Kd.R_form HO241.out (by omega); (first | cases eo7 | (injection eo7 with ea_ en_ ec_; (first | subst ea_ | (injection ea_ with ea_; subst ea_)); subst ec_; clear en_)); have GB7 := Aside0.mk gb7; have GG7 := Aside0.mk HG7; clear gb7 gl7 HG7; obtain ⟨ce7, hcl7, hM7, hcc7, hfr7⟩ := Kd.R_elem HO241.out z26 (a1 : Int) p7 q7; obtain rfl := k26_openM hM7; have hx7_0 : w14.cell? ⟨go7, (a1 : Int).toNat * 6, none⟩ = some (.int .i64 ((rd_T26 t239 a1).f0)) := hcc7 0 _ rfl; have hx7_1 : w14.cell? ⟨go7, (a1 : Int).toNat * 6 + 1, none⟩ = some (.string ((rd_T26 t239 a1).f1)) := hcc7 1 _ rfl; have hx7_2 : w14.cell? ⟨go7, (a1 : Int).toNat * 6 + 2, none⟩ = some (.int .i64 ((rd_T26 t239 a1).f2)) := hcc7 2 _ rfl; have hx7_3 : w14.cell? ⟨go7, (a1 : Int).toNat * 6 + 3, none⟩ = some (.int .i64 ((rd_T26 t239 a1).f3)) := hcc7 3 _ rfl; have hx7_4 : w14.cell? ⟨go7, (a1 : Int).toNat * 6 + 4, none⟩ = some (.int .i64 ((rd_T26 t239 a1).f4)) := hcc7 4 _ rfl; have hx7_5 : w14.cell? ⟨go7, (a1 : Int).toNat * 6 + 5, none⟩ = some (.int .i64 ((rd_T26 t239 a1).f5)) := hcc7 5 _ rfl; have hf7_0 : w14.frozen? ⟨go7, (a1 : Int).toNat * 6, none⟩ = false := hfr7 0; have hf7_1 : w14.frozen? ⟨go7, (a1 : Int).toNat * 6 + 1, none⟩ = false := hfr7 1; have hf7_2 : w14.frozen? ⟨go7, (a1 : Int).toNat * 6 + 2, none⟩ = false := hfr7 2; have hf7_3 : w14.frozen? ⟨go7, (a1 : Int).toNat * 6 + 3, none⟩ = false := hfr7 3; have hf7_4 : w14.frozen? ⟨go7, (a1 : Int).toNat * 6 + 4, none⟩ = false := hfr7 4; have hf7_5 : w14.frozen? ⟨go7, (a1 : Int).toNat * 6 + 5, none⟩ = false := hfr7 5; clear hcl7 hcc7 hfr7 hM7; replace p7 := eq_true p7; replace q7 := eq_true q7; have HX15 := Aside0.mk (show Kd.R k26 26 w14 w.heap.size (fun _ => True) (.slice (some ⟨go7, 0, none⟩) t239.length co7) t239 from (upR HO241.out)); obtain ⟨ce15, hcl15, hM15, hcc15, hfr15⟩ := Kd.R_elem HX15.out z26 (a1 : Int) (of_decide_eq_true asmB) (by have h_ : (a1 : Int) < ((t239.length : Int) : Int) := of_decide_eq_true asmB; first | exact h_ | (have e_ := (Kd.R_reads' HO241.out).1; omega) | simpa using h_); obtain rfl := k26_openM hM15; have HP15 := Kd.R_seg HX15.out (a1 : Int) (of_decide_eq_true asmB) (by have h_ : (a1 : Int) < ((t239.length : Int) : Int) := of_decide_eq_true asmB; first | exact h_ | (have e_ := (Kd.R_reads' HO241.out).1; omega) | simpa using h_) (seg := [.int .i64 a2]) (j := 5) hcl15 hcc15 (show 6 ≤ 6 from by decide) (x' := (⟨(rd_T26 t239 a1).f0, (rd_T26 t239 a1).f1, (rd_T26 t239 a1).f2, (rd_T26 t239 a1).f3, (rd_T26 t239 a1).f4, a2⟩ : S26)) (k26_mkM _ _ _ (⟨(rd_T26 t239 a1).f0, (rd_T26 t239 a1).f1, (rd_T26 t239 a1).f2, (rd_T26 t239 a1).f3, (rd_T26 t239 a1).f4, a2⟩ : S26) ) (fun _ hk => hk); have hx15_5 := hcc15 5 _ rfl; (try simp only [show (k26).sz = 6 from rfl, Nat.mul_one, Nat.add_zero] at hx15_5); have hf15_5 := hfr15 5; (try simp only [show (k26).sz = 6 from rfl, Nat.mul_one, Nat.add_zero] at hf15_5); clear hcl15 hcc15 hfr15 hM15) | ((with_reducible refine gate_store (t := 3) (p := 15) rfl ?_); refine store_event (t := 3) (p := 15) (v := ?vo_w16) (w1 := (w14.setCell ⟨go7, (a1 : Int).toNat * 6 + 5, none⟩ (.int .i64 a2))) ?hg ?ho ?hn ?hr ?_; (case ho => rfl); (case hg => rfl); (case hn => rfl); (case hr => first | (go_simp; done) | (go_simp; rfl)); intro w16 hw; have hg : w14.grownBy w16 (some go7) := (by rw [hw]; exact HP15.2); have hp_ : Kd.R k26 26 w16 w.heap.size (fun _ => True) (.slice (some ⟨go7, 0, none⟩) t239.length co7) y242 := (by rw [hw, Ny242.out]; exact HP15.1); clear HP15; replace HO241 := Aside0.mk (hp_); replace HB := Aside0.mk ((by rw [hw]; exact below_set (HB.out) GB7.out : Below w.heap.size w w16)); clear hg hw hp_) | ((with_reducible refine gate_callee (f := 21) rfl ?_); refine goesL_ (some 17) rfl rfl Tryd.func21 (by kernel_rfl) rfl #[.slice (some ⟨go7, 0, none⟩) y242.length co7] rfl (by (try simp only [List.map_toArray, List.map_cons, List.map_nil]); first | done | (rw [show y242.length = t239.length from (Kd.R_reads' HO241.out).1.symm] <;> rfl) | rfl | (simp only [List.length_drop, List.length_take]; rfl)) ?_; (with_reducible refine (impl_ArePermits.calls k _ _ y242 false _ ?side1 ?side2 A8.out).mono ?_); (case side1 => repeat (first | exact (Kd.R_reads' HO241.out).2.2 | (with_reducible refine Kd.C_alloc ?_ _) | (with_reducible refine Kd.C_drewN ?_ _) | (with_reducible refine Kd.C_drew ?_))); (case side2 => rw [show y242.length = t239.length from (Kd.R_reads' HO241.out).1.symm]; exact (Kd.R_reads' HO241.out).2.1); rintro e w17 ⟨rfl, hb⟩; refine ⟨_, rfl, ?_⟩; replace HO241 := uR HO241 hb; replace HB := uB HB hb; (try clear hb); (try clear hk)))
    go_ret2
    exact ⟨_, eB, by first | exact Kd.R_nil _ _ _ _ _ | exact Kd.N_nil _ _ _ _ _ | exact Kd.V_nil _ _ _ _ _ | exact Kd.Q_nil _ _ _ _ _ | exact Kd.S_nil _ _ _ _ _, (bW HB)⟩
  ·rw [if_neg c6] at H
   exact absurd H (by simp)
 ·rw [if_neg c5] at H
  exact absurd H (by simp)

/-! ### impl_UsePermit: function 34 -/
def impl_UsePermit.j0 : Nat → List (S26) → Int → Int → Int → Bool → Option ((List (S26)) × Bool)
 | 0, _, _, _, _, _ => none
 | k + 1, x0, x2, x3, x10, x30 => if x30 = true then (some (([] : List (S26)), false)) else (if 0 ≤ x10 then (if x10 < (x0.length : Int) then ((impl_Permit_counts.f ((rd_T26 x0 x10).f0) ((rd_T26 x0 x10).f1) ((rd_T26 x0 x10).f2) ((rd_T26 x0 x10).f3) ((rd_T26 x0 x10).f4) ((rd_T26 x0 x10).f5)).bind fun t250 => (if t250 = true then ((impl_within.f x2 ((rd_T26 x0 x10).f2) ((rd_T26 x0 x10).f3)).bind fun t251 => (if t251 = true then (if x3 > ((rd_T26 x0 x10).f4) then (some (([] : List (S26)), false)) else ((impl_withState.f k x0 x10 3).bind fun bt252 => (some (bt252.1, bt252.2)))) else (some (([] : List (S26)), false)))) else (some (([] : List (S26)), false)))) else (none)) else (none))
def impl_UsePermit.f (k : Nat) (l0 : List (S26)) (a1 a2 a3 : Int) : Option ((List (S26)) × Bool) := (impl_permitAt.f k l0 a1).bind fun bt244 => (if bt244.2 = true then ((impl_isDay.f a2).bind fun t246 => (if t246 = true then ((impl_within.f a3 1 12).bind fun t247 => (impl_UsePermit.j0 k l0 a2 a3 bt244.1 (!t247))) else (impl_UsePermit.j0 k l0 a2 a3 bt244.1 true))) else (impl_UsePermit.j0 k l0 a2 a3 bt244.1 true))
theorem impl_UsePermit.mono_l : ∀ k, (∀ y0 y1 y2 y3 y4, LeO (impl_UsePermit.j0 k y0 y1 y2 y3 y4) (impl_UsePermit.j0 (k + 1) y0 y1 y2 y3 y4))
 | 0 => fun _ _ _ _ _ r h => by simp [impl_UsePermit.j0] at h
 | k + 1 => by
  have ih0 := impl_UsePermit.mono_l k
  ·intro y0 y1 y2 y3 y4
   unfold impl_UsePermit.j0
   repeat' with_reducible first | apply ih0 | apply impl_permitAt.mono | apply impl_withState.mono | exact LeO.refl _ | exact LeO.none _ | refine LeO.ite ?_ ?_ | refine LeO.bind ?_ (fun _ => ?_)
theorem impl_UsePermit.mono : ∀ a0 a1 a2 a3 k, LeO (impl_UsePermit.f k a0 a1 a2 a3) (impl_UsePermit.f (k + 1) a0 a1 a2 a3) := by
 intro a0 a1 a2 a3 k
 have ih0 := impl_UsePermit.mono_l k
 unfold impl_UsePermit.f
 repeat' with_reducible first | apply ih0 | apply impl_permitAt.mono | apply impl_withState.mono | exact LeO.refl _ | exact LeO.none _ | refine LeO.ite ?_ ?_ | refine LeO.bind ?_ (fun _ => ?_)
set_option maxHeartbeats 8000000 in
set_option maxRecDepth 100000 in
theorem impl_UsePermit.calls (k : Nat) (A0 : Option Addr) (c0 : Nat) (l0 : List (S26)) (a1 a2 a3 : Int) (r1 : List (S26)) (r2 : Bool) (w : World) (hr0 : Kd.C k26 w A0 l0.length l0) (hc0 : l0.length ≤ c0) (h : impl_UsePermit.f k l0 a1 a2 a3 = some (r1, r2)) :
  Calls Tryd.prog 34 #[.slice A0 l0.length c0, .int .i64 a1, .int .i64 a2, .int .i64 a3] w fun e w' => ∃ v0_ : Value, e = .returned (.tuple #[v0_, .bool r2]) ∧ Kd.R k26 26 w' w.heap.size (fun _ => True) v0_ r1 ∧ Below w.heap.size w w' := by
 have hu26 := Tryd.underlying26
 have HR0 := Aside0.mk hr0
 have HC0 := Aside0.mk hc0
 clear hr0 hc0
 have HB := Aside0.mk (Below.refl w.heap.size w)
 have H := h
 clear h
 unfold impl_UsePermit.f at H
 replace H := Option.bind_eq_some_iff.mp H
 obtain ⟨⟨t244, t245⟩, A50, H⟩ := H
 replace H : (if t245 = true then ((impl_isDay.f a2).bind fun t246 => (if t246 = true then ((impl_within.f a3 1 12).bind fun t247 => (impl_UsePermit.j0 k l0 a2 a3 t244 (!t247))) else (impl_UsePermit.j0 k l0 a2 a3 t244 true))) else (impl_UsePermit.j0 k l0 a2 a3 t244 true)) = some (r1, r2) := H
 have A5 := Aside0.mk A50
 clear A50
 have HC6 := Aside0.mk H
 clear H
 go_enter Tryd.func34, Tryd.ntmps34
 go_upto_region 2 with (first | ((with_reducible refine gC 74 ?_); refine lA (some 16) Tryd.func74 (impl_permitAt.calls k _ _ l0 a1 t244 t245 _ ?side1 ?side2 A5.out) ?_; (case side1 => repeat (first | exact HR0.out | (with_reducible refine Kd.C_alloc ?_ _) | (with_reducible refine Kd.C_drewN ?_ _) | (with_reducible refine Kd.C_drew ?_))); (case side2 => exact HC0.out); intro w7 hb; replace HB := uB HB hb; (try clear hb); (try clear hk)))
 (try simp only [Act.put, List.setIfInBounds_toArray, List.set_cons_zero, List.set_cons_succ])
 go_cut [30] (fun v30 wc => ∃ (kq : Nat) (x30_5 : Bool), v30 = .bool x30_5 ∧ Aside0 (impl_UsePermit.j0 kq l0 a2 a3 t244 x30_5 = some (r1, r2)) ∧ Aside0 (kq ≤ k) ∧ Aside0 (Below w.heap.size w wc))
 case first =>
  have H := HC6.out
  clear HC6
  rcases Bool.eq_false_or_eq_true t245 with rfl | rfl
  ·replace H := iT rfl H
   replace H := bA H
   obtain ⟨t246, A9, H⟩ := H
   rcases Bool.eq_false_or_eq_true t246 with rfl | rfl
   ·replace H := iT rfl H
    replace H := bA H
    obtain ⟨t247, A11, H⟩ := H
    have H' := Aside0.mk H
    clear H
    go_wp2_with (first | (go_at_call 56; (with_reducible refine (impl_isDay.calls a2 true _ A9.out).mono ?_); rintro e w' ⟨rfl, ⟨nd, rfl⟩⟩) | (go_at_call 57; (with_reducible refine (impl_within.calls a3 1 12 t247 _ A11.out).mono ?_); rintro e w' ⟨rfl, ⟨nd, rfl⟩⟩))
    go_meet
    case rel => exact ⟨_, (!t247), rB, H', leB, (aB HB)⟩
   ·replace H := iF (by decide) H
    have H' := Aside0.mk H
    clear H
    go_wp2_with (first | (go_at_call 56; (with_reducible refine (impl_isDay.calls a2 false _ A9.out).mono ?_); rintro e w' ⟨rfl, ⟨nd, rfl⟩⟩))
    go_meet
    case rel => exact ⟨_, (true), rB, H', leB, (aB HB)⟩
  ·replace H := iF (by decide) H
   have H' := Aside0.mk H
   clear H
   go_wp2
   go_meet
   case rel => exact ⟨_, (true), rB, H', leB, (aB HB)⟩
 case rest =>
  clear HC6
  obtain ⟨kq, x30_5, rfl, HA, HJ5, HB⟩ := hcut
  cases kq with
  | zero => exact absurd HA.out (by simp [impl_UsePermit.j0])
  | succ kj5 =>
   have H := HA.out
   clear HA
   simp only [impl_UsePermit.j0] at H
   rcases Bool.eq_false_or_eq_true x30_5 with rfl | rfl
   ·replace H := iT rfl H
    simp only [Option.some.injEq, Prod.mk.injEq] at H
    obtain ⟨rfl, rfl⟩ := H
    go_wp2
    go_ret2
    exact ⟨_, eB, by first | exact Kd.R_nil _ _ _ _ _ | exact Kd.N_nil _ _ _ _ _ | exact Kd.V_nil _ _ _ _ _ | exact Kd.Q_nil _ _ _ _ _ | exact Kd.S_nil _ _ _ _ _, (bW HB)⟩
   ·replace H := iF (by decide) H
    by_cases c13 : 0 ≤ t244
    ·rw [if_pos c13] at H
     have c13b0 : decide (0 ≤ t244) = true := decide_eq_true c13
     clear c13
     by_cases c14 : t244 < (l0.length : Int)
     ·rw [if_pos c14] at H
      have c14b0 : decide (t244 < (l0.length : Int)) = true := decide_eq_true c14
      clear c14
      replace H := bA H
      obtain ⟨t250, A15, H⟩ := H
      rcases Bool.eq_false_or_eq_true t250 with rfl | rfl
      ·replace H := iT rfl H
       replace H := bA H
       obtain ⟨t251, A17, H⟩ := H
       rcases Bool.eq_false_or_eq_true t251 with rfl | rfl
       ·replace H := iT rfl H
        replace H := ifD H
        rcases H with ⟨H, -, c19b0⟩ | ⟨H, -, c19b0⟩
        ·simp only [Option.some.injEq, Prod.mk.injEq] at H
         obtain ⟨rfl, rfl⟩ := H
         have p248 : 0 ≤ (t244 : Int) := of_decide_eq_true asmB
         have q248 : t244 < (l0.length : Int) := of_decide_eq_true asmB
         obtain ⟨ad248, e248, hx248_0, hx248_1, hx248_2, hx248_3, hx248_4, hx248_5⟩ := at_T26 HR0.out t244 p248 q248
         cases e248
         replace hx248_0 := bx HB.out hx248_0
         replace hx248_1 := bx HB.out hx248_1
         replace hx248_2 := bx HB.out hx248_2
         replace hx248_3 := bx HB.out hx248_3
         replace hx248_4 := bx HB.out hx248_4
         replace hx248_5 := bx HB.out hx248_5
         replace p248 := eq_true p248
         replace q248 := eq_true q248
         go_wp2_with (first | ((with_reducible refine gD 12 ?_); refine bxE 12 26 #[.int .i64 0, .string (⟨#[]⟩ : ByteArray), .int .i64 0, .int .i64 0, .int .i64 0, .int .i64 0] fun gb249 w20 hg hbox hb => ?_; have BK249 := Aside0.mk hbox; have GE249 := gB HB hg; replace HB := uB HB hb; clear hb hbox hg; have hcz21_0 := ci BK249.out 0 0 rfl; have hcz21_1 : w20.cell? ⟨gb249, 1, none⟩ = some (.string (⟨#[]⟩ : ByteArray)) := cb BK249 1; have hcz21_2 := ci BK249.out 2 0 rfl; have hcz21_3 := ci BK249.out 3 0 rfl; have hcz21_4 := ci BK249.out 4 0 rfl; have hcz21_5 := ci BK249.out 5 0 rfl; have hfz21_0 := fun j_ : Nat => blk_frozen BK249.out j_) | ((with_reducible refine gC 72 ?_); refine lA (some 36) Tryd.func72 (impl_Permit_counts.calls ((rd_T26 l0 t244).f0) ((rd_T26 l0 t244).f1) ((rd_T26 l0 t244).f2) ((rd_T26 l0 t244).f3) ((rd_T26 l0 t244).f4) ((rd_T26 l0 t244).f5) true _ A15.out) ?_; intro w22 hb; replace BK249 := uQ BK249 hb #[.int .i64 ((rd_T26 l0 t244).f0), .string ((rd_T26 l0 t244).f1), .int .i64 ((rd_T26 l0 t244).f2), .int .i64 ((rd_T26 l0 t244).f3), .int .i64 ((rd_T26 l0 t244).f4), .int .i64 ((rd_T26 l0 t244).f5)]; replace HB := uB HB hb; (try clear hb); (try clear hk); have hcz23_0 := ci BK249.out 0 ((rd_T26 l0 t244).f0) rfl; have hcz23_1 : w22.cell? ⟨gb249, 1, none⟩ = some (.string ((rd_T26 l0 t244).f1)) := cb BK249 1; have hcz23_2 := ci BK249.out 2 ((rd_T26 l0 t244).f2) rfl; have hcz23_3 := ci BK249.out 3 ((rd_T26 l0 t244).f3) rfl; have hcz23_4 := ci BK249.out 4 ((rd_T26 l0 t244).f4) rfl; have hcz23_5 := ci BK249.out 5 ((rd_T26 l0 t244).f5) rfl; have hfz23_0 := fun j_ : Nat => blk_frozen BK249.out j_) | (go_at_call 57; (with_reducible refine (impl_within.calls a2 ((rd_T26 l0 t244).f2) ((rd_T26 l0 t244).f3) true _ A17.out).mono ?_); rintro e w' ⟨rfl, ⟨nd, rfl⟩⟩))
         go_ret2
         exact ⟨_, eB, by first | exact Kd.R_nil _ _ _ _ _ | exact Kd.N_nil _ _ _ _ _ | exact Kd.V_nil _ _ _ _ _ | exact Kd.Q_nil _ _ _ _ _ | exact Kd.S_nil _ _ _ _ _, (bW HB)⟩
        ·replace H := Option.bind_eq_some_iff.mp H
         obtain ⟨⟨t252, t253⟩, A240, H⟩ := H
         replace H : (some (t252, t253)) = some (r1, r2) := H
         have A24 := Aside0.mk A240
         clear A240
         simp only [Option.some.injEq, Prod.mk.injEq] at H
         obtain ⟨rfl, rfl⟩ := H
         have p248 : 0 ≤ (t244 : Int) := of_decide_eq_true asmB
         have q248 : t244 < (l0.length : Int) := of_decide_eq_true asmB
         obtain ⟨ad248, e248, hx248_0, hx248_1, hx248_2, hx248_3, hx248_4, hx248_5⟩ := at_T26 HR0.out t244 p248 q248
         cases e248
         replace hx248_0 := bx HB.out hx248_0
         replace hx248_1 := bx HB.out hx248_1
         replace hx248_2 := bx HB.out hx248_2
         replace hx248_3 := bx HB.out hx248_3
         replace hx248_4 := bx HB.out hx248_4
         replace hx248_5 := bx HB.out hx248_5
         replace p248 := eq_true p248
         replace q248 := eq_true q248
         go_wp2_with (first | ((with_reducible refine gD 12 ?_); refine bxE 12 26 #[.int .i64 0, .string (⟨#[]⟩ : ByteArray), .int .i64 0, .int .i64 0, .int .i64 0, .int .i64 0] fun gb249 w25 hg hbox hb => ?_; have BK249 := Aside0.mk hbox; have GE249 := gB HB hg; replace HB := uB HB hb; clear hb hbox hg; have hcz26_0 := ci BK249.out 0 0 rfl; have hcz26_1 : w25.cell? ⟨gb249, 1, none⟩ = some (.string (⟨#[]⟩ : ByteArray)) := cb BK249 1; have hcz26_2 := ci BK249.out 2 0 rfl; have hcz26_3 := ci BK249.out 3 0 rfl; have hcz26_4 := ci BK249.out 4 0 rfl; have hcz26_5 := ci BK249.out 5 0 rfl; have hfz26_0 := fun j_ : Nat => blk_frozen BK249.out j_) | ((with_reducible refine gC 72 ?_); refine lA (some 36) Tryd.func72 (impl_Permit_counts.calls ((rd_T26 l0 t244).f0) ((rd_T26 l0 t244).f1) ((rd_T26 l0 t244).f2) ((rd_T26 l0 t244).f3) ((rd_T26 l0 t244).f4) ((rd_T26 l0 t244).f5) true _ A15.out) ?_; intro w27 hb; replace BK249 := uQ BK249 hb #[.int .i64 ((rd_T26 l0 t244).f0), .string ((rd_T26 l0 t244).f1), .int .i64 ((rd_T26 l0 t244).f2), .int .i64 ((rd_T26 l0 t244).f3), .int .i64 ((rd_T26 l0 t244).f4), .int .i64 ((rd_T26 l0 t244).f5)]; replace HB := uB HB hb; (try clear hb); (try clear hk); have hcz28_0 := ci BK249.out 0 ((rd_T26 l0 t244).f0) rfl; have hcz28_1 : w27.cell? ⟨gb249, 1, none⟩ = some (.string ((rd_T26 l0 t244).f1)) := cb BK249 1; have hcz28_2 := ci BK249.out 2 ((rd_T26 l0 t244).f2) rfl; have hcz28_3 := ci BK249.out 3 ((rd_T26 l0 t244).f3) rfl; have hcz28_4 := ci BK249.out 4 ((rd_T26 l0 t244).f4) rfl; have hcz28_5 := ci BK249.out 5 ((rd_T26 l0 t244).f5) rfl; have hfz28_0 := fun j_ : Nat => blk_frozen BK249.out j_) | (go_at_call 57; (with_reducible refine (impl_within.calls a2 ((rd_T26 l0 t244).f2) ((rd_T26 l0 t244).f3) true _ A17.out).mono ?_); rintro e w' ⟨rfl, ⟨nd, rfl⟩⟩) | ((with_reducible refine gate_callee (f := 75) rfl ?_); refine goesL_ (some 55) rfl rfl Tryd.func75 (by kernel_rfl) rfl #[.slice (some ad248) l0.length c0, .int .i64 t244, .int .i64 3] rfl argsB ?_; (with_reducible refine (impl_withState.calls kj5 _ _ l0 t244 3 t252 t253 _ ?side1 ?side2 A24.out).mono ?_); (case side1 => repeat (first | exact (Kd.C_below HR0.out (bW HB)) | (with_reducible refine Kd.C_alloc ?_ _) | (with_reducible refine Kd.C_drewN ?_ _) | (with_reducible refine Kd.C_drew ?_))); (case side2 => exact HC0.out); rintro e w29 ⟨v254, rfl, ho0, hb⟩; refine ⟨_, rfl, ?_⟩; have HO255 := Aside0.mk (Kd.R_lower (Kd.R_newB ho0 (g := gb249) (o := .cells #[.int .i64 ((rd_T26 l0 t244).f0), .string ((rd_T26 l0 t244).f1), .int .i64 ((rd_T26 l0 t244).f2), .int .i64 ((rd_T26 l0 t244).f3), .int .i64 ((rd_T26 l0 t244).f4), .int .i64 ((rd_T26 l0 t244).f5)] 26 (0, 0)) (upK BK249.out)) (below_size (bW HB))); replace BK249 := uK BK249 hb; replace HB := uB HB hb; (try clear hb); (try clear hk); (try clear ho0)))
         go_ret2
         exact ⟨_, eB, by (with_reducible repeat (first | apply Kd.R_alloc | apply Kd.R_drewN | apply Kd.R_drew)); exact Kd.R_mono HO255.out (fun _ hk => trivial), (bW HB)⟩
       ·replace H := iF (by decide) H
        simp only [Option.some.injEq, Prod.mk.injEq] at H
        obtain ⟨rfl, rfl⟩ := H
        have p248 : 0 ≤ (t244 : Int) := of_decide_eq_true asmB
        have q248 : t244 < (l0.length : Int) := of_decide_eq_true asmB
        obtain ⟨ad248, e248, hx248_0, hx248_1, hx248_2, hx248_3, hx248_4, hx248_5⟩ := at_T26 HR0.out t244 p248 q248
        cases e248
        replace hx248_0 := bx HB.out hx248_0
        replace hx248_1 := bx HB.out hx248_1
        replace hx248_2 := bx HB.out hx248_2
        replace hx248_3 := bx HB.out hx248_3
        replace hx248_4 := bx HB.out hx248_4
        replace hx248_5 := bx HB.out hx248_5
        replace p248 := eq_true p248
        replace q248 := eq_true q248
        go_wp2_with (first | ((with_reducible refine gD 12 ?_); refine bxE 12 26 #[.int .i64 0, .string (⟨#[]⟩ : ByteArray), .int .i64 0, .int .i64 0, .int .i64 0, .int .i64 0] fun gb249 w30 hg hbox hb => ?_; have BK249 := Aside0.mk hbox; have GE249 := gB HB hg; replace HB := uB HB hb; clear hb hbox hg; have hcz31_0 := ci BK249.out 0 0 rfl; have hcz31_1 : w30.cell? ⟨gb249, 1, none⟩ = some (.string (⟨#[]⟩ : ByteArray)) := cb BK249 1; have hcz31_2 := ci BK249.out 2 0 rfl; have hcz31_3 := ci BK249.out 3 0 rfl; have hcz31_4 := ci BK249.out 4 0 rfl; have hcz31_5 := ci BK249.out 5 0 rfl; have hfz31_0 := fun j_ : Nat => blk_frozen BK249.out j_) | ((with_reducible refine gC 72 ?_); refine lA (some 36) Tryd.func72 (impl_Permit_counts.calls ((rd_T26 l0 t244).f0) ((rd_T26 l0 t244).f1) ((rd_T26 l0 t244).f2) ((rd_T26 l0 t244).f3) ((rd_T26 l0 t244).f4) ((rd_T26 l0 t244).f5) true _ A15.out) ?_; intro w32 hb; replace BK249 := uQ BK249 hb #[.int .i64 ((rd_T26 l0 t244).f0), .string ((rd_T26 l0 t244).f1), .int .i64 ((rd_T26 l0 t244).f2), .int .i64 ((rd_T26 l0 t244).f3), .int .i64 ((rd_T26 l0 t244).f4), .int .i64 ((rd_T26 l0 t244).f5)]; replace HB := uB HB hb; (try clear hb); (try clear hk); have hcz33_0 := ci BK249.out 0 ((rd_T26 l0 t244).f0) rfl; have hcz33_1 : w32.cell? ⟨gb249, 1, none⟩ = some (.string ((rd_T26 l0 t244).f1)) := cb BK249 1; have hcz33_2 := ci BK249.out 2 ((rd_T26 l0 t244).f2) rfl; have hcz33_3 := ci BK249.out 3 ((rd_T26 l0 t244).f3) rfl; have hcz33_4 := ci BK249.out 4 ((rd_T26 l0 t244).f4) rfl; have hcz33_5 := ci BK249.out 5 ((rd_T26 l0 t244).f5) rfl; have hfz33_0 := fun j_ : Nat => blk_frozen BK249.out j_) | (go_at_call 57; (with_reducible refine (impl_within.calls a2 ((rd_T26 l0 t244).f2) ((rd_T26 l0 t244).f3) false _ A17.out).mono ?_); rintro e w' ⟨rfl, ⟨nd, rfl⟩⟩))
        go_ret2
        exact ⟨_, eB, by first | exact Kd.R_nil _ _ _ _ _ | exact Kd.N_nil _ _ _ _ _ | exact Kd.V_nil _ _ _ _ _ | exact Kd.Q_nil _ _ _ _ _ | exact Kd.S_nil _ _ _ _ _, (bW HB)⟩
      ·replace H := iF (by decide) H
       simp only [Option.some.injEq, Prod.mk.injEq] at H
       obtain ⟨rfl, rfl⟩ := H
       have p248 : 0 ≤ (t244 : Int) := of_decide_eq_true asmB
       have q248 : t244 < (l0.length : Int) := of_decide_eq_true asmB
       obtain ⟨ad248, e248, hx248_0, hx248_1, hx248_2, hx248_3, hx248_4, hx248_5⟩ := at_T26 HR0.out t244 p248 q248
       cases e248
       replace hx248_0 := bx HB.out hx248_0
       replace hx248_1 := bx HB.out hx248_1
       replace hx248_2 := bx HB.out hx248_2
       replace hx248_3 := bx HB.out hx248_3
       replace hx248_4 := bx HB.out hx248_4
       replace hx248_5 := bx HB.out hx248_5
       replace p248 := eq_true p248
       replace q248 := eq_true q248
       go_wp2_with (first | ((with_reducible refine gD 12 ?_); refine bxE 12 26 #[.int .i64 0, .string (⟨#[]⟩ : ByteArray), .int .i64 0, .int .i64 0, .int .i64 0, .int .i64 0] fun gb249 w34 hg hbox hb => ?_; have BK249 := Aside0.mk hbox; have GE249 := gB HB hg; replace HB := uB HB hb; clear hb hbox hg; have hcz35_0 := ci BK249.out 0 0 rfl; have hcz35_1 : w34.cell? ⟨gb249, 1, none⟩ = some (.string (⟨#[]⟩ : ByteArray)) := cb BK249 1; have hcz35_2 := ci BK249.out 2 0 rfl; have hcz35_3 := ci BK249.out 3 0 rfl; have hcz35_4 := ci BK249.out 4 0 rfl; have hcz35_5 := ci BK249.out 5 0 rfl; have hfz35_0 := fun j_ : Nat => blk_frozen BK249.out j_) | ((with_reducible refine gC 72 ?_); refine lA (some 36) Tryd.func72 (impl_Permit_counts.calls ((rd_T26 l0 t244).f0) ((rd_T26 l0 t244).f1) ((rd_T26 l0 t244).f2) ((rd_T26 l0 t244).f3) ((rd_T26 l0 t244).f4) ((rd_T26 l0 t244).f5) false _ A15.out) ?_; intro w36 hb; replace BK249 := uQ BK249 hb #[.int .i64 ((rd_T26 l0 t244).f0), .string ((rd_T26 l0 t244).f1), .int .i64 ((rd_T26 l0 t244).f2), .int .i64 ((rd_T26 l0 t244).f3), .int .i64 ((rd_T26 l0 t244).f4), .int .i64 ((rd_T26 l0 t244).f5)]; replace HB := uB HB hb; (try clear hb); (try clear hk)))
       go_ret2
       exact ⟨_, eB, by first | exact Kd.R_nil _ _ _ _ _ | exact Kd.N_nil _ _ _ _ _ | exact Kd.V_nil _ _ _ _ _ | exact Kd.Q_nil _ _ _ _ _ | exact Kd.S_nil _ _ _ _ _, (bW HB)⟩
     ·rw [if_neg c14] at H
      exact absurd H (by simp)
    ·rw [if_neg c13] at H
     exact absurd H (by simp)

/-! ### spec_DecidePermit: function 35 -/
def spec_DecidePermit.j0 : Nat → List (S26) → Bool → Int → Bool → Option ((List (S26)) × Bool)
 | 0, _, _, _, _ => none
 | k + 1, x0, x2, x8, x27 => if x27 = true then (some ((([] : List (S26))), false)) else ((spec_l22With.f x0 x8 2).bind fun t262 => (if x2 = true then ((spec_l22With.f x0 x8 1).bind fun t265 => ((spec_l22Good.f k t265).bind fun t268 => (if t268 = true then (some (t265, true)) else (some ((([] : List (S26))), false))))) else ((spec_l22Good.f k t262).bind fun t272 => (if t272 = true then (some (t262, true)) else (some ((([] : List (S26))), false))))))
def spec_DecidePermit.f (k : Nat) (l0 : List (S26)) (a1 : Int) (a2 : Bool) : Option ((List (S26)) × Bool) := (spec_l22Find.f k l0 a1).bind fun t256 => ((spec_l22Good.f k l0).bind fun t257 => (if t257 = true then (if t256 < 0 then (spec_DecidePermit.j0 k l0 a2 t256 true) else (if 0 ≤ t256 then (if t256 < (l0.length : Int) then (spec_DecidePermit.j0 k l0 a2 t256 (((rd_T26 l0 t256).f5) != 0)) else (none)) else (none))) else (spec_DecidePermit.j0 k l0 a2 t256 true)))
theorem spec_DecidePermit.mono_l : ∀ k, (∀ y0 y1 y2 y3, LeO (spec_DecidePermit.j0 k y0 y1 y2 y3) (spec_DecidePermit.j0 (k + 1) y0 y1 y2 y3))
 | 0 => fun _ _ _ _ r h => by simp [spec_DecidePermit.j0] at h
 | k + 1 => by
  have ih0 := spec_DecidePermit.mono_l k
  ·intro y0 y1 y2 y3
   unfold spec_DecidePermit.j0
   repeat' with_reducible first | apply ih0 | apply spec_l22Find.mono | apply spec_l22Good.mono | exact LeO.refl _ | exact LeO.none _ | refine LeO.ite ?_ ?_ | refine LeO.bind ?_ (fun _ => ?_)
theorem spec_DecidePermit.mono : ∀ a0 a1 a2 k, LeO (spec_DecidePermit.f k a0 a1 a2) (spec_DecidePermit.f (k + 1) a0 a1 a2) := by
 intro a0 a1 a2 k
 have ih0 := spec_DecidePermit.mono_l k
 unfold spec_DecidePermit.f
 repeat' with_reducible first | apply ih0 | apply spec_l22Find.mono | apply spec_l22Good.mono | exact LeO.refl _ | exact LeO.none _ | refine LeO.ite ?_ ?_ | refine LeO.bind ?_ (fun _ => ?_)
set_option maxHeartbeats 8000000 in
set_option maxRecDepth 100000 in
theorem spec_DecidePermit.calls (k : Nat) (A0 : Option Addr) (c0 : Nat) (l0 : List (S26)) (a1 : Int) (a2 : Bool) (r1 : List (S26)) (r2 : Bool) (w : World) (hr0 : Kd.C k26 w A0 l0.length l0) (hc0 : l0.length ≤ c0) (h : spec_DecidePermit.f k l0 a1 a2 = some (r1, r2)) :
  Calls Tryd.prog 35 #[.slice A0 l0.length c0, .int .i64 a1, .bool a2] w fun e w' => ∃ v0_ : Value, e = .returned (.tuple #[v0_, .bool r2]) ∧ Kd.R k26 26 w' w.heap.size (fun _ => True) v0_ r1 ∧ Below w.heap.size w w' := by
 have HR0 := Aside0.mk hr0
 have HC0 := Aside0.mk hc0
 clear hr0 hc0
 have HB := Aside0.mk (Below.refl w.heap.size w)
 have H := h
 clear h
 unfold spec_DecidePermit.f at H
 replace H := bA H
 obtain ⟨t256, A4, H⟩ := H
 have HC5 := Aside0.mk H
 clear H
 go_enter Tryd.func35, Tryd.ntmps35
 go_upto_region 2 with (first | ((with_reducible refine gC 73 ?_); refine lA (some 12) Tryd.func73 (spec_l22Find.calls k _ _ l0 a1 t256 _ ?side1 ?side2 A4.out) ?_; (case side1 => repeat (first | exact HR0.out | (with_reducible refine Kd.C_alloc ?_ _) | (with_reducible refine Kd.C_drewN ?_ _) | (with_reducible refine Kd.C_drew ?_))); (case side2 => exact HC0.out); rintro _ ⟨nd, rfl⟩))
 (try simp only [Act.put, List.setIfInBounds_toArray, List.set_cons_zero, List.set_cons_succ])
 go_cut [27] (fun v27 wc => ∃ (kq : Nat) (x27_4 : Bool), v27 = .bool x27_4 ∧ Aside0 (spec_DecidePermit.j0 kq l0 a2 t256 x27_4 = some (r1, r2)) ∧ Aside0 (kq ≤ k) ∧ Aside0 (Below w.heap.size w wc))
 case first =>
  have H := HC5.out
  clear HC5
  replace H := bA H
  obtain ⟨t257, A6, H⟩ := H
  rcases Bool.eq_false_or_eq_true t257 with rfl | rfl
  ·replace H := iT rfl H
   replace H := ifD H
   rcases H with ⟨H, -, c8b0⟩ | ⟨H, -, c8b0⟩
   ·(first | rw [c8b0] | (simp only [i64_w, i32_w]; rw [c8b0]) | skip)
    have H' := Aside0.mk H
    clear H
    go_wp2_with (first | ((with_reducible refine gC 58 ?_); refine lA (some 14) Tryd.func58 (spec_l22Good.calls k _ _ l0 true _ ?side1 ?side2 A6.out) ?_; (case side1 => repeat (first | exact (Kd.C_below HR0.out HB.out) | (with_reducible refine Kd.C_alloc ?_ _) | (with_reducible refine Kd.C_drewN ?_ _) | (with_reducible refine Kd.C_drew ?_))); (case side2 => exact HC0.out); intro w9 hb; replace HB := uB HB hb; (try clear hb); (try clear hk)))
    go_meet
    case rel => exact ⟨_, (true), rB, H', leB, (aB HB)⟩
   ·(first | rw [c8b0] | (simp only [i64_w, i32_w]; rw [c8b0]) | skip)
    by_cases c10 : 0 ≤ t256
    ·rw [if_pos c10] at H
     have c10b0 : decide (0 ≤ t256) = true := decide_eq_true c10
     clear c10
     by_cases c11 : t256 < (l0.length : Int)
     ·rw [if_pos c11] at H
      have c11b0 : decide (t256 < (l0.length : Int)) = true := decide_eq_true c11
      clear c11
      have H' := Aside0.mk H
      clear H
      go_wp2_with (first | ((with_reducible refine gC 58 ?_); refine lA (some 14) Tryd.func58 (spec_l22Good.calls k _ _ l0 true _ ?side1 ?side2 A6.out) ?_; (case side1 => repeat (first | exact (Kd.C_below HR0.out HB.out) | (with_reducible refine Kd.C_alloc ?_ _) | (with_reducible refine Kd.C_drewN ?_ _) | (with_reducible refine Kd.C_drew ?_))); (case side2 => exact HC0.out); intro w12 hb; replace HB := uB HB hb; (try clear hb); (try clear hk); have p258 : 0 ≤ (t256 : Int) := of_decide_eq_true asmB; have q258 : t256 < (l0.length : Int) := of_decide_eq_true asmB; obtain ⟨ad258, e258, hx258_0, hx258_1, hx258_2, hx258_3, hx258_4, hx258_5⟩ := at_T26 HR0.out t256 p258 q258; cases e258; replace hx258_0 := bx HB.out hx258_0; replace hx258_1 := bx HB.out hx258_1; replace hx258_2 := bx HB.out hx258_2; replace hx258_3 := bx HB.out hx258_3; replace hx258_4 := bx HB.out hx258_4; replace hx258_5 := bx HB.out hx258_5; replace p258 := eq_true p258; replace q258 := eq_true q258))
      go_meet
      case rel => exact ⟨_, ((((rd_T26 l0 t256).f5) != 0)), rB, H', leB, (aB HB)⟩
     ·rw [if_neg c11] at H
      exact absurd H (by simp)
    ·rw [if_neg c10] at H
     exact absurd H (by simp)
  ·replace H := iF (by decide) H
   have H' := Aside0.mk H
   clear H
   go_wp2_with (first | ((with_reducible refine gC 58 ?_); refine lA (some 14) Tryd.func58 (spec_l22Good.calls k _ _ l0 false _ ?side1 ?side2 A6.out) ?_; (case side1 => repeat (first | exact (Kd.C_below HR0.out HB.out) | (with_reducible refine Kd.C_alloc ?_ _) | (with_reducible refine Kd.C_drewN ?_ _) | (with_reducible refine Kd.C_drew ?_))); (case side2 => exact HC0.out); intro w13 hb; replace HB := uB HB hb; (try clear hb); (try clear hk)))
   go_meet
   case rel => exact ⟨_, (true), rB, H', leB, (aB HB)⟩
 case rest =>
  clear HC5
  obtain ⟨kq, x27_4, rfl, HA, HJ4, HB⟩ := hcut
  cases kq with
  | zero => exact absurd HA.out (by simp [spec_DecidePermit.j0])
  | succ kj4 =>
   have H := HA.out
   clear HA
   simp only [spec_DecidePermit.j0] at H
   rcases Bool.eq_false_or_eq_true x27_4 with rfl | rfl
   ·replace H := iT rfl H
    obtain ⟨y259, hy259⟩ : ∃ y_ : List (S26), y_ = (([] : List (S26))) := ⟨_, rfl⟩
    replace H : (some (y259, false)) = some (r1, r2) := by first | (rw [hy259]; with_reducible exact H) | (have H2_ := (Option.bind_some _ _).symm.trans H; rw [hy259]; with_reducible exact H2_) | (have H2_ := (Option.bind_some _ _).symm.trans H; with_reducible exact H2_) | with_reducible exact H | (rw [hy259]; exact H) | exact H
    have Ny259 := Aside0.mk hy259
    clear hy259
    simp only [Option.some.injEq, Prod.mk.injEq] at H
    obtain ⟨rfl, rfl⟩ := H
    go_wp2_with (first | ((with_reducible refine gate_dst (N := 28) rfl ?_); refine Kd.R_lit k26 _ 26 ?hg (N := 28) ?hd (xs := ([] : List (S26))) (inner := []) (ok := fun _ => True) (okp := fun _ => True) ?hr ?hp (fun _ hk => hk) trivial (Below.refl _ _) (Nat.le_refl _) (by simp) ?_; (case hd => rfl); (case hg => rfl); (case hr => first | (go_simp; done) | (go_simp; rfl)); (case hp => exact (Reps.none _ _)); intro v260 w15 ho16 hb hg_ hnew_; clear hg_ hnew_; (first | rw [← Ny259.out] at ho16 | (simp only [Int.reduceToNat] at ho16; rw [← Ny259.out] at ho16)); have HO261 := Aside0.mk (Kd.R_lower ho16 (below_size (bW HB))); replace HB := uB HB hb; clear hb ho16))
    go_ret2
    exact ⟨_, eB, upR HO261.out, (bW HB)⟩
   ·replace H := iF (by decide) H
    replace H := bA H
    obtain ⟨t262, A17, H⟩ := H
    rcases Bool.eq_false_or_eq_true a2 with rfl | rfl
    ·replace H := iT rfl H
     replace H := bA H
     obtain ⟨t265, A19, H⟩ := H
     replace H := bA H
     obtain ⟨t268, A20, H⟩ := H
     rcases Bool.eq_false_or_eq_true t268 with rfl | rfl
     ·replace H := iT rfl H
      simp only [Option.some.injEq, Prod.mk.injEq] at H
      obtain ⟨rfl, rfl⟩ := H
      go_wp2_with (first | ((with_reducible refine gate_callee (f := 71) rfl ?_); refine goesL_ (some 31) rfl rfl Tryd.func71 (by kernel_rfl) rfl #[.slice A0 l0.length c0, .int .i64 t256, .int .i64 2] rfl argsB ?_; (with_reducible refine (spec_l22With.calls _ _ l0 t256 2 t262 _ ?side1 ?side2 A17.out).mono ?_); (case side1 => repeat (first | exact (Kd.C_below HR0.out HB.out) | (with_reducible refine Kd.C_alloc ?_ _) | (with_reducible refine Kd.C_drewN ?_ _) | (with_reducible refine Kd.C_drew ?_))); (case side2 => exact HC0.out); rintro e w22 ⟨v263, rfl, ho0, hb⟩; refine ⟨_, rfl, ?_⟩; have HO264 := Aside0.mk (Kd.R_lower ho0 (below_size (bW HB))); replace HB := uB HB hb; (try clear hb); (try clear hk); (try clear ho0)) | ((with_reducible refine gate_callee (f := 71) rfl ?_); refine goesL_ (some 35) rfl rfl Tryd.func71 (by kernel_rfl) rfl #[.slice A0 l0.length c0, .int .i64 t256, .int .i64 1] rfl argsB ?_; (with_reducible refine (spec_l22With.calls _ _ l0 t256 1 t265 _ ?side1 ?side2 A19.out).mono ?_); (case side1 => repeat (first | exact (Kd.C_below HR0.out HB.out) | (with_reducible refine Kd.C_alloc ?_ _) | (with_reducible refine Kd.C_drewN ?_ _) | (with_reducible refine Kd.C_drew ?_))); (case side2 => exact HC0.out); rintro e w23 ⟨v266, rfl, ho0, hb⟩; refine ⟨_, rfl, ?_⟩; have HO267 := Aside0.mk (Kd.R_lower (Kd.R_new' ho0 (Kd.R_lt (upR HO264.out))) (below_size (bW HB))); replace HO264 := Aside0.mk (Kd.R_elder' (upR HO264.out) (Kd.R_base ho0) hb); replace HB := uB HB hb; (try clear hb); (try clear hk); (try clear ho0); obtain ⟨Ao24, co24, eo24⟩ := Kd.R_slice HO267.out; subst eo24) | ((with_reducible refine gC 58 ?_); refine lA (some 37) Tryd.func58 (spec_l22Good.calls kj4 _ _ t265 true _ ?side1 ?side2 A20.out) ?_; (case side1 => repeat (first | exact (Kd.R_reads' HO267.out).2.2 | (with_reducible refine Kd.C_alloc ?_ _) | (with_reducible refine Kd.C_drewN ?_ _) | (with_reducible refine Kd.C_drew ?_))); (case side2 => exact (Kd.R_reads' HO267.out).2.1); intro w25 hb; replace HO264 := uR HO264 hb; replace HO267 := uR HO267 hb; replace HB := uB HB hb; (try clear hb); (try clear hk)))
      go_ret2
      exact ⟨_, eB, by (with_reducible repeat (first | apply Kd.R_alloc | apply Kd.R_drewN | apply Kd.R_drew)); exact Kd.R_mono HO267.out (fun _ hk => trivial), (bW HB)⟩
     ·replace H := iF (by decide) H
      obtain ⟨y269, hy269⟩ : ∃ y_ : List (S26), y_ = (([] : List (S26))) := ⟨_, rfl⟩
      replace H : (some (y269, false)) = some (r1, r2) := by first | (rw [hy269]; with_reducible exact H) | (have H2_ := (Option.bind_some _ _).symm.trans H; rw [hy269]; with_reducible exact H2_) | (have H2_ := (Option.bind_some _ _).symm.trans H; with_reducible exact H2_) | with_reducible exact H | (rw [hy269]; exact H) | exact H
      have Ny269 := Aside0.mk hy269
      clear hy269
      simp only [Option.some.injEq, Prod.mk.injEq] at H
      obtain ⟨rfl, rfl⟩ := H
      go_wp2_with (first | ((with_reducible refine gate_callee (f := 71) rfl ?_); refine goesL_ (some 31) rfl rfl Tryd.func71 (by kernel_rfl) rfl #[.slice A0 l0.length c0, .int .i64 t256, .int .i64 2] rfl argsB ?_; (with_reducible refine (spec_l22With.calls _ _ l0 t256 2 t262 _ ?side1 ?side2 A17.out).mono ?_); (case side1 => repeat (first | exact (Kd.C_below HR0.out HB.out) | (with_reducible refine Kd.C_alloc ?_ _) | (with_reducible refine Kd.C_drewN ?_ _) | (with_reducible refine Kd.C_drew ?_))); (case side2 => exact HC0.out); rintro e w26 ⟨v263, rfl, ho0, hb⟩; refine ⟨_, rfl, ?_⟩; have HO264 := Aside0.mk (Kd.R_lower ho0 (below_size (bW HB))); replace HB := uB HB hb; (try clear hb); (try clear hk); (try clear ho0)) | ((with_reducible refine gate_callee (f := 71) rfl ?_); refine goesL_ (some 35) rfl rfl Tryd.func71 (by kernel_rfl) rfl #[.slice A0 l0.length c0, .int .i64 t256, .int .i64 1] rfl argsB ?_; (with_reducible refine (spec_l22With.calls _ _ l0 t256 1 t265 _ ?side1 ?side2 A19.out).mono ?_); (case side1 => repeat (first | exact (Kd.C_below HR0.out HB.out) | (with_reducible refine Kd.C_alloc ?_ _) | (with_reducible refine Kd.C_drewN ?_ _) | (with_reducible refine Kd.C_drew ?_))); (case side2 => exact HC0.out); rintro e w27 ⟨v266, rfl, ho0, hb⟩; refine ⟨_, rfl, ?_⟩; have HO267 := Aside0.mk (Kd.R_lower (Kd.R_new' ho0 (Kd.R_lt (upR HO264.out))) (below_size (bW HB))); replace HO264 := Aside0.mk (Kd.R_elder' (upR HO264.out) (Kd.R_base ho0) hb); replace HB := uB HB hb; (try clear hb); (try clear hk); (try clear ho0); obtain ⟨Ao28, co28, eo28⟩ := Kd.R_slice HO267.out; subst eo28) | ((with_reducible refine gC 58 ?_); refine lA (some 37) Tryd.func58 (spec_l22Good.calls kj4 _ _ t265 false _ ?side1 ?side2 A20.out) ?_; (case side1 => repeat (first | exact (Kd.R_reads' HO267.out).2.2 | (with_reducible refine Kd.C_alloc ?_ _) | (with_reducible refine Kd.C_drewN ?_ _) | (with_reducible refine Kd.C_drew ?_))); (case side2 => exact (Kd.R_reads' HO267.out).2.1); intro w29 hb; replace HO264 := uR HO264 hb; replace HO267 := uR HO267 hb; replace HB := uB HB hb; (try clear hb); (try clear hk)) | ((with_reducible refine gate_dst (N := 39) rfl ?_); refine Kd.R_lit k26 _ 26 ?hg (N := 39) ?hd (xs := ([] : List (S26))) (inner := []) (ok := fun _ => True) (okp := fun _ => True) ?hr ?hp (fun _ hk => hk) trivial (Below.refl _ _) (Nat.le_refl _) (by simp) ?_; (case hd => rfl); (case hg => rfl); (case hr => first | (go_simp; done) | (go_simp; rfl)); (case hp => exact (Reps.none _ _)); intro v270 w30 ho31 hb hg_ hnew_; clear hg_ hnew_; (first | rw [← Ny269.out] at ho31 | (simp only [Int.reduceToNat] at ho31; rw [← Ny269.out] at ho31)); have HO271 := Aside0.mk (Kd.R_lower (Kd.R_new' (Kd.R_new' ho31 (Kd.R_lt (upR HO264.out))) (Kd.R_lt (upR HO267.out))) (below_size (bW HB))); replace HO264 := Aside0.mk (Kd.R_elder' (upR HO264.out) (Kd.R_base ho31) hb); replace HO267 := Aside0.mk (Kd.R_elder' (upR HO267.out) (Kd.R_base ho31) hb); replace HB := uB HB hb; clear hb ho31))
      go_ret2
      exact ⟨_, eB, by (with_reducible repeat (first | apply Kd.R_alloc | apply Kd.R_drewN | apply Kd.R_drew)); exact Kd.R_mono HO271.out (fun _ hk => trivial), (bW HB)⟩
    ·replace H := iF (by decide) H
     replace H := bA H
     obtain ⟨t272, A32, H⟩ := H
     rcases Bool.eq_false_or_eq_true t272 with rfl | rfl
     ·replace H := iT rfl H
      simp only [Option.some.injEq, Prod.mk.injEq] at H
      obtain ⟨rfl, rfl⟩ := H
      go_wp2_with (first | ((with_reducible refine gate_callee (f := 71) rfl ?_); refine goesL_ (some 31) rfl rfl Tryd.func71 (by kernel_rfl) rfl #[.slice A0 l0.length c0, .int .i64 t256, .int .i64 2] rfl argsB ?_; (with_reducible refine (spec_l22With.calls _ _ l0 t256 2 t262 _ ?side1 ?side2 A17.out).mono ?_); (case side1 => repeat (first | exact (Kd.C_below HR0.out HB.out) | (with_reducible refine Kd.C_alloc ?_ _) | (with_reducible refine Kd.C_drewN ?_ _) | (with_reducible refine Kd.C_drew ?_))); (case side2 => exact HC0.out); rintro e w34 ⟨v263, rfl, ho0, hb⟩; refine ⟨_, rfl, ?_⟩; have HO264 := Aside0.mk (Kd.R_lower ho0 (below_size (bW HB))); replace HB := uB HB hb; (try clear hb); (try clear hk); (try clear ho0); obtain ⟨Ao35, co35, eo35⟩ := Kd.R_slice HO264.out; subst eo35) | ((with_reducible refine gC 58 ?_); refine lA (some 37) Tryd.func58 (spec_l22Good.calls kj4 _ _ t262 true _ ?side1 ?side2 A32.out) ?_; (case side1 => repeat (first | exact (Kd.R_reads' HO264.out).2.2 | (with_reducible refine Kd.C_alloc ?_ _) | (with_reducible refine Kd.C_drewN ?_ _) | (with_reducible refine Kd.C_drew ?_))); (case side2 => exact (Kd.R_reads' HO264.out).2.1); intro w36 hb; replace HO264 := uR HO264 hb; replace HB := uB HB hb; (try clear hb); (try clear hk)))
      go_ret2
      exact ⟨_, eB, upR HO264.out, (bW HB)⟩
     ·replace H := iF (by decide) H
      obtain ⟨y273, hy273⟩ : ∃ y_ : List (S26), y_ = (([] : List (S26))) := ⟨_, rfl⟩
      replace H : (some (y273, false)) = some (r1, r2) := by first | (rw [hy273]; with_reducible exact H) | (have H2_ := (Option.bind_some _ _).symm.trans H; rw [hy273]; with_reducible exact H2_) | (have H2_ := (Option.bind_some _ _).symm.trans H; with_reducible exact H2_) | with_reducible exact H | (rw [hy273]; exact H) | exact H
      have Ny273 := Aside0.mk hy273
      clear hy273
      simp only [Option.some.injEq, Prod.mk.injEq] at H
      obtain ⟨rfl, rfl⟩ := H
      go_wp2_with (first | ((with_reducible refine gate_callee (f := 71) rfl ?_); refine goesL_ (some 31) rfl rfl Tryd.func71 (by kernel_rfl) rfl #[.slice A0 l0.length c0, .int .i64 t256, .int .i64 2] rfl argsB ?_; (with_reducible refine (spec_l22With.calls _ _ l0 t256 2 t262 _ ?side1 ?side2 A17.out).mono ?_); (case side1 => repeat (first | exact (Kd.C_below HR0.out HB.out) | (with_reducible refine Kd.C_alloc ?_ _) | (with_reducible refine Kd.C_drewN ?_ _) | (with_reducible refine Kd.C_drew ?_))); (case side2 => exact HC0.out); rintro e w37 ⟨v263, rfl, ho0, hb⟩; refine ⟨_, rfl, ?_⟩; have HO264 := Aside0.mk (Kd.R_lower ho0 (below_size (bW HB))); replace HB := uB HB hb; (try clear hb); (try clear hk); (try clear ho0); obtain ⟨Ao38, co38, eo38⟩ := Kd.R_slice HO264.out; subst eo38) | ((with_reducible refine gC 58 ?_); refine lA (some 37) Tryd.func58 (spec_l22Good.calls kj4 _ _ t262 false _ ?side1 ?side2 A32.out) ?_; (case side1 => repeat (first | exact (Kd.R_reads' HO264.out).2.2 | (with_reducible refine Kd.C_alloc ?_ _) | (with_reducible refine Kd.C_drewN ?_ _) | (with_reducible refine Kd.C_drew ?_))); (case side2 => exact (Kd.R_reads' HO264.out).2.1); intro w39 hb; replace HO264 := uR HO264 hb; replace HB := uB HB hb; (try clear hb); (try clear hk)) | ((with_reducible refine gate_dst (N := 39) rfl ?_); refine Kd.R_lit k26 _ 26 ?hg (N := 39) ?hd (xs := ([] : List (S26))) (inner := []) (ok := fun _ => True) (okp := fun _ => True) ?hr ?hp (fun _ hk => hk) trivial (Below.refl _ _) (Nat.le_refl _) (by simp) ?_; (case hd => rfl); (case hg => rfl); (case hr => first | (go_simp; done) | (go_simp; rfl)); (case hp => exact (Reps.none _ _)); intro v274 w40 ho41 hb hg_ hnew_; clear hg_ hnew_; (first | rw [← Ny273.out] at ho41 | (simp only [Int.reduceToNat] at ho41; rw [← Ny273.out] at ho41)); have HO275 := Aside0.mk (Kd.R_lower (Kd.R_new' ho41 (Kd.R_lt (upR HO264.out))) (below_size (bW HB))); replace HO264 := Aside0.mk (Kd.R_elder' (upR HO264.out) (Kd.R_base ho41) hb); replace HB := uB HB hb; clear hb ho41))
      go_ret2
      exact ⟨_, eB, by (with_reducible repeat (first | apply Kd.R_alloc | apply Kd.R_drewN | apply Kd.R_drew)); exact Kd.R_mono HO275.out (fun _ hk => trivial), (bW HB)⟩

end Go.Proofs.YtgeioccfjgpijaaDoor.QFnPermits
