/- Contracts of Go functions that FnPermitDays reaches: the call computes what the plain function says. No condition. -/
import Derived.Test.YtgeioccfjgpijaaDoorQFnPermitDaysx0
import Derived.Test.YtgeioccfjgpijaaDoorQFnPermitDaysx2
import Derived.Test.YtgeioccfjgpijaaDoorQFnPermitDaysx3
namespace Go.Proofs.YtgeioccfjgpijaaDoor.QFnPermitDays
open Go.RowKit Go.Proofs.YtgeioccfjgpijaaDoorW.PrintWords Go.Proofs.YtgeioccfjgpijaaDoorW.PrintLast Go.Proofs.YtgeioccfjgpijaaDoorW.PrintMore
attribute [local go_sem] max2_int min2_int max_two min_two max_three min_three max_four min_four   -- for this text's walks alone
set_option linter.unusedVariables false
set_option linter.unusedSimpArgs false

/-! ### impl_xAllowed: function 141 -/
-- reaches: (impl.Permit).counts
-- reaches: impl.within
set_option maxHeartbeats 4000000 in
set_option maxRecDepth 100000 in
theorem IndexFunc_allowed (p : S26 → Bool) (V V2 : Value) (A0 : Option Addr) (c0 : Nat) (l0 : List (S26)) (w : World) (hr0 : Kd.C k26 w A0 l0.length l0) (hc0 : l0.length ≤ c0)
  (hp : ∀ (x : S26) (W : World), x ∈ l0 → Below w.heap.size w W → Calls Tryd.prog 93 #[.agg #[.int .i64 x.f0, .string x.f1, .int .i64 x.f2, .int .i64 x.f3, .int .i64 x.f4, .int .i64 x.f5], V, V2] W fun e W' => e = .returned (.bool (p x)) ∧ Below W.heap.size W W') :
  Calls Tryd.prog 92 #[.slice A0 l0.length c0, .func (.func 93) #[] #[V, V2]] w fun e w' => e = .returned (.int .i64 (idxP26 p l0 0)) ∧ Below w.heap.size w w' := by
 have hu := Tryd.underlying26
 have hm := hr0.2.1
 go_enter Tryd.func92, Tryd.ntmps92
 go_wp2
 go_loopw [8] (fun v wr => ∃ i : Nat, i ≤ l0.length ∧ v = .int .i64 i ∧ idxP26 p l0 0 = idxP26 p (l0.drop i) i ∧ Below w.heap.size w wr) (fun v _ => l0.length - (intOf v).toNat)
 case atStart => exact ⟨0, by omega, rfl, by simp, Below.refl _ _⟩
 case round =>
  obtain ⟨i, hi, rfl, he, hb⟩ := hrel
  by_cases hlt : i < l0.length
  ·obtain ⟨ad, rfl, h0, h1, h2, h3, h4, h5⟩ := at_T26 (Kd.C_below hr0 hb) (i : Int) (by omega) (by omega)
   have hx : rd_T26 l0 (i : Int) = l0.getD i z26 := by unfold rd_T26; rw [Int.toNat_natCast]
   have hmem := getD_mem' l0 i z26 hlt
   rw [hx] at h0 h1 h2 h3 h4 h5
   rw [getD_drop' l0 i z26 hlt] at he
   generalize l0.getD i z26 = x at h0 h1 h2 h3 h4 h5 he hx hmem
   clear hx
   rw [Int.toNat_natCast] at h0 h1 h2 h3 h4 h5
   cases hpx : p x with
   | true =>
    have hq := hp x wr hmem hb
    rw [hpx] at hq
    have he' := Aside0.mk he
    have hb' := Aside0.mk hb
    have hpx' := Aside0.mk hpx
    clear he hb hp hpx hmem
    go_wp2_with (go_at_call 93; refine hq.mono ?_; rintro e w1 ⟨rfl, hb1⟩)
    go_ret
    refine ⟨?_, hb'.out.trans (hb1.mono hb'.out.size)⟩
    rw [he'.out, idxP26, if_pos hpx'.out]
    rfl
   | false =>
    have hq := hp x wr hmem hb
    rw [hpx] at hq
    have he' := Aside0.mk he
    have hb' := Aside0.mk hb
    have hpx' := Aside0.mk hpx
    have hp' := Aside0.mk hp
    clear he hb hp hpx hmem
    go_wp2_with (go_at_call 93; refine hq.mono ?_; rintro e w1 ⟨rfl, hb1⟩)
    go_roundw
    case rel => exact ⟨i + 1, by omega, by go_num, by rw [he'.out, idxP26, hpx'.out]; rfl, hb'.out.trans (hb1.mono hb'.out.size)⟩
    case measure => simp [intOf]; omega
  ·have hd : l0.drop i = [] := List.drop_eq_nil_of_le (by omega)
   rw [hd] at he
   have he' := Aside0.mk he
   have hb' := Aside0.mk hb
   clear he hb hp hd
   go_wp2
   go_ret
   exact ⟨by rw [he'.out, idxP26]; rfl, hb'.out⟩

def onDay (a1 : ByteArray) (a2 : Int) (x : S26) : Bool := (x.f5 == 1 || x.f5 == 3) && (decide (x.f1.toList = a1.toList) && decide (x.f2 ≤ a2 ∧ a2 ≤ x.f3))
set_option maxRecDepth 100000 in
set_option maxHeartbeats 2000000 in
theorem allowedClosure (x : S26) (q : ByteArray) (n : Int) (b1 b2 : Nat) (W : World) (h1 : W.cell? ⟨b1, 0, none⟩ = some (.string q)) (h2 : W.cell? ⟨b2, 0, none⟩ = some (.int .i64 n)) :
  Calls Tryd.prog 93 #[.agg #[.int .i64 x.f0, .string x.f1, .int .i64 x.f2, .int .i64 x.f3, .int .i64 x.f4, .int .i64 x.f5], .pointer (some ⟨b1, 0, none⟩), .pointer (some ⟨b2, 0, none⟩)] W fun e W' => e = .returned (.bool (onDay q n x)) ∧ Below W.heap.size W W' := by
 have hu := Tryd.underlying26
 have hl1 := World.block_lt_of_cell? W _ h1
 have hl2 := World.block_lt_of_cell? W _ h2
 go_enter Tryd.func93, Tryd.ntmps93
 go_wp2
 all_goals go_ret
 all_goals refine ⟨?_, by first | exact (((Below.refl _ W).alloc (Nat.le_refl _) _).alloc (by simp) _) | exact ((Below.refl _ W).alloc (Nat.le_refl _) _)⟩
 all_goals first | (simp [onDay, *]; done) | (simp [onDay, *]; omega)
def impl_xAllowed.f (l0 : List (S26)) (a1 : ByteArray) (a2 : Int) : Option Int := some (idxP26 (onDay a1 a2) l0 0)
theorem impl_xAllowed.calls (A0 : Option Addr) (c0 : Nat) (l0 : List (S26)) (a1 : ByteArray) (a2 r : Int) (w : World) (hr0 : Kd.C k26 w A0 l0.length l0) (hc0 : l0.length ≤ c0) (h : impl_xAllowed.f l0 a1 a2 = some r) {b1 b2 : Nat} (hcell1 : w.cell? ⟨b1, 0, none⟩ = some (.string a1) := by first | assumption | simp) (hcell2 : w.cell? ⟨b2, 0, none⟩ = some (.int .i64 a2) := by first | assumption | simp) :
  Calls Tryd.prog 92 #[.slice A0 l0.length c0, .func (.func 93) #[] #[.pointer (some ⟨b1, 0, none⟩), .pointer (some ⟨b2, 0, none⟩)]] w fun e w' => e = .returned (.int .i64 r) ∧ Below w.heap.size w w' := by
 obtain rfl := Option.some.inj h
 have hl1 := World.block_lt_of_cell? w _ hcell1
 have hl2 := World.block_lt_of_cell? w _ hcell2
 exact IndexFunc_allowed (onDay a1 a2) (.pointer (some ⟨b1, 0, none⟩)) (.pointer (some ⟨b2, 0, none⟩)) A0 c0 l0 w hr0 hc0 (fun x W _ hB => allowedClosure x a1 a2 b1 b2 W ((hB.cell hl1).trans hcell1) ((hB.cell hl2).trans hcell2))

/-! ### impl_allowed: function 65 -/
def impl_allowed.f (l0 : List (S26)) (a1 : ByteArray) (a2 : Int) : Option (Int × ByteArray × Int × Int × Int × Int × Bool) := (impl_xAllowed.f l0 a1 a2).bind fun t141 => (if t141 < 0 then (some (0, (⟨#[]⟩ : ByteArray), 0, 0, 0, 0, false)) else (if 0 ≤ t141 then (if t141 < (l0.length : Int) then (some ((rd_T26 l0 t141).f0, (rd_T26 l0 t141).f1, (rd_T26 l0 t141).f2, (rd_T26 l0 t141).f3, (rd_T26 l0 t141).f4, (rd_T26 l0 t141).f5, true)) else (none)) else (none)))
set_option maxHeartbeats 8000000 in
set_option maxRecDepth 100000 in
theorem impl_allowed.calls (A0 : Option Addr) (c0 : Nat) (l0 : List (S26)) (a1 : ByteArray) (a2 : Int) (r1 : Int) (r2 : ByteArray) (r3 : Int) (r4 : Int) (r5 : Int) (r6 : Int) (r7 : Bool) (w : World) (hr0 : Kd.C k26 w A0 l0.length l0) (hc0 : l0.length ≤ c0) (h : impl_allowed.f l0 a1 a2 = some (r1, r2, r3, r4, r5, r6, r7)) :
    Calls Tryd.prog 65 #[.slice A0 l0.length c0, .string a1, .int .i64 a2] w fun e w' => e = .returned (.tuple #[.agg #[.int .i64 r1, .string r2, .int .i64 r3, .int .i64 r4, .int .i64 r5, .int .i64 r6], .bool r7]) ∧ Below w.heap.size w w' := by
  have hu26 := Tryd.underlying26
  have HR0 := Aside0.mk hr0
  have HC0 := Aside0.mk hc0
  clear hr0 hc0
  have HB := Aside0.mk (Below.refl w.heap.size w)
  have H : ((impl_xAllowed.f l0 a1 a2).bind fun t141 => (if t141 < 0 then (some (0, (⟨#[]⟩ : ByteArray), 0, 0, 0, 0, false)) else (if 0 ≤ t141 then (if t141 < (l0.length : Int) then (some ((rd_T26 l0 t141).f0, (rd_T26 l0 t141).f1, (rd_T26 l0 t141).f2, (rd_T26 l0 t141).f3, (rd_T26 l0 t141).f4, (rd_T26 l0 t141).f5, true)) else (none)) else (none)))) = some (r1, r2, r3, r4, r5, r6, r7) := h
  clear h
  replace H := Option.bind_eq_some_iff.mp H
  obtain ⟨t141, A40, H⟩ := H
  replace H : (if t141 < 0 then (some (0, (⟨#[]⟩ : ByteArray), 0, 0, 0, 0, false)) else (if 0 ≤ t141 then (if t141 < (l0.length : Int) then (some ((rd_T26 l0 t141).f0, (rd_T26 l0 t141).f1, (rd_T26 l0 t141).f2, (rd_T26 l0 t141).f3, (rd_T26 l0 t141).f4, (rd_T26 l0 t141).f5, true)) else (none)) else (none))) = some (r1, r2, r3, r4, r5, r6, r7) := H
  have A4 := Aside0.mk A40
  clear A40
  by_cases c5 : t141 < 0
  · rw [if_pos c5] at H
    have c5b0 : decide (t141 < 0) = true := decide_eq_true c5
    clear c5
    simp only [Option.some.injEq, Prod.mk.injEq] at H
    obtain ⟨rfl, rfl, rfl, rfl, rfl, rfl, rfl⟩ := H
    go_enter Tryd.func65, Tryd.ntmps65
    go_wp2_with (first | ((with_reducible refine gate_dst (N := 6) rfl ?_); refine box_event ?hg (N := 6) ?hd (cs := #[.int .i64 0, .string (⟨#[]⟩ : ByteArray), .int .i64 0, .int .i64 0, .int .i64 0, .int .i64 0]) (t := 26) ?hr ?_; (case hd => rfl); (case hg => rfl); (case hr => first | (go_simp; done) | (go_simp; rfl)); intro gb140 hg w6 hbox hb; have q1_ : w6.cell? ⟨w.heap.size, 0, none⟩ = some (.string a1) := (blk_cell (blk_below (blk_alloc (blk_new w (.cells #[.string a1] 9)) (.cells #[.int .i64 a2] 3)) hb) 0).trans rfl; have q2_ : w6.cell? ⟨w.heap.size + 1, 0, none⟩ = some (.int .i64 a2) := (blk_cell (blk_below (by have h2 := blk_new (w.alloc (.cells #[.string a1] 9)) (.cells #[.int .i64 a2] 3); rw [alloc_size] at h2; exact h2) hb) 0).trans rfl; have n0_ := Aside0.mk (below_step (upB HB.out) hb); have n1_ := Aside0.mk (hbox); have n2_ := Aside0.mk ((by rw [hg]; exact (below_size (upB HB.out)) : w.heap.size ≤ gb140)); have n3_ := Aside0.mk ((by rw [hg]; exact (below_size (upB HB.out)) : w.heap.size ≤ gb140)); clear HB; have HB := n0_; have BK140 := n1_; have GW140 := n2_; have GE140 := n3_; clear n0_ n1_ n2_ n3_; clear hb hbox hg) | ((with_reducible refine gate_callee (f := 92) rfl ?_); refine goesL_ (some 11) rfl rfl Tryd.func92 (by kernel_rfl) rfl #[.slice A0 l0.length c0, .func (.func 93) #[] #[.pointer (some ⟨w.heap.size, 0, none⟩), .pointer (some ⟨(w.heap.size + 1), 0, none⟩)]] rfl argsB ?_; (with_reducible refine (impl_xAllowed.calls _ _ l0 a1 a2 t141 _ ?side1 ?side2 A4.out).mono ?_); (case side1 => repeat (first | exact (Kd.C_below HR0.out HB.out) | (with_reducible refine Kd.C_alloc ?_ _) | (with_reducible refine Kd.C_drewN ?_ _) | (with_reducible refine Kd.C_drew ?_))); (case side2 => exact HC0.out); rintro e w7 ⟨rfl, hb⟩; refine ⟨_, rfl, ?_⟩; have n0_ := Aside0.mk (blk_below (g := gb140) (o := .cells #[.int .i64 0, .string (⟨#[]⟩ : ByteArray), .int .i64 0, .int .i64 0, .int .i64 0, .int .i64 0] 26 (0, 0)) (upK BK140.out) hb); have n1_ := Aside0.mk (below_step (upB1 HB.out GE140.out) hb); clear BK140; clear HB; have BK140 := n0_; have HB := n1_; clear n0_ n1_; (try clear hb); have hcz8_0 := ci BK140.out 0 0 rfl; have hcz8_1 : w7.cell? ⟨gb140, 1, none⟩ = some (.string (⟨#[]⟩ : ByteArray)) := (blk_cell BK140.out 1).trans rfl; have hcz8_2 := ci BK140.out 2 0 rfl; have hcz8_3 := ci BK140.out 3 0 rfl; have hcz8_4 := ci BK140.out 4 0 rfl; have hcz8_5 := ci BK140.out 5 0 rfl; have hfz8_0 := fun j_ : Nat => blk_frozen BK140.out j_))
    refine bodyPost_ret (results_ct rfl _ _ gb140 26 #[.int .i64 0, .string (⟨#[]⟩ : ByteArray), .int .i64 0, .int .i64 0, .int .i64 0, .int .i64 0] (0, 0) _ rfl (by (with_reducible repeat (first | refine blk_drewN ?_ _ | refine blk_drew ?_ | refine blk_alloc ?_ _)); refine blk_put (cs := #[.int .i64 0, .string (⟨#[]⟩ : ByteArray), .int .i64 0, .int .i64 0, .int .i64 0, .int .i64 0]) ?_ 5 _ rfl; (with_reducible repeat (first | refine blk_drewN ?_ _ | refine blk_drew ?_ | refine blk_alloc ?_ _)); refine blk_put (cs := #[.int .i64 0, .string (⟨#[]⟩ : ByteArray), .int .i64 0, .int .i64 0, .int .i64 0, .int .i64 0]) ?_ 4 _ rfl; (with_reducible repeat (first | refine blk_drewN ?_ _ | refine blk_drew ?_ | refine blk_alloc ?_ _)); refine blk_put (cs := #[.int .i64 0, .string (⟨#[]⟩ : ByteArray), .int .i64 0, .int .i64 0, .int .i64 0, .int .i64 0]) ?_ 3 _ rfl; (with_reducible repeat (first | refine blk_drewN ?_ _ | refine blk_drew ?_ | refine blk_alloc ?_ _)); refine blk_put (cs := #[.int .i64 0, .string (⟨#[]⟩ : ByteArray), .int .i64 0, .int .i64 0, .int .i64 0, .int .i64 0]) ?_ 2 _ rfl; (with_reducible repeat (first | refine blk_drewN ?_ _ | refine blk_drew ?_ | refine blk_alloc ?_ _)); refine blk_put (cs := #[.int .i64 0, .string (⟨#[]⟩ : ByteArray), .int .i64 0, .int .i64 0, .int .i64 0, .int .i64 0]) ?_ 1 _ rfl; (with_reducible repeat (first | refine blk_drewN ?_ _ | refine blk_drew ?_ | refine blk_alloc ?_ _)); refine blk_put (cs := #[.int .i64 0, .string (⟨#[]⟩ : ByteArray), .int .i64 0, .int .i64 0, .int .i64 0, .int .i64 0]) ?_ 0 _ rfl; (with_reducible repeat (first | refine blk_drewN ?_ _ | refine blk_drew ?_ | refine blk_alloc ?_ _)); exact BK140.out) Tryd.underlying26 rfl (by kernel_rfl)) rfl ?_
    exact ⟨by first | rfl | (simp [errW_none, errW_some] <;> rfl) | (simp [*, errW_none, errW_some] <;> rfl), (upB1 HB.out GE140.out)⟩
  · rw [if_neg c5] at H
    have c5b0 : decide (t141 < 0) = false := decide_eq_false c5
    clear c5
    by_cases c9 : 0 ≤ t141
    · rw [if_pos c9] at H
      have c9b0 : decide (0 ≤ t141) = true := decide_eq_true c9
      clear c9
      by_cases c10 : t141 < (l0.length : Int)
      · rw [if_pos c10] at H
        have c10b0 : decide (t141 < (l0.length : Int)) = true := decide_eq_true c10
        clear c10
        simp only [Option.some.injEq, Prod.mk.injEq] at H
        obtain ⟨rfl, rfl, rfl, rfl, rfl, rfl, rfl⟩ := H
        go_enter Tryd.func65, Tryd.ntmps65
        go_wp2_with (first | ((with_reducible refine gate_dst (N := 6) rfl ?_); refine box_event ?hg (N := 6) ?hd (cs := #[.int .i64 0, .string (⟨#[]⟩ : ByteArray), .int .i64 0, .int .i64 0, .int .i64 0, .int .i64 0]) (t := 26) ?hr ?_; (case hd => rfl); (case hg => rfl); (case hr => first | (go_simp; done) | (go_simp; rfl)); intro gb140 hg w11 hbox hb; have q1_ : w11.cell? ⟨w.heap.size, 0, none⟩ = some (.string a1) := (blk_cell (blk_below (blk_alloc (blk_new w (.cells #[.string a1] 9)) (.cells #[.int .i64 a2] 3)) hb) 0).trans rfl; have q2_ : w11.cell? ⟨w.heap.size + 1, 0, none⟩ = some (.int .i64 a2) := (blk_cell (blk_below (by have h2 := blk_new (w.alloc (.cells #[.string a1] 9)) (.cells #[.int .i64 a2] 3); rw [alloc_size] at h2; exact h2) hb) 0).trans rfl; have n0_ := Aside0.mk (below_step (upB HB.out) hb); have n1_ := Aside0.mk (hbox); have n2_ := Aside0.mk ((by rw [hg]; exact (below_size (upB HB.out)) : w.heap.size ≤ gb140)); have n3_ := Aside0.mk ((by rw [hg]; exact (below_size (upB HB.out)) : w.heap.size ≤ gb140)); clear HB; have HB := n0_; have BK140 := n1_; have GW140 := n2_; have GE140 := n3_; clear n0_ n1_ n2_ n3_; clear hb hbox hg) | ((with_reducible refine gate_callee (f := 92) rfl ?_); refine goesL_ (some 11) rfl rfl Tryd.func92 (by kernel_rfl) rfl #[.slice A0 l0.length c0, .func (.func 93) #[] #[.pointer (some ⟨w.heap.size, 0, none⟩), .pointer (some ⟨(w.heap.size + 1), 0, none⟩)]] rfl argsB ?_; (with_reducible refine (impl_xAllowed.calls _ _ l0 a1 a2 t141 _ ?side1 ?side2 A4.out).mono ?_); (case side1 => repeat (first | exact (Kd.C_below HR0.out HB.out) | (with_reducible refine Kd.C_alloc ?_ _) | (with_reducible refine Kd.C_drewN ?_ _) | (with_reducible refine Kd.C_drew ?_))); (case side2 => exact HC0.out); rintro e w12 ⟨rfl, hb⟩; refine ⟨_, rfl, ?_⟩; have n0_ := Aside0.mk (blk_below (g := gb140) (o := .cells #[.int .i64 0, .string (⟨#[]⟩ : ByteArray), .int .i64 0, .int .i64 0, .int .i64 0, .int .i64 0] 26 (0, 0)) (upK BK140.out) hb); have n1_ := Aside0.mk (below_step (upB1 HB.out GE140.out) hb); clear BK140; clear HB; have BK140 := n0_; have HB := n1_; clear n0_ n1_; (try clear hb); have p142 : 0 ≤ (t141 : Int) := of_decide_eq_true asmB; have q142 : t141 < (l0.length : Int) := of_decide_eq_true asmB; obtain ⟨ad142, e142, hx142_0, hx142_1, hx142_2, hx142_3, hx142_4, hx142_5⟩ := at_T26 HR0.out t141 p142 q142; cases e142; replace hx142_0 := bx HB.out hx142_0; replace hx142_1 := bx HB.out hx142_1; replace hx142_2 := bx HB.out hx142_2; replace hx142_3 := bx HB.out hx142_3; replace hx142_4 := bx HB.out hx142_4; replace hx142_5 := bx HB.out hx142_5; replace p142 := eq_true p142; replace q142 := eq_true q142; have hcz13_0 := ci BK140.out 0 0 rfl; have hcz13_1 : w12.cell? ⟨gb140, 1, none⟩ = some (.string (⟨#[]⟩ : ByteArray)) := (blk_cell BK140.out 1).trans rfl; have hcz13_2 := ci BK140.out 2 0 rfl; have hcz13_3 := ci BK140.out 3 0 rfl; have hcz13_4 := ci BK140.out 4 0 rfl; have hcz13_5 := ci BK140.out 5 0 rfl; have hfz13_0 := fun j_ : Nat => blk_frozen BK140.out j_))
        refine bodyPost_ret (results_ct rfl _ _ gb140 26 #[.int .i64 ((rd_T26 l0 t141).f0), .string ((rd_T26 l0 t141).f1), .int .i64 ((rd_T26 l0 t141).f2), .int .i64 ((rd_T26 l0 t141).f3), .int .i64 ((rd_T26 l0 t141).f4), .int .i64 ((rd_T26 l0 t141).f5)] (0, 0) _ rfl (by (with_reducible repeat (first | refine blk_drewN ?_ _ | refine blk_drew ?_ | refine blk_alloc ?_ _)); refine blk_put (cs := #[.int .i64 ((rd_T26 l0 t141).f0), .string ((rd_T26 l0 t141).f1), .int .i64 ((rd_T26 l0 t141).f2), .int .i64 ((rd_T26 l0 t141).f3), .int .i64 ((rd_T26 l0 t141).f4), .int .i64 0]) ?_ 5 _ rfl; (with_reducible repeat (first | refine blk_drewN ?_ _ | refine blk_drew ?_ | refine blk_alloc ?_ _)); refine blk_put (cs := #[.int .i64 ((rd_T26 l0 t141).f0), .string ((rd_T26 l0 t141).f1), .int .i64 ((rd_T26 l0 t141).f2), .int .i64 ((rd_T26 l0 t141).f3), .int .i64 0, .int .i64 0]) ?_ 4 _ rfl; (with_reducible repeat (first | refine blk_drewN ?_ _ | refine blk_drew ?_ | refine blk_alloc ?_ _)); refine blk_put (cs := #[.int .i64 ((rd_T26 l0 t141).f0), .string ((rd_T26 l0 t141).f1), .int .i64 ((rd_T26 l0 t141).f2), .int .i64 0, .int .i64 0, .int .i64 0]) ?_ 3 _ rfl; (with_reducible repeat (first | refine blk_drewN ?_ _ | refine blk_drew ?_ | refine blk_alloc ?_ _)); refine blk_put (cs := #[.int .i64 ((rd_T26 l0 t141).f0), .string ((rd_T26 l0 t141).f1), .int .i64 0, .int .i64 0, .int .i64 0, .int .i64 0]) ?_ 2 _ rfl; (with_reducible repeat (first | refine blk_drewN ?_ _ | refine blk_drew ?_ | refine blk_alloc ?_ _)); refine blk_put (cs := #[.int .i64 ((rd_T26 l0 t141).f0), .string (⟨#[]⟩ : ByteArray), .int .i64 0, .int .i64 0, .int .i64 0, .int .i64 0]) ?_ 1 _ rfl; (with_reducible repeat (first | refine blk_drewN ?_ _ | refine blk_drew ?_ | refine blk_alloc ?_ _)); refine blk_put (cs := #[.int .i64 0, .string (⟨#[]⟩ : ByteArray), .int .i64 0, .int .i64 0, .int .i64 0, .int .i64 0]) ?_ 0 _ rfl; (with_reducible repeat (first | refine blk_drewN ?_ _ | refine blk_drew ?_ | refine blk_alloc ?_ _)); exact BK140.out) Tryd.underlying26 rfl (by kernel_rfl)) rfl ?_
        exact ⟨by first | rfl | (simp [errW_none, errW_some] <;> rfl) | (simp [*, errW_none, errW_some] <;> rfl), (upB1 HB.out GE140.out)⟩
      · rw [if_neg c10] at H
        exact absurd H (by simp)
    · rw [if_neg c9] at H
      exact absurd H (by simp)

/-! ### impl_AllowedOn: function 24 -/
def impl_AllowedOn.f (k : Nat) (l0 : List (S26)) (a1 : ByteArray) (a2 : Int) : Option (Int × Bool) := (impl_ArePermits.f k l0).bind fun t143 => (if t143 = true then ((impl_isWord.f a1).bind fun t144 => (if t144 = true then ((impl_isDay.f a2).bind fun t145 => (if t145 = true then ((impl_allowed.f l0 a1 a2).bind fun bt146 => (some (bt146.1, bt146.2.2.2.2.2.2))) else (some (0, false)))) else (some (0, false)))) else (some (0, false)))
theorem impl_AllowedOn.mono : ∀ a0 a1 a2 k, LeO (impl_AllowedOn.f k a0 a1 a2) (impl_AllowedOn.f (k + 1) a0 a1 a2) := by
 intro a0 a1 a2 k
 unfold impl_AllowedOn.f
 repeat' with_reducible first | apply impl_ArePermits.mono | exact LeO.refl _ | exact LeO.none _ | refine LeO.ite ?_ ?_ | refine LeO.bind ?_ (fun _ => ?_)
set_option maxHeartbeats 8000000 in
set_option maxRecDepth 100000 in
theorem impl_AllowedOn.calls (k : Nat) (A0 : Option Addr) (c0 : Nat) (l0 : List (S26)) (a1 : ByteArray) (a2 r1 : Int) (r2 : Bool) (w : World) (hr0 : Kd.C k26 w A0 l0.length l0) (hc0 : l0.length ≤ c0) (h : impl_AllowedOn.f k l0 a1 a2 = some (r1, r2)) :
  Calls Tryd.prog 24 #[.slice A0 l0.length c0, .string a1, .int .i64 a2] w fun e w' => e = .returned (.tuple #[.int .i64 r1, .bool r2]) ∧ Below w.heap.size w w' := by
 have hu26 := Tryd.underlying26
 have HR0 := Aside0.mk hr0
 have HC0 := Aside0.mk hc0
 clear hr0 hc0
 have HB := Aside0.mk (Below.refl w.heap.size w)
 have H := h
 clear h
 unfold impl_AllowedOn.f at H
 replace H := bA H
 obtain ⟨t143, A4, H⟩ := H
 rcases Bool.eq_false_or_eq_true t143 with rfl | rfl
 ·replace H := iT rfl H
  replace H := bA H
  obtain ⟨t144, A6, H⟩ := H
  rcases Bool.eq_false_or_eq_true t144 with rfl | rfl
  ·replace H := iT rfl H
   replace H := bA H
   obtain ⟨t145, A8, H⟩ := H
   rcases Bool.eq_false_or_eq_true t145 with rfl | rfl
   ·replace H := iT rfl H
    replace H := Option.bind_eq_some_iff.mp H
    obtain ⟨⟨t146, t147, t148, t149, t150, t151, t152⟩, A100, H⟩ := H
    replace H : (some (t146, t152)) = some (r1, r2) := H
    have A10 := Aside0.mk A100
    clear A100
    simp only [Option.some.injEq, Prod.mk.injEq] at H
    obtain ⟨rfl, rfl⟩ := H
    go_enter Tryd.func24, Tryd.ntmps24
    go_wp2_with (first | ((with_reducible refine gC 21 ?_); refine lA (some 11) Tryd.func21 (impl_ArePermits.calls k _ _ l0 true _ ?side1 ?side2 A4.out) ?_; (case side1 => repeat (first | exact HR0.out | (with_reducible refine Kd.C_alloc ?_ _) | (with_reducible refine Kd.C_drewN ?_ _) | (with_reducible refine Kd.C_drew ?_))); (case side2 => exact HC0.out); intro w11 hb; replace HB := uB HB hb; (try clear hb)) | (go_at_call 55; (with_reducible refine (impl_isWord.calls a1 true _ A6.out).mono ?_); rintro e w12 ⟨rfl, hb⟩; replace HB := uB HB hb; (try clear hb)) | (go_at_call 56; (with_reducible refine (impl_isDay.calls a2 true _ A8.out).mono ?_); rintro e w' ⟨rfl, ⟨nd, rfl⟩⟩; (try (rw [drewN_self w12]; generalize hq_ : World.drewN w12 _ = w12; have n0_ : Aside0 (Below w.heap.size w w12) := ⟨by rw [← hq_]; exact (bW HB)⟩; clear HB hq_; have HB := n0_; clear n0_))) | ((with_reducible refine gC 65 ?_); refine lA (some 27) Tryd.func65 (impl_allowed.calls _ _ l0 a1 a2 t146 t147 t148 t149 t150 t151 t152 _ ?side1 ?side2 A10.out) ?_; (case side1 => repeat (first | exact (Kd.C_below HR0.out HB.out) | (with_reducible refine Kd.C_alloc ?_ _) | (with_reducible refine Kd.C_drewN ?_ _) | (with_reducible refine Kd.C_drew ?_))); (case side2 => exact HC0.out); intro w13 hb; replace HB := uB HB hb; (try clear hb)) | ((with_reducible refine gD 8 ?_); refine bxE 8 26 #[.int .i64 0, .string (⟨#[]⟩ : ByteArray), .int .i64 0, .int .i64 0, .int .i64 0, .int .i64 0] fun gb153 w14 hg hbox hb => ?_; have BK153 := Aside0.mk hbox; have GE153 := gB HB hg; replace HB := uB HB hb; clear hb hbox hg; have hcz15_0 := ci BK153.out 0 0 rfl; have hcz15_1 : w14.cell? ⟨gb153, 1, none⟩ = some (.string (⟨#[]⟩ : ByteArray)) := cb BK153 1; have hcz15_2 := ci BK153.out 2 0 rfl; have hcz15_3 := ci BK153.out 3 0 rfl; have hcz15_4 := ci BK153.out 4 0 rfl; have hcz15_5 := ci BK153.out 5 0 rfl; have hfz15_0 := fun j_ : Nat => blk_frozen BK153.out j_))
    go_ret2
    exact ⟨eB, (bW HB)⟩
   ·replace H := iF (by decide) H
    simp only [Option.some.injEq, Prod.mk.injEq] at H
    obtain ⟨rfl, rfl⟩ := H
    go_enter Tryd.func24, Tryd.ntmps24
    go_wp2_with (first | ((with_reducible refine gC 21 ?_); refine lA (some 11) Tryd.func21 (impl_ArePermits.calls k _ _ l0 true _ ?side1 ?side2 A4.out) ?_; (case side1 => repeat (first | exact HR0.out | (with_reducible refine Kd.C_alloc ?_ _) | (with_reducible refine Kd.C_drewN ?_ _) | (with_reducible refine Kd.C_drew ?_))); (case side2 => exact HC0.out); intro w16 hb; replace HB := uB HB hb; (try clear hb)) | (go_at_call 55; (with_reducible refine (impl_isWord.calls a1 true _ A6.out).mono ?_); rintro e w17 ⟨rfl, hb⟩; replace HB := uB HB hb; (try clear hb)) | (go_at_call 56; (with_reducible refine (impl_isDay.calls a2 false _ A8.out).mono ?_); rintro e w' ⟨rfl, ⟨nd, rfl⟩⟩))
    go_ret2
    exact ⟨eB, (bW HB)⟩
  ·replace H := iF (by decide) H
   simp only [Option.some.injEq, Prod.mk.injEq] at H
   obtain ⟨rfl, rfl⟩ := H
   go_enter Tryd.func24, Tryd.ntmps24
   go_wp2_with (first | ((with_reducible refine gC 21 ?_); refine lA (some 11) Tryd.func21 (impl_ArePermits.calls k _ _ l0 true _ ?side1 ?side2 A4.out) ?_; (case side1 => repeat (first | exact HR0.out | (with_reducible refine Kd.C_alloc ?_ _) | (with_reducible refine Kd.C_drewN ?_ _) | (with_reducible refine Kd.C_drew ?_))); (case side2 => exact HC0.out); intro w18 hb; replace HB := uB HB hb; (try clear hb)) | (go_at_call 55; (with_reducible refine (impl_isWord.calls a1 false _ A6.out).mono ?_); rintro e w19 ⟨rfl, hb⟩; replace HB := uB HB hb; (try clear hb)))
   go_ret2
   exact ⟨eB, (bW HB)⟩
 ·replace H := iF (by decide) H
  simp only [Option.some.injEq, Prod.mk.injEq] at H
  obtain ⟨rfl, rfl⟩ := H
  go_enter Tryd.func24, Tryd.ntmps24
  go_wp2_with (first | ((with_reducible refine gC 21 ?_); refine lA (some 11) Tryd.func21 (impl_ArePermits.calls k _ _ l0 false _ ?side1 ?side2 A4.out) ?_; (case side1 => repeat (first | exact HR0.out | (with_reducible refine Kd.C_alloc ?_ _) | (with_reducible refine Kd.C_drewN ?_ _) | (with_reducible refine Kd.C_drew ?_))); (case side2 => exact HC0.out); intro w20 hb; replace HB := uB HB hb; (try clear hb)))
  go_ret2
  exact ⟨eB, (bW HB)⟩

/-! ### spec_l22Holds: function 70 -/
def spec_l22Holds.f (a0_0 : Int) (a0_1 : ByteArray) (a0_2 a0_3 a0_4 a0_5 : Int) : Option (Bool) := if a0_5 = 1 then (some true) else (some (a0_5 == 3))
set_option maxHeartbeats 8000000 in
set_option maxRecDepth 100000 in
theorem spec_l22Holds.calls (a0_0 : Int) (a0_1 : ByteArray) (a0_2 a0_3 a0_4 a0_5 : Int) (r : Bool) (w : World) (h : spec_l22Holds.f a0_0 a0_1 a0_2 a0_3 a0_4 a0_5 = some r) :
  Calls Tryd.prog 70 #[.agg #[.int .i64 a0_0, .string a0_1, .int .i64 a0_2, .int .i64 a0_3, .int .i64 a0_4, .int .i64 a0_5]] w fun e w' => e = .returned (.bool r) ∧ Below w.heap.size w w' := by
 have hu26 := Tryd.underlying26
 have HB := Aside0.mk (Below.refl w.heap.size w)
 have H := h
 clear h
 unfold spec_l22Holds.f at H
 replace H := ifI H
 rcases H with ⟨H, -, c2b0, c2b1⟩ | ⟨H, c2, c2b0, c2b1⟩
 ·obtain rfl := Option.some.inj H
  go_enter Tryd.func70, Tryd.ntmps70
  go_wp2_with (first | ((with_reducible refine gD 1 ?_); refine bxE 1 26 #[.int .i64 a0_0, .string a0_1, .int .i64 a0_2, .int .i64 a0_3, .int .i64 a0_4, .int .i64 a0_5] fun gb154 w3 hg hbox hb => ?_; have BK154 := Aside0.mk hbox; have GE154 := gB HB hg; replace HB := uB HB hb; clear hb hbox hg; have hcz4_0 := ci BK154.out 0 a0_0 rfl; have hcz4_1 : w3.cell? ⟨gb154, 1, none⟩ = some (.string a0_1) := cb BK154 1; have hcz4_2 := ci BK154.out 2 a0_2 rfl; have hcz4_3 := ci BK154.out 3 a0_3 rfl; have hcz4_4 := ci BK154.out 4 a0_4 rfl; have hcz4_5 := ci BK154.out 5 a0_5 rfl; have hfz4_0 := fun j_ : Nat => blk_frozen BK154.out j_))
  go_ret
  exact ⟨eB, (bW HB)⟩
 ·obtain rfl := Option.some.inj H
  go_enter Tryd.func70, Tryd.ntmps70
  go_wp2_with (first | ((with_reducible refine gD 1 ?_); refine bxE 1 26 #[.int .i64 a0_0, .string a0_1, .int .i64 a0_2, .int .i64 a0_3, .int .i64 a0_4, .int .i64 a0_5] fun gb154 w5 hg hbox hb => ?_; have BK154 := Aside0.mk hbox; have GE154 := gB HB hg; replace HB := uB HB hb; clear hb hbox hg; have hcz6_0 := ci BK154.out 0 a0_0 rfl; have hcz6_1 : w5.cell? ⟨gb154, 1, none⟩ = some (.string a0_1) := cb BK154 1; have hcz6_2 := ci BK154.out 2 a0_2 rfl; have hcz6_3 := ci BK154.out 3 a0_3 rfl; have hcz6_4 := ci BK154.out 4 a0_4 rfl; have hcz6_5 := ci BK154.out 5 a0_5 rfl; have hfz6_0 := fun j_ : Nat => blk_frozen BK154.out j_))
  go_ret
  exact ⟨eB, (bW HB)⟩

/-! ### spec_l22Conflict: function 91 -/
def spec_l22Conflict.f (a0_0 : Int) (a0_1 : ByteArray) (a0_2 a0_3 a0_4 a0_5 a1_0 : Int) (a1_1 : ByteArray) (a1_2 a1_3 a1_4 a1_5 : Int) : Option (Bool) := if a0_1.toList = a1_1.toList then (if a0_2 ≤ a1_3 then (if a1_2 ≤ a0_3 then ((spec_l22Holds.f a0_0 a0_1 a0_2 a0_3 a0_4 a0_5).bind fun t157 => (if t157 = true then ((spec_l22Holds.f a1_0 a1_1 a1_2 a1_3 a1_4 a1_5).bind fun t158 => (some t158)) else (some false))) else (some false)) else (some false)) else (some false)
set_option maxHeartbeats 8000000 in
set_option maxRecDepth 100000 in
theorem spec_l22Conflict.calls (a0_0 : Int) (a0_1 : ByteArray) (a0_2 a0_3 a0_4 a0_5 a1_0 : Int) (a1_1 : ByteArray) (a1_2 a1_3 a1_4 a1_5 : Int) (r : Bool) (w : World) (h : spec_l22Conflict.f a0_0 a0_1 a0_2 a0_3 a0_4 a0_5 a1_0 a1_1 a1_2 a1_3 a1_4 a1_5 = some r) :
  Calls Tryd.prog 91 #[.agg #[.int .i64 a0_0, .string a0_1, .int .i64 a0_2, .int .i64 a0_3, .int .i64 a0_4, .int .i64 a0_5], .agg #[.int .i64 a1_0, .string a1_1, .int .i64 a1_2, .int .i64 a1_3, .int .i64 a1_4, .int .i64 a1_5]] w fun e w' => e = .returned (.bool r) ∧ Below w.heap.size w w' := by
 have hu26 := Tryd.underlying26
 have HB := Aside0.mk (Below.refl w.heap.size w)
 have H := h
 clear h
 unfold spec_l22Conflict.f at H
 replace H := ifI H
 rcases H with ⟨H, -, c3b0, c3b1⟩ | ⟨H, c3, c3b0, c3b1⟩
 ·replace H := ifD H
  rcases H with ⟨H, -, c4b0⟩ | ⟨H, -, c4b0⟩
  ·replace H := ifD H
   rcases H with ⟨H, -, c5b0⟩ | ⟨H, -, c5b0⟩
   ·replace H := bA H
    obtain ⟨t157, A6, H⟩ := H
    rcases Bool.eq_false_or_eq_true t157 with rfl | rfl
    ·replace H := iT rfl H
     replace H := bA H
     obtain ⟨t158, A8, H⟩ := H
     obtain rfl := Option.some.inj H
     go_enter Tryd.func91, Tryd.ntmps91
     go_wp2_with (first | ((with_reducible refine gD 2 ?_); refine bxE 2 26 #[.int .i64 a0_0, .string a0_1, .int .i64 a0_2, .int .i64 a0_3, .int .i64 a0_4, .int .i64 a0_5] fun gb155 w9 hg hbox hb => ?_; have BK155 := Aside0.mk hbox; have GE155 := gB HB hg; replace HB := uB HB hb; clear hb hbox hg) | ((with_reducible refine gD 3 ?_); refine bxE 3 26 #[.int .i64 a1_0, .string a1_1, .int .i64 a1_2, .int .i64 a1_3, .int .i64 a1_4, .int .i64 a1_5] fun gb156 w10 hg hbox hb => ?_; have BK156 := Aside0.mk hbox; have GE156 := gB HB hg; have ⟨NB155_156, NB156_155⟩ := nB BK155 hg; replace BK155 := uK BK155 hb; replace HB := uB HB hb; clear hb hbox hg; have hnb11 := NB155_156.out; have hnc11 := NB156_155.out; have hcz12_0 := ci BK155.out 0 a0_0 rfl; have hcz12_1 : w10.cell? ⟨gb155, 1, none⟩ = some (.string a0_1) := cb BK155 1; have hcz12_2 := ci BK155.out 2 a0_2 rfl; have hcz12_3 := ci BK155.out 3 a0_3 rfl; have hcz12_4 := ci BK155.out 4 a0_4 rfl; have hcz12_5 := ci BK155.out 5 a0_5 rfl; have hfz12_0 := fun j_ : Nat => blk_frozen BK155.out j_; have hcz13_0 := ci BK156.out 0 a1_0 rfl; have hcz13_1 : w10.cell? ⟨gb156, 1, none⟩ = some (.string a1_1) := cb BK156 1; have hcz13_2 := ci BK156.out 2 a1_2 rfl; have hcz13_3 := ci BK156.out 3 a1_3 rfl; have hcz13_4 := ci BK156.out 4 a1_4 rfl; have hcz13_5 := ci BK156.out 5 a1_5 rfl; have hfz13_0 := fun j_ : Nat => blk_frozen BK156.out j_) | (go_at_call 70; (with_reducible refine (spec_l22Holds.calls a0_0 a0_1 a0_2 a0_3 a0_4 a0_5 true _ A6.out).mono ?_); rintro e w14 ⟨rfl, hb⟩; replace BK155 := uK BK155 hb; replace BK156 := uK BK156 hb; replace HB := uB HB hb; (try clear hb); have hcz15_0 := ci BK156.out 0 a1_0 rfl; have hcz15_1 : w14.cell? ⟨gb156, 1, none⟩ = some (.string a1_1) := cb BK156 1; have hcz15_2 := ci BK156.out 2 a1_2 rfl; have hcz15_3 := ci BK156.out 3 a1_3 rfl; have hcz15_4 := ci BK156.out 4 a1_4 rfl; have hcz15_5 := ci BK156.out 5 a1_5 rfl; have hfz15_0 := fun j_ : Nat => blk_frozen BK156.out j_) | (go_at_call 70; (with_reducible refine (spec_l22Holds.calls a1_0 a1_1 a1_2 a1_3 a1_4 a1_5 t158 _ A8.out).mono ?_); rintro e w16 ⟨rfl, hb⟩; replace BK155 := uK BK155 hb; replace BK156 := uK BK156 hb; replace HB := uB HB hb; (try clear hb)))
     go_ret
     exact ⟨eB, (bW HB)⟩
    ·replace H := iF (by decide) H
     obtain rfl := Option.some.inj H
     go_enter Tryd.func91, Tryd.ntmps91
     go_wp2_with (first | ((with_reducible refine gD 2 ?_); refine bxE 2 26 #[.int .i64 a0_0, .string a0_1, .int .i64 a0_2, .int .i64 a0_3, .int .i64 a0_4, .int .i64 a0_5] fun gb155 w17 hg hbox hb => ?_; have BK155 := Aside0.mk hbox; have GE155 := gB HB hg; replace HB := uB HB hb; clear hb hbox hg) | ((with_reducible refine gD 3 ?_); refine bxE 3 26 #[.int .i64 a1_0, .string a1_1, .int .i64 a1_2, .int .i64 a1_3, .int .i64 a1_4, .int .i64 a1_5] fun gb156 w18 hg hbox hb => ?_; have BK156 := Aside0.mk hbox; have GE156 := gB HB hg; have ⟨NB155_156, NB156_155⟩ := nB BK155 hg; replace BK155 := uK BK155 hb; replace HB := uB HB hb; clear hb hbox hg; have hnb19 := NB155_156.out; have hnc19 := NB156_155.out; have hcz20_0 := ci BK155.out 0 a0_0 rfl; have hcz20_1 : w18.cell? ⟨gb155, 1, none⟩ = some (.string a0_1) := cb BK155 1; have hcz20_2 := ci BK155.out 2 a0_2 rfl; have hcz20_3 := ci BK155.out 3 a0_3 rfl; have hcz20_4 := ci BK155.out 4 a0_4 rfl; have hcz20_5 := ci BK155.out 5 a0_5 rfl; have hfz20_0 := fun j_ : Nat => blk_frozen BK155.out j_; have hcz21_0 := ci BK156.out 0 a1_0 rfl; have hcz21_1 : w18.cell? ⟨gb156, 1, none⟩ = some (.string a1_1) := cb BK156 1; have hcz21_2 := ci BK156.out 2 a1_2 rfl; have hcz21_3 := ci BK156.out 3 a1_3 rfl; have hcz21_4 := ci BK156.out 4 a1_4 rfl; have hcz21_5 := ci BK156.out 5 a1_5 rfl; have hfz21_0 := fun j_ : Nat => blk_frozen BK156.out j_) | (go_at_call 70; (with_reducible refine (spec_l22Holds.calls a0_0 a0_1 a0_2 a0_3 a0_4 a0_5 false _ A6.out).mono ?_); rintro e w22 ⟨rfl, hb⟩; replace BK155 := uK BK155 hb; replace BK156 := uK BK156 hb; replace HB := uB HB hb; (try clear hb)))
     go_ret
     exact ⟨eB, (bW HB)⟩
   ·obtain rfl := Option.some.inj H
    go_enter Tryd.func91, Tryd.ntmps91
    go_wp2_with (first | ((with_reducible refine gD 2 ?_); refine bxE 2 26 #[.int .i64 a0_0, .string a0_1, .int .i64 a0_2, .int .i64 a0_3, .int .i64 a0_4, .int .i64 a0_5] fun gb155 w23 hg hbox hb => ?_; have BK155 := Aside0.mk hbox; have GE155 := gB HB hg; replace HB := uB HB hb; clear hb hbox hg) | ((with_reducible refine gD 3 ?_); refine bxE 3 26 #[.int .i64 a1_0, .string a1_1, .int .i64 a1_2, .int .i64 a1_3, .int .i64 a1_4, .int .i64 a1_5] fun gb156 w24 hg hbox hb => ?_; have BK156 := Aside0.mk hbox; have GE156 := gB HB hg; have ⟨NB155_156, NB156_155⟩ := nB BK155 hg; replace BK155 := uK BK155 hb; replace HB := uB HB hb; clear hb hbox hg; have hnb25 := NB155_156.out; have hnc25 := NB156_155.out; have hcz26_0 := ci BK155.out 0 a0_0 rfl; have hcz26_1 : w24.cell? ⟨gb155, 1, none⟩ = some (.string a0_1) := cb BK155 1; have hcz26_2 := ci BK155.out 2 a0_2 rfl; have hcz26_3 := ci BK155.out 3 a0_3 rfl; have hcz26_4 := ci BK155.out 4 a0_4 rfl; have hcz26_5 := ci BK155.out 5 a0_5 rfl; have hfz26_0 := fun j_ : Nat => blk_frozen BK155.out j_; have hcz27_0 := ci BK156.out 0 a1_0 rfl; have hcz27_1 : w24.cell? ⟨gb156, 1, none⟩ = some (.string a1_1) := cb BK156 1; have hcz27_2 := ci BK156.out 2 a1_2 rfl; have hcz27_3 := ci BK156.out 3 a1_3 rfl; have hcz27_4 := ci BK156.out 4 a1_4 rfl; have hcz27_5 := ci BK156.out 5 a1_5 rfl; have hfz27_0 := fun j_ : Nat => blk_frozen BK156.out j_))
    go_ret
    exact ⟨eB, (bW HB)⟩
  ·obtain rfl := Option.some.inj H
   go_enter Tryd.func91, Tryd.ntmps91
   go_wp2_with (first | ((with_reducible refine gD 2 ?_); refine bxE 2 26 #[.int .i64 a0_0, .string a0_1, .int .i64 a0_2, .int .i64 a0_3, .int .i64 a0_4, .int .i64 a0_5] fun gb155 w28 hg hbox hb => ?_; have BK155 := Aside0.mk hbox; have GE155 := gB HB hg; replace HB := uB HB hb; clear hb hbox hg) | ((with_reducible refine gD 3 ?_); refine bxE 3 26 #[.int .i64 a1_0, .string a1_1, .int .i64 a1_2, .int .i64 a1_3, .int .i64 a1_4, .int .i64 a1_5] fun gb156 w29 hg hbox hb => ?_; have BK156 := Aside0.mk hbox; have GE156 := gB HB hg; have ⟨NB155_156, NB156_155⟩ := nB BK155 hg; replace BK155 := uK BK155 hb; replace HB := uB HB hb; clear hb hbox hg; have hnb30 := NB155_156.out; have hnc30 := NB156_155.out; have hcz31_0 := ci BK155.out 0 a0_0 rfl; have hcz31_1 : w29.cell? ⟨gb155, 1, none⟩ = some (.string a0_1) := cb BK155 1; have hcz31_2 := ci BK155.out 2 a0_2 rfl; have hcz31_3 := ci BK155.out 3 a0_3 rfl; have hcz31_4 := ci BK155.out 4 a0_4 rfl; have hcz31_5 := ci BK155.out 5 a0_5 rfl; have hfz31_0 := fun j_ : Nat => blk_frozen BK155.out j_; have hcz32_0 := ci BK156.out 0 a1_0 rfl; have hcz32_1 : w29.cell? ⟨gb156, 1, none⟩ = some (.string a1_1) := cb BK156 1; have hcz32_2 := ci BK156.out 2 a1_2 rfl; have hcz32_3 := ci BK156.out 3 a1_3 rfl; have hcz32_4 := ci BK156.out 4 a1_4 rfl; have hcz32_5 := ci BK156.out 5 a1_5 rfl; have hfz32_0 := fun j_ : Nat => blk_frozen BK156.out j_))
   go_ret
   exact ⟨eB, (bW HB)⟩
 ·obtain rfl := Option.some.inj H
  go_enter Tryd.func91, Tryd.ntmps91
  go_wp2_with (first | ((with_reducible refine gD 2 ?_); refine bxE 2 26 #[.int .i64 a0_0, .string a0_1, .int .i64 a0_2, .int .i64 a0_3, .int .i64 a0_4, .int .i64 a0_5] fun gb155 w33 hg hbox hb => ?_; have BK155 := Aside0.mk hbox; have GE155 := gB HB hg; replace HB := uB HB hb; clear hb hbox hg) | ((with_reducible refine gD 3 ?_); refine bxE 3 26 #[.int .i64 a1_0, .string a1_1, .int .i64 a1_2, .int .i64 a1_3, .int .i64 a1_4, .int .i64 a1_5] fun gb156 w34 hg hbox hb => ?_; have BK156 := Aside0.mk hbox; have GE156 := gB HB hg; have ⟨NB155_156, NB156_155⟩ := nB BK155 hg; replace BK155 := uK BK155 hb; replace HB := uB HB hb; clear hb hbox hg; have hnb35 := NB155_156.out; have hnc35 := NB156_155.out; have hcz36_0 := ci BK155.out 0 a0_0 rfl; have hcz36_1 : w34.cell? ⟨gb155, 1, none⟩ = some (.string a0_1) := cb BK155 1; have hcz36_2 := ci BK155.out 2 a0_2 rfl; have hcz36_3 := ci BK155.out 3 a0_3 rfl; have hcz36_4 := ci BK155.out 4 a0_4 rfl; have hcz36_5 := ci BK155.out 5 a0_5 rfl; have hfz36_0 := fun j_ : Nat => blk_frozen BK155.out j_; have hcz37_0 := ci BK156.out 0 a1_0 rfl; have hcz37_1 : w34.cell? ⟨gb156, 1, none⟩ = some (.string a1_1) := cb BK156 1; have hcz37_2 := ci BK156.out 2 a1_2 rfl; have hcz37_3 := ci BK156.out 3 a1_3 rfl; have hcz37_4 := ci BK156.out 4 a1_4 rfl; have hcz37_5 := ci BK156.out 5 a1_5 rfl; have hfz37_0 := fun j_ : Nat => blk_frozen BK156.out j_))
  go_ret
  exact ⟨eB, (bW HB)⟩

end Go.Proofs.YtgeioccfjgpijaaDoor.QFnPermitDays
