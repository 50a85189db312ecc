/- Contracts of Go functions that FnExactAllowedOn reaches: the call computes what the plain function says. No condition. -/
import Derived.Test.YtgeioccfjgpijaaDoorQFnExactAllowedOnx0
import Derived.Test.YtgeioccfjgpijaaDoorQFnExactAllowedOnx1
import Derived.Test.YtgeioccfjgpijaaDoorQFnExactAllowedOnx4
import Derived.Test.YtgeioccfjgpijaaDoorQFnExactAllowedOnx5
namespace Go.Proofs.YtgeioccfjgpijaaDoor.QFnExactAllowedOn
open Go.RowKit Go.Proofs.YtgeioccfjgpijaaDoorW.PrintWords Go.Proofs.YtgeioccfjgpijaaDoorW.PrintLast Go.Proofs.YtgeioccfjgpijaaDoorW.PrintMore
attribute [local go_sem] max2_int min2_int max_two min_two max_three min_three max_four min_four   -- for this text's walks alone
set_option linter.unusedVariables false
set_option linter.unusedSimpArgs false

/-! ### impl_xAllowed: function 141 -/
-- reaches: (impl.Permit).counts
-- reaches: impl.within
set_option maxHeartbeats 4000000 in
set_option maxRecDepth 100000 in
theorem IndexFunc_allowed (p : S26 → Bool) (V V2 : Value) (A0 : Option Addr) (c0 : Nat) (l0 : List (S26)) (w : World) (hr0 : Kd.C k26 w A0 l0.length l0) (hc0 : l0.length ≤ c0)
    (hp : ∀ (x : S26) (W : World), x ∈ l0 → Below w.heap.size w W → Calls Tryd.prog 93 #[.agg #[.int .i64 x.f0, .string x.f1, .int .i64 x.f2, .int .i64 x.f3, .int .i64 x.f4, .int .i64 x.f5], V, V2] W fun e W' => e = .returned (.bool (p x)) ∧ Below W.heap.size W W') :
    Calls Tryd.prog 92 #[.slice A0 l0.length c0, .func (.func 93) #[] #[V, V2]] w fun e w' => e = .returned (.int .i64 (idxP26 p l0 0)) ∧ Below w.heap.size w w' := by
  have hu := Tryd.underlying26
  have hm := hr0.2.1
  go_enter Tryd.func92, Tryd.ntmps92
  go_wp2
  go_loopw [8] (fun v wr => ∃ i : Nat, i ≤ l0.length ∧ v = .int .i64 i ∧ idxP26 p l0 0 = idxP26 p (l0.drop i) i ∧ Below w.heap.size w wr) (fun v _ => l0.length - (intOf v).toNat)
  case atStart => exact ⟨0, by omega, rfl, by simp, Below.refl _ _⟩
  case round =>
    obtain ⟨i, hi, rfl, he, hb⟩ := hrel
    by_cases hlt : i < l0.length
    · obtain ⟨ad, rfl, h0, h1, h2, h3, h4, h5⟩ := at_T26 (Kd.C_below hr0 hb) (i : Int) (by omega) (by omega)
      have hx : rd_T26 l0 (i : Int) = l0.getD i z26 := by unfold rd_T26; rw [Int.toNat_natCast]
      have hmem := getD_mem' l0 i z26 hlt
      rw [hx] at h0 h1 h2 h3 h4 h5
      rw [getD_drop' l0 i z26 hlt] at he
      generalize l0.getD i z26 = x at h0 h1 h2 h3 h4 h5 he hx hmem
      clear hx
      rw [Int.toNat_natCast] at h0 h1 h2 h3 h4 h5
      cases hpx : p x with
      | true =>
        have hq := hp x wr hmem hb
        rw [hpx] at hq
        have he' := Aside0.mk he
        have hb' := Aside0.mk hb
        have hpx' := Aside0.mk hpx
        clear he hb hp hpx hmem
        go_wp2_with (go_at_call 93; refine hq.mono ?_; rintro e w1 ⟨rfl, hb1⟩)
        go_ret
        refine ⟨?_, hb'.out.trans (hb1.mono hb'.out.size)⟩
        rw [he'.out, idxP26, if_pos hpx'.out]
        rfl
      | false =>
        have hq := hp x wr hmem hb
        rw [hpx] at hq
        have he' := Aside0.mk he
        have hb' := Aside0.mk hb
        have hpx' := Aside0.mk hpx
        have hp' := Aside0.mk hp
        clear he hb hp hpx hmem
        go_wp2_with (go_at_call 93; refine hq.mono ?_; rintro e w1 ⟨rfl, hb1⟩)
        go_roundw
        case rel => exact ⟨i + 1, by omega, by go_num, by rw [he'.out, idxP26, hpx'.out]; rfl, hb'.out.trans (hb1.mono hb'.out.size)⟩
        case measure => simp [intOf]; omega
    · have hd : l0.drop i = [] := List.drop_eq_nil_of_le (by omega)
      rw [hd] at he
      have he' := Aside0.mk he
      have hb' := Aside0.mk hb
      clear he hb hp hd
      go_wp2
      go_ret
      exact ⟨by rw [he'.out, idxP26]; rfl, hb'.out⟩

def onDay (a1 : ByteArray) (a2 : Int) (x : S26) : Bool := (x.f5 == 1 || x.f5 == 3) && (decide (x.f1.toList = a1.toList) && decide (x.f2 ≤ a2 ∧ a2 ≤ x.f3))
set_option maxRecDepth 100000 in
set_option maxHeartbeats 2000000 in
theorem allowedClosure (x : S26) (q : ByteArray) (n : Int) (b1 b2 : Nat) (W : World) (h1 : W.cell? ⟨b1, 0, none⟩ = some (.string q)) (h2 : W.cell? ⟨b2, 0, none⟩ = some (.int .i64 n)) :
    Calls Tryd.prog 93 #[.agg #[.int .i64 x.f0, .string x.f1, .int .i64 x.f2, .int .i64 x.f3, .int .i64 x.f4, .int .i64 x.f5], .pointer (some ⟨b1, 0, none⟩), .pointer (some ⟨b2, 0, none⟩)] W fun e W' => e = .returned (.bool (onDay q n x)) ∧ Below W.heap.size W W' := by
  have hu := Tryd.underlying26
  have hl1 := World.block_lt_of_cell? W _ h1
  have hl2 := World.block_lt_of_cell? W _ h2
  go_enter Tryd.func93, Tryd.ntmps93
  go_wp2
  all_goals go_ret
  all_goals refine ⟨?_, by first | exact (((Below.refl _ W).alloc (Nat.le_refl _) _).alloc (by simp) _) | exact ((Below.refl _ W).alloc (Nat.le_refl _) _)⟩
  all_goals first | (simp [onDay, *]; done) | (simp [onDay, *]; omega)
def impl_xAllowed.f (l0 : List (S26)) (a1 : ByteArray) (a2 : Int) : Option Int := some (idxP26 (onDay a1 a2) l0 0)
theorem impl_xAllowed.calls (A0 : Option Addr) (c0 : Nat) (l0 : List (S26)) (a1 : ByteArray) (a2 : Int) (r : Int) (w : World) (hr0 : Kd.C k26 w A0 l0.length l0) (hc0 : l0.length ≤ c0) (h : impl_xAllowed.f l0 a1 a2 = some r) {b1 b2 : Nat} (hcell1 : w.cell? ⟨b1, 0, none⟩ = some (.string a1) := by first | assumption | simp) (hcell2 : w.cell? ⟨b2, 0, none⟩ = some (.int .i64 a2) := by first | assumption | simp) :
    Calls Tryd.prog 92 #[.slice A0 l0.length c0, .func (.func 93) #[] #[.pointer (some ⟨b1, 0, none⟩), .pointer (some ⟨b2, 0, none⟩)]] w fun e w' => e = .returned (.int .i64 r) ∧ Below w.heap.size w w' := by
  obtain rfl := Option.some.inj h
  have hl1 := World.block_lt_of_cell? w _ hcell1
  have hl2 := World.block_lt_of_cell? w _ hcell2
  exact IndexFunc_allowed (onDay a1 a2) (.pointer (some ⟨b1, 0, none⟩)) (.pointer (some ⟨b2, 0, none⟩)) A0 c0 l0 w hr0 hc0 (fun x W _ hB => allowedClosure x a1 a2 b1 b2 W ((hB.cell hl1).trans hcell1) ((hB.cell hl2).trans hcell2))

/-! ### impl_allowed: function 65 -/
def impl_allowed.f (l0 : List (S26)) (a1 : ByteArray) (a2 : Int) : Option (Int × ByteArray × Int × Int × Int × Int × Bool) := (impl_xAllowed.f l0 a1 a2).bind fun t182 => (if t182 < 0 then (some (0, (⟨#[]⟩ : ByteArray), 0, 0, 0, 0, false)) else (if 0 ≤ t182 then (if t182 < (l0.length : Int) then (some ((rd_T26 l0 t182).f0, (rd_T26 l0 t182).f1, (rd_T26 l0 t182).f2, (rd_T26 l0 t182).f3, (rd_T26 l0 t182).f4, (rd_T26 l0 t182).f5, true)) else (none)) else (none)))
set_option maxHeartbeats 8000000 in
set_option maxRecDepth 100000 in
theorem impl_allowed.calls (A0 : Option Addr) (c0 : Nat) (l0 : List (S26)) (a1 : ByteArray) (a2 : Int) (r1 : Int) (r2 : ByteArray) (r3 : Int) (r4 : Int) (r5 : Int) (r6 : Int) (r7 : Bool) (w : World) (hr0 : Kd.C k26 w A0 l0.length l0) (hc0 : l0.length ≤ c0) (h : impl_allowed.f l0 a1 a2 = some (r1, r2, r3, r4, r5, r6, r7)) :
    Calls Tryd.prog 65 #[.slice A0 l0.length c0, .string a1, .int .i64 a2] w fun e w' => e = .returned (.tuple #[.agg #[.int .i64 r1, .string r2, .int .i64 r3, .int .i64 r4, .int .i64 r5, .int .i64 r6], .bool r7]) ∧ Below w.heap.size w w' := by
  have hu26 := Tryd.underlying26
  have HR0 := Aside0.mk hr0
  have HC0 := Aside0.mk hc0
  clear hr0 hc0
  have HB := Aside0.mk (Below.refl w.heap.size w)
  have H : ((impl_xAllowed.f l0 a1 a2).bind fun t182 => (if t182 < 0 then (some (0, (⟨#[]⟩ : ByteArray), 0, 0, 0, 0, false)) else (if 0 ≤ t182 then (if t182 < (l0.length : Int) then (some ((rd_T26 l0 t182).f0, (rd_T26 l0 t182).f1, (rd_T26 l0 t182).f2, (rd_T26 l0 t182).f3, (rd_T26 l0 t182).f4, (rd_T26 l0 t182).f5, true)) else (none)) else (none)))) = some (r1, r2, r3, r4, r5, r6, r7) := h
  clear h
  replace H := Option.bind_eq_some_iff.mp H
  obtain ⟨t182, A40, H⟩ := H
  replace H : (if t182 < 0 then (some (0, (⟨#[]⟩ : ByteArray), 0, 0, 0, 0, false)) else (if 0 ≤ t182 then (if t182 < (l0.length : Int) then (some ((rd_T26 l0 t182).f0, (rd_T26 l0 t182).f1, (rd_T26 l0 t182).f2, (rd_T26 l0 t182).f3, (rd_T26 l0 t182).f4, (rd_T26 l0 t182).f5, true)) else (none)) else (none))) = some (r1, r2, r3, r4, r5, r6, r7) := H
  have A4 := Aside0.mk A40
  clear A40
  by_cases c5 : t182 < 0
  · rw [if_pos c5] at H
    have c5b0 : decide (t182 < 0) = true := decide_eq_true c5
    clear c5
    simp only [Option.some.injEq, Prod.mk.injEq] at H
    obtain ⟨rfl, rfl, rfl, rfl, rfl, rfl, rfl⟩ := H
    go_enter Tryd.func65, Tryd.ntmps65
    go_wp2_with (first | ((with_reducible refine gate_dst (N := 6) rfl ?_); refine box_event ?hg (N := 6) ?hd (cs := #[.int .i64 0, .string (⟨#[]⟩ : ByteArray), .int .i64 0, .int .i64 0, .int .i64 0, .int .i64 0]) (t := 26) ?hr ?_; (case hd => rfl); (case hg => rfl); (case hr => first | (go_simp; done) | (go_simp; rfl)); intro gb181 hg w6 hbox hb; have q1_ : w6.cell? ⟨w.heap.size, 0, none⟩ = some (.string a1) := (blk_cell (blk_below (blk_alloc (blk_new w (.cells #[.string a1] 9)) (.cells #[.int .i64 a2] 3)) hb) 0).trans rfl; have q2_ : w6.cell? ⟨w.heap.size + 1, 0, none⟩ = some (.int .i64 a2) := (blk_cell (blk_below (by have h2 := blk_new (w.alloc (.cells #[.string a1] 9)) (.cells #[.int .i64 a2] 3); rw [alloc_size] at h2; exact h2) hb) 0).trans rfl; have n0_ := Aside0.mk (below_step (upB HB.out) hb); have n1_ := Aside0.mk (hbox); have n2_ := Aside0.mk ((by rw [hg]; exact (below_size (upB HB.out)) : w.heap.size ≤ gb181)); have n3_ := Aside0.mk ((by rw [hg]; exact (below_size (upB HB.out)) : w.heap.size ≤ gb181)); clear HB; have HB := n0_; have BK181 := n1_; have GW181 := n2_; have GE181 := n3_; clear n0_ n1_ n2_ n3_; clear hb hbox hg) | ((with_reducible refine gate_callee (f := 92) rfl ?_); refine goesL_ (some 11) rfl rfl Tryd.func92 (by kernel_rfl) rfl #[.slice A0 l0.length c0, .func (.func 93) #[] #[.pointer (some ⟨w.heap.size, 0, none⟩), .pointer (some ⟨(w.heap.size + 1), 0, none⟩)]] rfl argsB ?_; (with_reducible refine (impl_xAllowed.calls _ _ l0 a1 a2 t182 _ ?side1 ?side2 A4.out).mono ?_); (case side1 => repeat (first | exact (Kd.C_below HR0.out HB.out) | (with_reducible refine Kd.C_alloc ?_ _) | (with_reducible refine Kd.C_drewN ?_ _) | (with_reducible refine Kd.C_drew ?_))); (case side2 => exact HC0.out); rintro e w7 ⟨rfl, hb⟩; refine ⟨_, rfl, ?_⟩; have n0_ := Aside0.mk (blk_below (g := gb181) (o := .cells #[.int .i64 0, .string (⟨#[]⟩ : ByteArray), .int .i64 0, .int .i64 0, .int .i64 0, .int .i64 0] 26 (0, 0)) (upK BK181.out) hb); have n1_ := Aside0.mk (below_step (upB1 HB.out GE181.out) hb); clear BK181; clear HB; have BK181 := n0_; have HB := n1_; clear n0_ n1_; (try clear hb); have hcz8_0 := ci BK181.out 0 0 rfl; have hcz8_1 : w7.cell? ⟨gb181, 1, none⟩ = some (.string (⟨#[]⟩ : ByteArray)) := (blk_cell BK181.out 1).trans rfl; have hcz8_2 := ci BK181.out 2 0 rfl; have hcz8_3 := ci BK181.out 3 0 rfl; have hcz8_4 := ci BK181.out 4 0 rfl; have hcz8_5 := ci BK181.out 5 0 rfl; have hfz8_0 := fun j_ : Nat => blk_frozen BK181.out j_))
    refine bodyPost_ret (results_ct rfl _ _ gb181 26 #[.int .i64 0, .string (⟨#[]⟩ : ByteArray), .int .i64 0, .int .i64 0, .int .i64 0, .int .i64 0] (0, 0) _ rfl (by (with_reducible repeat (first | refine blk_drewN ?_ _ | refine blk_drew ?_ | refine blk_alloc ?_ _)); refine blk_put (cs := #[.int .i64 0, .string (⟨#[]⟩ : ByteArray), .int .i64 0, .int .i64 0, .int .i64 0, .int .i64 0]) ?_ 5 _ rfl; (with_reducible repeat (first | refine blk_drewN ?_ _ | refine blk_drew ?_ | refine blk_alloc ?_ _)); refine blk_put (cs := #[.int .i64 0, .string (⟨#[]⟩ : ByteArray), .int .i64 0, .int .i64 0, .int .i64 0, .int .i64 0]) ?_ 4 _ rfl; (with_reducible repeat (first | refine blk_drewN ?_ _ | refine blk_drew ?_ | refine blk_alloc ?_ _)); refine blk_put (cs := #[.int .i64 0, .string (⟨#[]⟩ : ByteArray), .int .i64 0, .int .i64 0, .int .i64 0, .int .i64 0]) ?_ 3 _ rfl; (with_reducible repeat (first | refine blk_drewN ?_ _ | refine blk_drew ?_ | refine blk_alloc ?_ _)); refine blk_put (cs := #[.int .i64 0, .string (⟨#[]⟩ : ByteArray), .int .i64 0, .int .i64 0, .int .i64 0, .int .i64 0]) ?_ 2 _ rfl; (with_reducible repeat (first | refine blk_drewN ?_ _ | refine blk_drew ?_ | refine blk_alloc ?_ _)); refine blk_put (cs := #[.int .i64 0, .string (⟨#[]⟩ : ByteArray), .int .i64 0, .int .i64 0, .int .i64 0, .int .i64 0]) ?_ 1 _ rfl; (with_reducible repeat (first | refine blk_drewN ?_ _ | refine blk_drew ?_ | refine blk_alloc ?_ _)); refine blk_put (cs := #[.int .i64 0, .string (⟨#[]⟩ : ByteArray), .int .i64 0, .int .i64 0, .int .i64 0, .int .i64 0]) ?_ 0 _ rfl; (with_reducible repeat (first | refine blk_drewN ?_ _ | refine blk_drew ?_ | refine blk_alloc ?_ _)); exact BK181.out) Tryd.underlying26 rfl (by kernel_rfl)) rfl ?_
    exact ⟨by first | rfl | (simp [errW_none, errW_some] <;> rfl) | (simp [*, errW_none, errW_some] <;> rfl), (upB1 HB.out GE181.out)⟩
  · rw [if_neg c5] at H
    have c5b0 : decide (t182 < 0) = false := decide_eq_false c5
    clear c5
    by_cases c9 : 0 ≤ t182
    · rw [if_pos c9] at H
      have c9b0 : decide (0 ≤ t182) = true := decide_eq_true c9
      clear c9
      by_cases c10 : t182 < (l0.length : Int)
      · rw [if_pos c10] at H
        have c10b0 : decide (t182 < (l0.length : Int)) = true := decide_eq_true c10
        clear c10
        simp only [Option.some.injEq, Prod.mk.injEq] at H
        obtain ⟨rfl, rfl, rfl, rfl, rfl, rfl, rfl⟩ := H
        go_enter Tryd.func65, Tryd.ntmps65
        go_wp2_with (first | ((with_reducible refine gate_dst (N := 6) rfl ?_); refine box_event ?hg (N := 6) ?hd (cs := #[.int .i64 0, .string (⟨#[]⟩ : ByteArray), .int .i64 0, .int .i64 0, .int .i64 0, .int .i64 0]) (t := 26) ?hr ?_; (case hd => rfl); (case hg => rfl); (case hr => first | (go_simp; done) | (go_simp; rfl)); intro gb181 hg w11 hbox hb; have q1_ : w11.cell? ⟨w.heap.size, 0, none⟩ = some (.string a1) := (blk_cell (blk_below (blk_alloc (blk_new w (.cells #[.string a1] 9)) (.cells #[.int .i64 a2] 3)) hb) 0).trans rfl; have q2_ : w11.cell? ⟨w.heap.size + 1, 0, none⟩ = some (.int .i64 a2) := (blk_cell (blk_below (by have h2 := blk_new (w.alloc (.cells #[.string a1] 9)) (.cells #[.int .i64 a2] 3); rw [alloc_size] at h2; exact h2) hb) 0).trans rfl; have n0_ := Aside0.mk (below_step (upB HB.out) hb); have n1_ := Aside0.mk (hbox); have n2_ := Aside0.mk ((by rw [hg]; exact (below_size (upB HB.out)) : w.heap.size ≤ gb181)); have n3_ := Aside0.mk ((by rw [hg]; exact (below_size (upB HB.out)) : w.heap.size ≤ gb181)); clear HB; have HB := n0_; have BK181 := n1_; have GW181 := n2_; have GE181 := n3_; clear n0_ n1_ n2_ n3_; clear hb hbox hg) | ((with_reducible refine gate_callee (f := 92) rfl ?_); refine goesL_ (some 11) rfl rfl Tryd.func92 (by kernel_rfl) rfl #[.slice A0 l0.length c0, .func (.func 93) #[] #[.pointer (some ⟨w.heap.size, 0, none⟩), .pointer (some ⟨(w.heap.size + 1), 0, none⟩)]] rfl argsB ?_; (with_reducible refine (impl_xAllowed.calls _ _ l0 a1 a2 t182 _ ?side1 ?side2 A4.out).mono ?_); (case side1 => repeat (first | exact (Kd.C_below HR0.out HB.out) | (with_reducible refine Kd.C_alloc ?_ _) | (with_reducible refine Kd.C_drewN ?_ _) | (with_reducible refine Kd.C_drew ?_))); (case side2 => exact HC0.out); rintro e w12 ⟨rfl, hb⟩; refine ⟨_, rfl, ?_⟩; have n0_ := Aside0.mk (blk_below (g := gb181) (o := .cells #[.int .i64 0, .string (⟨#[]⟩ : ByteArray), .int .i64 0, .int .i64 0, .int .i64 0, .int .i64 0] 26 (0, 0)) (upK BK181.out) hb); have n1_ := Aside0.mk (below_step (upB1 HB.out GE181.out) hb); clear BK181; clear HB; have BK181 := n0_; have HB := n1_; clear n0_ n1_; (try clear hb); have p183 : 0 ≤ (t182 : Int) := of_decide_eq_true asmB; have q183 : t182 < (l0.length : Int) := of_decide_eq_true asmB; obtain ⟨ad183, e183, hx183_0, hx183_1, hx183_2, hx183_3, hx183_4, hx183_5⟩ := at_T26 HR0.out t182 p183 q183; cases e183; replace hx183_0 := bx HB.out hx183_0; replace hx183_1 := bx HB.out hx183_1; replace hx183_2 := bx HB.out hx183_2; replace hx183_3 := bx HB.out hx183_3; replace hx183_4 := bx HB.out hx183_4; replace hx183_5 := bx HB.out hx183_5; replace p183 := eq_true p183; replace q183 := eq_true q183; have hcz13_0 := ci BK181.out 0 0 rfl; have hcz13_1 : w12.cell? ⟨gb181, 1, none⟩ = some (.string (⟨#[]⟩ : ByteArray)) := (blk_cell BK181.out 1).trans rfl; have hcz13_2 := ci BK181.out 2 0 rfl; have hcz13_3 := ci BK181.out 3 0 rfl; have hcz13_4 := ci BK181.out 4 0 rfl; have hcz13_5 := ci BK181.out 5 0 rfl; have hfz13_0 := fun j_ : Nat => blk_frozen BK181.out j_))
        refine bodyPost_ret (results_ct rfl _ _ gb181 26 #[.int .i64 ((rd_T26 l0 t182).f0), .string ((rd_T26 l0 t182).f1), .int .i64 ((rd_T26 l0 t182).f2), .int .i64 ((rd_T26 l0 t182).f3), .int .i64 ((rd_T26 l0 t182).f4), .int .i64 ((rd_T26 l0 t182).f5)] (0, 0) _ rfl (by (with_reducible repeat (first | refine blk_drewN ?_ _ | refine blk_drew ?_ | refine blk_alloc ?_ _)); refine blk_put (cs := #[.int .i64 ((rd_T26 l0 t182).f0), .string ((rd_T26 l0 t182).f1), .int .i64 ((rd_T26 l0 t182).f2), .int .i64 ((rd_T26 l0 t182).f3), .int .i64 ((rd_T26 l0 t182).f4), .int .i64 0]) ?_ 5 _ rfl; (with_reducible repeat (first | refine blk_drewN ?_ _ | refine blk_drew ?_ | refine blk_alloc ?_ _)); refine blk_put (cs := #[.int .i64 ((rd_T26 l0 t182).f0), .string ((rd_T26 l0 t182).f1), .int .i64 ((rd_T26 l0 t182).f2), .int .i64 ((rd_T26 l0 t182).f3), .int .i64 0, .int .i64 0]) ?_ 4 _ rfl; (with_reducible repeat (first | refine blk_drewN ?_ _ | refine blk_drew ?_ | refine blk_alloc ?_ _)); refine blk_put (cs := #[.int .i64 ((rd_T26 l0 t182).f0), .string ((rd_T26 l0 t182).f1), .int .i64 ((rd_T26 l0 t182).f2), .int .i64 0, .int .i64 0, .int .i64 0]) ?_ 3 _ rfl; (with_reducible repeat (first | refine blk_drewN ?_ _ | refine blk_drew ?_ | refine blk_alloc ?_ _)); refine blk_put (cs := #[.int .i64 ((rd_T26 l0 t182).f0), .string ((rd_T26 l0 t182).f1), .int .i64 0, .int .i64 0, .int .i64 0, .int .i64 0]) ?_ 2 _ rfl; (with_reducible repeat (first | refine blk_drewN ?_ _ | refine blk_drew ?_ | refine blk_alloc ?_ _)); refine blk_put (cs := #[.int .i64 ((rd_T26 l0 t182).f0), .string (⟨#[]⟩ : ByteArray), .int .i64 0, .int .i64 0, .int .i64 0, .int .i64 0]) ?_ 1 _ rfl; (with_reducible repeat (first | refine blk_drewN ?_ _ | refine blk_drew ?_ | refine blk_alloc ?_ _)); refine blk_put (cs := #[.int .i64 0, .string (⟨#[]⟩ : ByteArray), .int .i64 0, .int .i64 0, .int .i64 0, .int .i64 0]) ?_ 0 _ rfl; (with_reducible repeat (first | refine blk_drewN ?_ _ | refine blk_drew ?_ | refine blk_alloc ?_ _)); exact BK181.out) Tryd.underlying26 rfl (by kernel_rfl)) rfl ?_
        exact ⟨by first | rfl | (simp [errW_none, errW_some] <;> rfl) | (simp [*, errW_none, errW_some] <;> rfl), (upB1 HB.out GE181.out)⟩
      · rw [if_neg c10] at H
        exact absurd H (by simp)
    · rw [if_neg c9] at H
      exact absurd H (by simp)

/-! ### impl_AllowedOn: function 24 -/
def impl_AllowedOn.f (k : Nat) (l0 : List (S26)) (a1 : ByteArray) (a2 : Int) : Option (Int × Bool) := (impl_ArePermits.f k l0).bind fun t184 => (if t184 = true then ((impl_isWord.f a1).bind fun t185 => (if t185 = true then ((impl_isDay.f a2).bind fun t186 => (if t186 = true then ((impl_allowed.f l0 a1 a2).bind fun bt187 => (some (bt187.1, bt187.2.2.2.2.2.2))) else (some (0, false)))) else (some (0, false)))) else (some (0, false)))
theorem impl_AllowedOn.mono : ∀ a0 a1 a2 k, LeO (impl_AllowedOn.f k a0 a1 a2) (impl_AllowedOn.f (k + 1) a0 a1 a2) := by
  intro a0 a1 a2 k
  unfold impl_AllowedOn.f
  repeat' first
      | (with_reducible exact impl_ArePermits.mono _ _)
      | (with_reducible exact LeO.refl _)
      | (with_reducible exact LeO.none _)
      | (with_reducible refine LeO.ite ?_ ?_)
      | (with_reducible refine LeO.bind ?_ (fun _ => ?_))
      | exact impl_ArePermits.mono _ _
      | exact LeO.none _
      | refine LeO.ite ?_ ?_
      | refine LeO.bind ?_ (fun _ => ?_)
set_option maxHeartbeats 8000000 in
set_option maxRecDepth 100000 in
theorem impl_AllowedOn.calls (k : Nat) (A0 : Option Addr) (c0 : Nat) (l0 : List (S26)) (a1 : ByteArray) (a2 : Int) (r1 : Int) (r2 : Bool) (w : World) (hr0 : Kd.C k26 w A0 l0.length l0) (hc0 : l0.length ≤ c0) (h : impl_AllowedOn.f k l0 a1 a2 = some (r1, r2)) :
    Calls Tryd.prog 24 #[.slice A0 l0.length c0, .string a1, .int .i64 a2] w fun e w' => e = .returned (.tuple #[.int .i64 r1, .bool r2]) ∧ Below w.heap.size w w' := by
  have hu26 := Tryd.underlying26
  have HR0 := Aside0.mk hr0
  have HC0 := Aside0.mk hc0
  clear hr0 hc0
  have HB := Aside0.mk (Below.refl w.heap.size w)
  have H : ((impl_ArePermits.f k l0).bind fun t184 => (if t184 = true then ((impl_isWord.f a1).bind fun t185 => (if t185 = true then ((impl_isDay.f a2).bind fun t186 => (if t186 = true then ((impl_allowed.f l0 a1 a2).bind fun bt187 => (some (bt187.1, bt187.2.2.2.2.2.2))) else (some (0, false)))) else (some (0, false)))) else (some (0, false)))) = some (r1, r2) := h
  clear h
  replace H := Option.bind_eq_some_iff.mp H
  obtain ⟨t184, A40, H⟩ := H
  replace H : (if t184 = true then ((impl_isWord.f a1).bind fun t185 => (if t185 = true then ((impl_isDay.f a2).bind fun t186 => (if t186 = true then ((impl_allowed.f l0 a1 a2).bind fun bt187 => (some (bt187.1, bt187.2.2.2.2.2.2))) else (some (0, false)))) else (some (0, false)))) else (some (0, false))) = some (r1, r2) := H
  have A4 := Aside0.mk A40
  clear A40
  by_cases c5 : t184 = true
  · subst c5
    have H1 : ((impl_isWord.f a1).bind fun t185 => (if t185 = true then ((impl_isDay.f a2).bind fun t186 => (if t186 = true then ((impl_allowed.f l0 a1 a2).bind fun bt187 => (some (bt187.1, bt187.2.2.2.2.2.2))) else (some (0, false)))) else (some (0, false)))) = some (r1, r2) := by rw [if_pos rfl] at H; exact H
    clear H
    have H := H1
    clear H1
    replace H := Option.bind_eq_some_iff.mp H
    obtain ⟨t185, A60, H⟩ := H
    replace H : (if t185 = true then ((impl_isDay.f a2).bind fun t186 => (if t186 = true then ((impl_allowed.f l0 a1 a2).bind fun bt187 => (some (bt187.1, bt187.2.2.2.2.2.2))) else (some (0, false)))) else (some (0, false))) = some (r1, r2) := H
    have A6 := Aside0.mk A60
    clear A60
    by_cases c7 : t185 = true
    · subst c7
      have H1 : ((impl_isDay.f a2).bind fun t186 => (if t186 = true then ((impl_allowed.f l0 a1 a2).bind fun bt187 => (some (bt187.1, bt187.2.2.2.2.2.2))) else (some (0, false)))) = some (r1, r2) := by rw [if_pos rfl] at H; exact H
      clear H
      have H := H1
      clear H1
      replace H := Option.bind_eq_some_iff.mp H
      obtain ⟨t186, A80, H⟩ := H
      replace H : (if t186 = true then ((impl_allowed.f l0 a1 a2).bind fun bt187 => (some (bt187.1, bt187.2.2.2.2.2.2))) else (some (0, false))) = some (r1, r2) := H
      have A8 := Aside0.mk A80
      clear A80
      by_cases c9 : t186 = true
      · subst c9
        have H1 : ((impl_allowed.f l0 a1 a2).bind fun bt187 => (some (bt187.1, bt187.2.2.2.2.2.2))) = some (r1, r2) := by rw [if_pos rfl] at H; exact H
        clear H
        have H := H1
        clear H1
        replace H := Option.bind_eq_some_iff.mp H
        obtain ⟨⟨t187, t188, t189, t190, t191, t192, t193⟩, A100, H⟩ := H
        replace H : (some (t187, t193)) = some (r1, r2) := H
        have A10 := Aside0.mk A100
        clear A100
        simp only [Option.some.injEq, Prod.mk.injEq] at H
        obtain ⟨rfl, rfl⟩ := H
        go_enter Tryd.func24, Tryd.ntmps24
        go_wp2_with (first | ((with_reducible refine gate_callee (f := 21) rfl ?_); refine goesL_ (some 11) rfl rfl Tryd.func21 (by kernel_rfl) rfl #[.slice A0 l0.length c0] rfl argsB ?_; (with_reducible refine (impl_ArePermits.calls k _ _ l0 true _ ?side1 ?side2 A4.out).mono ?_); (case side1 => repeat (first | exact HR0.out | (with_reducible refine Kd.C_alloc ?_ _) | (with_reducible refine Kd.C_drewN ?_ _) | (with_reducible refine Kd.C_drew ?_))); (case side2 => exact HC0.out); rintro e w11 ⟨rfl, hb⟩; refine ⟨_, rfl, ?_⟩; have n0_ := Aside0.mk (below_step (upB HB.out) hb); clear HB; have HB := n0_; clear n0_; (try clear hb)) | (go_at_call 55; (with_reducible refine (impl_isWord.calls a1 true _ A6.out).mono ?_); rintro e w12 ⟨rfl, hb⟩; have n0_ := Aside0.mk (below_step (upB HB.out) hb); clear HB; have HB := n0_; clear n0_; (try clear hb)) | (go_at_call 56; (with_reducible refine (impl_isDay.calls a2 true _ A8.out).mono ?_); rintro e w' ⟨rfl, ⟨nd, rfl⟩⟩; (try (rw [drewN_self w12]; generalize hq_ : World.drewN w12 _ = w12; have n0_ : Aside0 (Below w.heap.size w w12) := ⟨by rw [← hq_]; exact (upB HB.out)⟩; clear HB hq_; have HB := n0_; clear n0_))) | ((with_reducible refine gate_callee (f := 65) rfl ?_); refine goesL_ (some 27) rfl rfl Tryd.func65 (by kernel_rfl) rfl #[.slice A0 l0.length c0, .string a1, .int .i64 a2] rfl argsB ?_; (with_reducible refine (impl_allowed.calls _ _ l0 a1 a2 t187 t188 t189 t190 t191 t192 t193 _ ?side1 ?side2 A10.out).mono ?_); (case side1 => repeat (first | exact (Kd.C_below HR0.out HB.out) | (with_reducible refine Kd.C_alloc ?_ _) | (with_reducible refine Kd.C_drewN ?_ _) | (with_reducible refine Kd.C_drew ?_))); (case side2 => exact HC0.out); rintro e w13 ⟨rfl, hb⟩; refine ⟨_, rfl, ?_⟩; have n0_ := Aside0.mk (below_step (upB HB.out) hb); clear HB; have HB := n0_; clear n0_; (try clear hb)) | ((with_reducible refine gate_dst (N := 8) rfl ?_); refine box_event ?hg (N := 8) ?hd (cs := #[.int .i64 0, .string (⟨#[]⟩ : ByteArray), .int .i64 0, .int .i64 0, .int .i64 0, .int .i64 0]) (t := 26) ?hr ?_; (case hd => rfl); (case hg => rfl); (case hr => first | (go_simp; done) | (go_simp; rfl)); intro gb194 hg w14 hbox hb; have n0_ := Aside0.mk (below_step (upB HB.out) hb); have n1_ := Aside0.mk (hbox); have n2_ := Aside0.mk ((by rw [hg]; exact (below_size (upB HB.out)) : w.heap.size ≤ gb194)); have n3_ := Aside0.mk ((by rw [hg]; exact (below_size (upB HB.out)) : w.heap.size ≤ gb194)); clear HB; have HB := n0_; have BK194 := n1_; have GW194 := n2_; have GE194 := n3_; clear n0_ n1_ n2_ n3_; clear hb hbox hg; have hcz15_0 := ci BK194.out 0 0 rfl; have hcz15_1 : w14.cell? ⟨gb194, 1, none⟩ = some (.string (⟨#[]⟩ : ByteArray)) := (blk_cell BK194.out 1).trans rfl; have hcz15_2 := ci BK194.out 2 0 rfl; have hcz15_3 := ci BK194.out 3 0 rfl; have hcz15_4 := ci BK194.out 4 0 rfl; have hcz15_5 := ci BK194.out 5 0 rfl; have hfz15_0 := fun j_ : Nat => blk_frozen BK194.out j_))
        go_ret2
        exact ⟨by first | rfl | (simp [errW_none, errW_some] <;> rfl) | (simp [*, errW_none, errW_some] <;> rfl), (upB1 HB.out GE194.out)⟩
      · replace c9 := Bool.eq_false_iff.mpr c9
        subst c9
        have H1 : (some (0, false)) = some (r1, r2) := by rw [if_neg (show ¬ (false = true) by decide)] at H; exact H
        clear H
        have H := H1
        clear H1
        simp only [Option.some.injEq, Prod.mk.injEq] at H
        obtain ⟨rfl, rfl⟩ := H
        go_enter Tryd.func24, Tryd.ntmps24
        go_wp2_with (first | ((with_reducible refine gate_callee (f := 21) rfl ?_); refine goesL_ (some 11) rfl rfl Tryd.func21 (by kernel_rfl) rfl #[.slice A0 l0.length c0] rfl argsB ?_; (with_reducible refine (impl_ArePermits.calls k _ _ l0 true _ ?side1 ?side2 A4.out).mono ?_); (case side1 => repeat (first | exact HR0.out | (with_reducible refine Kd.C_alloc ?_ _) | (with_reducible refine Kd.C_drewN ?_ _) | (with_reducible refine Kd.C_drew ?_))); (case side2 => exact HC0.out); rintro e w16 ⟨rfl, hb⟩; refine ⟨_, rfl, ?_⟩; have n0_ := Aside0.mk (below_step (upB HB.out) hb); clear HB; have HB := n0_; clear n0_; (try clear hb)) | (go_at_call 55; (with_reducible refine (impl_isWord.calls a1 true _ A6.out).mono ?_); rintro e w17 ⟨rfl, hb⟩; have n0_ := Aside0.mk (below_step (upB HB.out) hb); clear HB; have HB := n0_; clear n0_; (try clear hb)) | (go_at_call 56; (with_reducible refine (impl_isDay.calls a2 false _ A8.out).mono ?_); rintro e w' ⟨rfl, ⟨nd, rfl⟩⟩))
        go_ret2
        exact ⟨by first | rfl | (simp [errW_none, errW_some] <;> rfl) | (simp [*, errW_none, errW_some] <;> rfl), (upB HB.out)⟩
    · replace c7 := Bool.eq_false_iff.mpr c7
      subst c7
      have H1 : (some (0, false)) = some (r1, r2) := by rw [if_neg (show ¬ (false = true) by decide)] at H; exact H
      clear H
      have H := H1
      clear H1
      simp only [Option.some.injEq, Prod.mk.injEq] at H
      obtain ⟨rfl, rfl⟩ := H
      go_enter Tryd.func24, Tryd.ntmps24
      go_wp2_with (first | ((with_reducible refine gate_callee (f := 21) rfl ?_); refine goesL_ (some 11) rfl rfl Tryd.func21 (by kernel_rfl) rfl #[.slice A0 l0.length c0] rfl argsB ?_; (with_reducible refine (impl_ArePermits.calls k _ _ l0 true _ ?side1 ?side2 A4.out).mono ?_); (case side1 => repeat (first | exact HR0.out | (with_reducible refine Kd.C_alloc ?_ _) | (with_reducible refine Kd.C_drewN ?_ _) | (with_reducible refine Kd.C_drew ?_))); (case side2 => exact HC0.out); rintro e w18 ⟨rfl, hb⟩; refine ⟨_, rfl, ?_⟩; have n0_ := Aside0.mk (below_step (upB HB.out) hb); clear HB; have HB := n0_; clear n0_; (try clear hb)) | (go_at_call 55; (with_reducible refine (impl_isWord.calls a1 false _ A6.out).mono ?_); rintro e w19 ⟨rfl, hb⟩; have n0_ := Aside0.mk (below_step (upB HB.out) hb); clear HB; have HB := n0_; clear n0_; (try clear hb)))
      go_ret2
      exact ⟨by first | rfl | (simp [errW_none, errW_some] <;> rfl) | (simp [*, errW_none, errW_some] <;> rfl), (upB HB.out)⟩
  · replace c5 := Bool.eq_false_iff.mpr c5
    subst c5
    have H1 : (some (0, false)) = some (r1, r2) := by rw [if_neg (show ¬ (false = true) by decide)] at H; exact H
    clear H
    have H := H1
    clear H1
    simp only [Option.some.injEq, Prod.mk.injEq] at H
    obtain ⟨rfl, rfl⟩ := H
    go_enter Tryd.func24, Tryd.ntmps24
    go_wp2_with (first | ((with_reducible refine gate_callee (f := 21) rfl ?_); refine goesL_ (some 11) rfl rfl Tryd.func21 (by kernel_rfl) rfl #[.slice A0 l0.length c0] rfl argsB ?_; (with_reducible refine (impl_ArePermits.calls k _ _ l0 false _ ?side1 ?side2 A4.out).mono ?_); (case side1 => repeat (first | exact HR0.out | (with_reducible refine Kd.C_alloc ?_ _) | (with_reducible refine Kd.C_drewN ?_ _) | (with_reducible refine Kd.C_drew ?_))); (case side2 => exact HC0.out); rintro e w20 ⟨rfl, hb⟩; refine ⟨_, rfl, ?_⟩; have n0_ := Aside0.mk (below_step (upB HB.out) hb); clear HB; have HB := n0_; clear n0_; (try clear hb)))
    go_ret2
    exact ⟨by first | rfl | (simp [errW_none, errW_some] <;> rfl) | (simp [*, errW_none, errW_some] <;> rfl), (upB HB.out)⟩

/-! ### laws_FnExactAllowedOn: function 5 -/
def laws_FnExactAllowedOn.j0 : Nat → List (S23) → List (S26) → Bool → Option (Bool)
  | 0, _, _, _ => none
  | k + 1, x0, x10, x45 => if x45 = true then (some false) else ((laws_toPermitS.f k x0).bind fun t206 => ((laws_eqPermitS.f k x10 t206).bind fun t209 => (if t209 = true then (some true) else (some false))))
def laws_FnExactAllowedOn.f (k : Nat) (l0 : List (S23)) (a1 : ByteArray) (a2 : Int) : Option (Bool) := if (a1.size : Int) > 1048576 then (some true) else ((laws_szPermitS.f k l0 1048576).bind fun t195 => (if t195 < 0 then (some true) else ((laws_toPermitS.f k l0).bind fun t196 => ((spec_AllowedOn.f k t196 a1 a2).bind fun bt199 => ((laws_toPermitS.f k l0).bind fun t201 => ((impl_AllowedOn.f k t201 a1 a2).bind fun bt204 => (if bt204.1 = bt199.1 then (laws_FnExactAllowedOn.j0 k l0 t201 (bt204.2 != bt199.2)) else (laws_FnExactAllowedOn.j0 k l0 t201 true))))))))
theorem laws_FnExactAllowedOn.mono_l : ∀ k, (∀ y0 y1 y2, LeO (laws_FnExactAllowedOn.j0 k y0 y1 y2) (laws_FnExactAllowedOn.j0 (k + 1) y0 y1 y2))
  | 0 => fun _ _ _ r h => by simp [laws_FnExactAllowedOn.j0] at h
  | k + 1 => by
    have ih0 := laws_FnExactAllowedOn.mono_l k
    · intro y0 y1 y2
      unfold laws_FnExactAllowedOn.j0
      repeat' first
      | (with_reducible exact ih0 _ _ _)
      | (with_reducible exact impl_AllowedOn.mono _ _ _ _)
      | (with_reducible exact laws_eqPermitS.mono _ _ _)
      | (with_reducible exact laws_szPermitS.mono _ _ _)
      | (with_reducible exact laws_toPermitS.mono _ _)
      | (with_reducible exact spec_AllowedOn.mono _ _ _ _)
      | (with_reducible exact LeO.refl _)
      | (with_reducible exact LeO.none _)
      | (with_reducible refine LeO.ite ?_ ?_)
      | (with_reducible refine LeO.bind ?_ (fun _ => ?_))
      | exact ih0 _ _ _
      | exact impl_AllowedOn.mono _ _ _ _
      | exact laws_eqPermitS.mono _ _ _
      | exact laws_szPermitS.mono _ _ _
      | exact laws_toPermitS.mono _ _
      | exact spec_AllowedOn.mono _ _ _ _
      | exact LeO.none _
      | refine LeO.ite ?_ ?_
      | refine LeO.bind ?_ (fun _ => ?_)
theorem laws_FnExactAllowedOn.mono : ∀ a0 a1 a2 k, LeO (laws_FnExactAllowedOn.f k a0 a1 a2) (laws_FnExactAllowedOn.f (k + 1) a0 a1 a2) := by
  intro a0 a1 a2 k
  have ih0 := laws_FnExactAllowedOn.mono_l k
  unfold laws_FnExactAllowedOn.f
  repeat' first
      | (with_reducible exact ih0 _ _ _)
      | (with_reducible exact impl_AllowedOn.mono _ _ _ _)
      | (with_reducible exact laws_eqPermitS.mono _ _ _)
      | (with_reducible exact laws_szPermitS.mono _ _ _)
      | (with_reducible exact laws_toPermitS.mono _ _)
      | (with_reducible exact spec_AllowedOn.mono _ _ _ _)
      | (with_reducible exact LeO.refl _)
      | (with_reducible exact LeO.none _)
      | (with_reducible refine LeO.ite ?_ ?_)
      | (with_reducible refine LeO.bind ?_ (fun _ => ?_))
      | exact ih0 _ _ _
      | exact impl_AllowedOn.mono _ _ _ _
      | exact laws_eqPermitS.mono _ _ _
      | exact laws_szPermitS.mono _ _ _
      | exact laws_toPermitS.mono _ _
      | exact spec_AllowedOn.mono _ _ _ _
      | exact LeO.none _
      | refine LeO.ite ?_ ?_
      | refine LeO.bind ?_ (fun _ => ?_)
set_option maxHeartbeats 8000000 in
set_option maxRecDepth 100000 in
theorem laws_FnExactAllowedOn.calls (k : Nat) (A0 : Option Addr) (c0 : Nat) (l0 : List (S23)) (a1 : ByteArray) (a2 : Int) (r : Bool) (w : World) (hr0 : Kd.C k23 w A0 l0.length l0) (hc0 : l0.length ≤ c0) (h : laws_FnExactAllowedOn.f k l0 a1 a2 = some r) :
    Calls Tryd.prog 5 #[.slice A0 l0.length c0, .string a1, .int .i64 a2] w fun e w' => e = .returned (.bool r) ∧ Below w.heap.size w w' := by
  have HR0 := Aside0.mk hr0
  have HC0 := Aside0.mk hc0
  clear hr0 hc0
  have HB := Aside0.mk (Below.refl w.heap.size w)
  have H : (if (a1.size : Int) > 1048576 then (some true) else ((laws_szPermitS.f k l0 1048576).bind fun t195 => (if t195 < 0 then (some true) else ((laws_toPermitS.f k l0).bind fun t196 => ((spec_AllowedOn.f k t196 a1 a2).bind fun bt199 => ((laws_toPermitS.f k l0).bind fun t201 => ((impl_AllowedOn.f k t201 a1 a2).bind fun bt204 => (if bt204.1 = bt199.1 then (laws_FnExactAllowedOn.j0 k l0 t201 (bt204.2 != bt199.2)) else (laws_FnExactAllowedOn.j0 k l0 t201 true))))))))) = some r := h
  clear h
  by_cases c4 : (a1.size : Int) > 1048576
  · rw [if_pos c4] at H
    have c4b0 : decide (1048576 < (a1.size : Int)) = true := decide_eq_true c4
    have c4b1 : decide (1048576 < a1.size) = true := decide_eq_true (by omega)
    clear c4
    obtain rfl := Option.some.inj H
    go_enter Tryd.func5, Tryd.ntmps5
    go_wp2
    go_ret
    exact ⟨by first | rfl | (simp [errW_none, errW_some] <;> rfl) | (simp [*, errW_none, errW_some] <;> rfl), (upB HB.out)⟩
  · rw [if_neg c4] at H
    have c4b0 : decide (1048576 < (a1.size : Int)) = false := decide_eq_false c4
    have c4b1 : decide (1048576 < a1.size) = false := decide_eq_false (by omega)
    clear c4
    replace H := Option.bind_eq_some_iff.mp H
    obtain ⟨t195, A50, H⟩ := H
    replace H : (if t195 < 0 then (some true) else ((laws_toPermitS.f k l0).bind fun t196 => ((spec_AllowedOn.f k t196 a1 a2).bind fun bt199 => ((laws_toPermitS.f k l0).bind fun t201 => ((impl_AllowedOn.f k t201 a1 a2).bind fun bt204 => (if bt204.1 = bt199.1 then (laws_FnExactAllowedOn.j0 k l0 t201 (bt204.2 != bt199.2)) else (laws_FnExactAllowedOn.j0 k l0 t201 true))))))) = some r := H
    have A5 := Aside0.mk A50
    clear A50
    by_cases c6 : t195 < 0
    · rw [if_pos c6] at H
      have c6b0 : decide (t195 < 0) = true := decide_eq_true c6
      clear c6
      obtain rfl := Option.some.inj H
      go_enter Tryd.func5, Tryd.ntmps5
      go_wp2_with (first | ((with_reducible refine gate_callee (f := 18) rfl ?_); refine goesL_ (some 18) rfl rfl Tryd.func18 (by kernel_rfl) rfl #[.slice A0 l0.length c0, .int .i64 1048576] rfl argsB ?_; (with_reducible refine (laws_szPermitS.calls k _ _ l0 1048576 t195 _ ?side1 ?side2 A5.out).mono ?_); (case side1 => repeat (first | exact HR0.out | (with_reducible refine Kd.C_alloc ?_ _) | (with_reducible refine Kd.C_drewN ?_ _) | (with_reducible refine Kd.C_drew ?_))); (case side2 => exact HC0.out); rintro e w7 ⟨rfl, hb⟩; refine ⟨_, rfl, ?_⟩; have n0_ := Aside0.mk (below_step (upB HB.out) hb); clear HB; have HB := n0_; clear n0_; (try clear hb); (try clear hk)))
      go_ret
      exact ⟨by first | rfl | (simp [errW_none, errW_some] <;> rfl) | (simp [*, errW_none, errW_some] <;> rfl), (upB HB.out)⟩
    · rw [if_neg c6] at H
      have c6b0 : decide (t195 < 0) = false := decide_eq_false c6
      clear c6
      replace H := Option.bind_eq_some_iff.mp H
      obtain ⟨t196, A80, H⟩ := H
      replace H : ((spec_AllowedOn.f k t196 a1 a2).bind fun bt199 => ((laws_toPermitS.f k l0).bind fun t201 => ((impl_AllowedOn.f k t201 a1 a2).bind fun bt204 => (if bt204.1 = bt199.1 then (laws_FnExactAllowedOn.j0 k l0 t201 (bt204.2 != bt199.2)) else (laws_FnExactAllowedOn.j0 k l0 t201 true))))) = some r := H
      have A8 := Aside0.mk A80
      clear A80
      replace H := Option.bind_eq_some_iff.mp H
      obtain ⟨⟨t199, t200⟩, A90, H⟩ := H
      replace H : ((laws_toPermitS.f k l0).bind fun t201 => ((impl_AllowedOn.f k t201 a1 a2).bind fun bt204 => (if bt204.1 = t199 then (laws_FnExactAllowedOn.j0 k l0 t201 (bt204.2 != t200)) else (laws_FnExactAllowedOn.j0 k l0 t201 true)))) = some r := H
      have A9 := Aside0.mk A90
      clear A90
      replace H := Option.bind_eq_some_iff.mp H
      obtain ⟨t201, A100, H⟩ := H
      replace H : ((impl_AllowedOn.f k t201 a1 a2).bind fun bt204 => (if bt204.1 = t199 then (laws_FnExactAllowedOn.j0 k l0 t201 (bt204.2 != t200)) else (laws_FnExactAllowedOn.j0 k l0 t201 true))) = some r := H
      have A10 := Aside0.mk A100
      clear A100
      replace H := Option.bind_eq_some_iff.mp H
      obtain ⟨⟨t204, t205⟩, A110, H⟩ := H
      replace H : (if t204 = t199 then (laws_FnExactAllowedOn.j0 k l0 t201 (t205 != t200)) else (laws_FnExactAllowedOn.j0 k l0 t201 true)) = some r := H
      have A11 := Aside0.mk A110
      clear A110
      have HC12 := Aside0.mk H
      clear H
      go_enter Tryd.func5, Tryd.ntmps5
      go_upto_region 10 with (first | ((with_reducible refine gate_callee (f := 18) rfl ?_); refine goesL_ (some 18) rfl rfl Tryd.func18 (by kernel_rfl) rfl #[.slice A0 l0.length c0, .int .i64 1048576] rfl argsB ?_; (with_reducible refine (laws_szPermitS.calls k _ _ l0 1048576 t195 _ ?side1 ?side2 A5.out).mono ?_); (case side1 => repeat (first | exact HR0.out | (with_reducible refine Kd.C_alloc ?_ _) | (with_reducible refine Kd.C_drewN ?_ _) | (with_reducible refine Kd.C_drew ?_))); (case side2 => exact HC0.out); rintro e w13 ⟨rfl, hb⟩; refine ⟨_, rfl, ?_⟩; have n0_ := Aside0.mk (below_step (upB HB.out) hb); clear HB; have HB := n0_; clear n0_; (try clear hb); (try clear hk)) | ((with_reducible refine gate_callee (f := 20) rfl ?_); refine goesL_ (some 23) rfl rfl Tryd.func20 (by kernel_rfl) rfl #[.slice A0 l0.length c0] rfl argsB ?_; (with_reducible refine (laws_toPermitS.calls k _ _ l0 t196 _ ?side1 ?side2 A8.out).mono ?_); (case side1 => repeat (first | exact (Kd.C_below HR0.out HB.out) | (with_reducible refine Kd.C_alloc ?_ _) | (with_reducible refine Kd.C_drewN ?_ _) | (with_reducible refine Kd.C_drew ?_))); (case side2 => exact HC0.out); rintro e w14 ⟨v197, rfl, ho0, hb⟩; refine ⟨_, rfl, ?_⟩; have n0_ := Aside0.mk (Kd.R_lower ho0 (below_size (upB HB.out))); have n1_ := Aside0.mk (below_step (upB HB.out) hb); clear HB; have HO198 := n0_; have HB := n1_; clear n0_ n1_; (try clear hb); (try clear hk); (try clear ho0); obtain ⟨Ao15, co15, eo15⟩ := Kd.R_slice HO198.out; subst eo15) | ((with_reducible refine gate_callee (f := 23) rfl ?_); refine goesL_ (some 26) rfl rfl Tryd.func23 (by kernel_rfl) rfl #[.slice Ao15 t196.length co15, .string a1, .int .i64 a2] rfl argsB ?_; (with_reducible refine (spec_AllowedOn.calls k _ _ t196 a1 a2 t199 t200 _ ?side1 ?side2 A9.out).mono ?_); (case side1 => repeat (first | exact (Kd.R_reads' HO198.out).2.2 | (with_reducible refine Kd.C_alloc ?_ _) | (with_reducible refine Kd.C_drewN ?_ _) | (with_reducible refine Kd.C_drew ?_))); (case side2 => exact (Kd.R_reads' HO198.out).2.1); rintro e w16 ⟨rfl, hb⟩; refine ⟨_, rfl, ?_⟩; have n0_ := Aside0.mk (Kd.R_below (upR HO198.out) hb); have n1_ := Aside0.mk (below_step (upB HB.out) hb); clear HO198; clear HB; have HO198 := n0_; have HB := n1_; clear n0_ n1_; (try clear hb); (try clear hk)) | ((with_reducible refine gate_callee (f := 20) rfl ?_); refine goesL_ (some 30) rfl rfl Tryd.func20 (by kernel_rfl) rfl #[.slice A0 l0.length c0] rfl argsB ?_; (with_reducible refine (laws_toPermitS.calls k _ _ l0 t201 _ ?side1 ?side2 A10.out).mono ?_); (case side1 => repeat (first | exact (Kd.C_below HR0.out HB.out) | (with_reducible refine Kd.C_alloc ?_ _) | (with_reducible refine Kd.C_drewN ?_ _) | (with_reducible refine Kd.C_drew ?_))); (case side2 => exact HC0.out); rintro e w17 ⟨v202, rfl, ho0, hb⟩; refine ⟨_, rfl, ?_⟩; have n0_ := Aside0.mk (Kd.R_elder' (upR HO198.out) (Kd.R_base ho0) hb); have n1_ := Aside0.mk (Kd.R_lower (Kd.R_new' ho0 (Kd.R_lt (upR HO198.out))) (below_size (upB HB.out))); have n2_ := Aside0.mk (below_step (upB HB.out) hb); clear HO198; clear HB; have HO198 := n0_; have HO203 := n1_; have HB := n2_; clear n0_ n1_ n2_; (try clear hb); (try clear hk); (try clear ho0); obtain ⟨Ao18, co18, eo18⟩ := Kd.R_slice HO203.out; subst eo18) | ((with_reducible refine gate_callee (f := 24) rfl ?_); refine goesL_ (some 35) rfl rfl Tryd.func24 (by kernel_rfl) rfl #[.slice Ao18 t201.length co18, .string a1, .int .i64 a2] rfl argsB ?_; (with_reducible refine (impl_AllowedOn.calls k _ _ t201 a1 a2 t204 t205 _ ?side1 ?side2 A11.out).mono ?_); (case side1 => repeat (first | exact (Kd.R_reads' HO203.out).2.2 | (with_reducible refine Kd.C_alloc ?_ _) | (with_reducible refine Kd.C_drewN ?_ _) | (with_reducible refine Kd.C_drew ?_))); (case side2 => exact (Kd.R_reads' HO203.out).2.1); rintro e w19 ⟨rfl, hb⟩; refine ⟨_, rfl, ?_⟩; have n0_ := Aside0.mk (Kd.R_below (upR HO198.out) hb); have n1_ := Aside0.mk (Kd.R_below (upR HO203.out) hb); have n2_ := Aside0.mk (below_step (upB HB.out) hb); clear HO198; clear HO203; clear HB; have HO198 := n0_; have HO203 := n1_; have HB := n2_; clear n0_ n1_ n2_; (try clear hb); (try clear hk)))
      (try simp only [Act.put, List.setIfInBounds_toArray, List.set_cons_zero, List.set_cons_succ])
      go_cut [45] (fun v45 wc => ∃ (kq : Nat) (x45_11 : Bool), v45 = .bool x45_11 ∧ Aside0 (laws_FnExactAllowedOn.j0 kq l0 t201 x45_11 = some r) ∧ Aside0 (kq ≤ k) ∧ Aside0 (Kd.R k26 26 wc w.heap.size (fun _ => True) (.slice Ao18 t201.length co18) t201) ∧ Aside0 (Below w.heap.size w wc))
      case first =>
        have H := HC12.out
        clear HC12
        by_cases c20 : t204 = t199
        · rw [if_pos c20] at H
          have c20b0 : (t204 == t199) = true := beq_iff_eq.mpr c20
          have c20b1 : (t204 != t199) = false := bne_eq_false_iff_eq.mpr c20
          clear c20
          (first | rw [c20b0] | (simp only [i64_w, i32_w]; rw [c20b0]) | skip)
          have H' := Aside0.mk H
          clear H
          go_wp2
          go_meet
          case rel => exact ⟨_, ((t205 != t200)), (by first | rfl | (simp; done) | (simp [*]; done)), H', ⟨by first | omega | exact Nat.le_refl _⟩, ⟨by (with_reducible repeat (first | apply Kd.R_alloc | apply Kd.R_drewN | apply Kd.R_drew)); exact Kd.R_mono HO203.out (fun _ hk => trivial)⟩, ⟨(upB HB.out)⟩⟩
        · rw [if_neg c20] at H
          have c20b0 : (t204 == t199) = false := beq_eq_false_iff_ne.mpr c20
          have c20b1 : (t204 != t199) = true := bne_iff_ne.mpr c20
          (first | rw [c20b0] | (simp only [i64_w, i32_w]; rw [c20b0]) | skip)
          have H' := Aside0.mk H
          clear H
          go_wp2
          go_meet
          case rel => exact ⟨_, (true), (by first | rfl | (simp; done) | (simp [*]; done)), H', ⟨by first | omega | exact Nat.le_refl _⟩, ⟨by (with_reducible repeat (first | apply Kd.R_alloc | apply Kd.R_drewN | apply Kd.R_drew)); exact Kd.R_mono HO203.out (fun _ hk => trivial)⟩, ⟨(upB HB.out)⟩⟩
      case rest =>
        clear HC12
        try clear c4
        try clear c4b0
        try clear c4b1
        try clear c6
        try clear c6b0
        try clear c20
        try clear c20b0
        try clear c20b1
        obtain ⟨kq, x45_11, rfl, HA, HJ11, HO_10, HB⟩ := hcut
        cases kq with
        | zero => exact absurd HA.out (by simp [laws_FnExactAllowedOn.j0])
        | succ kj11 =>
          have H := HA.out
          clear HA
          simp only [laws_FnExactAllowedOn.j0] at H
          by_cases c21 : x45_11 = true
          · subst c21
            have H1 : (some false) = some r := by rw [if_pos rfl] at H; exact H
            clear H
            have H := H1
            clear H1
            obtain rfl := Option.some.inj H
            go_wp2
            go_ret
            exact ⟨by first | rfl | (simp [errW_none, errW_some] <;> rfl) | (simp [*, errW_none, errW_some] <;> rfl), (upB HB.out)⟩
          · replace c21 := Bool.eq_false_iff.mpr c21
            subst c21
            have H1 : ((laws_toPermitS.f kj11 l0).bind fun t206 => ((laws_eqPermitS.f kj11 t201 t206).bind fun t209 => (if t209 = true then (some true) else (some false)))) = some r := by rw [if_neg (show ¬ (false = true) by decide)] at H; exact H
            clear H
            have H := H1
            clear H1
            replace H := Option.bind_eq_some_iff.mp H
            obtain ⟨t206, A220, H⟩ := H
            replace H : ((laws_eqPermitS.f kj11 t201 t206).bind fun t209 => (if t209 = true then (some true) else (some false))) = some r := H
            have A22 := Aside0.mk A220
            clear A220
            replace H := Option.bind_eq_some_iff.mp H
            obtain ⟨t209, A230, H⟩ := H
            replace H : (if t209 = true then (some true) else (some false)) = some r := H
            have A23 := Aside0.mk A230
            clear A230
            by_cases c24 : t209 = true
            · subst c24
              have H1 : (some true) = some r := by rw [if_pos rfl] at H; exact H
              clear H
              have H := H1
              clear H1
              obtain rfl := Option.some.inj H
              go_wp2_with (first | ((with_reducible refine gate_callee (f := 20) rfl ?_); refine goesL_ (some 48) rfl rfl Tryd.func20 (by kernel_rfl) rfl #[.slice A0 l0.length c0] rfl argsB ?_; (with_reducible refine (laws_toPermitS.calls kj11 _ _ l0 t206 _ ?side1 ?side2 A22.out).mono ?_); (case side1 => repeat (first | exact (Kd.C_below HR0.out HB.out) | (with_reducible refine Kd.C_alloc ?_ _) | (with_reducible refine Kd.C_drewN ?_ _) | (with_reducible refine Kd.C_drew ?_))); (case side2 => exact HC0.out); rintro e w25 ⟨v207, rfl, ho0, hb⟩; refine ⟨_, rfl, ?_⟩; have n0_ := Aside0.mk (Kd.R_elder' (upR HO_10.out) (Kd.R_base ho0) hb); have n1_ := Aside0.mk (Kd.R_lower (Kd.R_new' ho0 (Kd.R_lt (upR HO_10.out))) (below_size (upB HB.out))); have n2_ := Aside0.mk (below_step (upB HB.out) hb); clear HO_10; clear HB; have HO_10 := n0_; have HO208 := n1_; have HB := n2_; clear n0_ n1_ n2_; (try clear hb); (try clear hk); (try clear ho0); obtain ⟨Ao26, co26, eo26⟩ := Kd.R_slice HO208.out; subst eo26) | ((with_reducible refine gate_callee (f := 22) rfl ?_); refine goesL_ (some 49) rfl rfl Tryd.func22 (by kernel_rfl) rfl #[.slice Ao18 t201.length co18, .slice Ao26 t206.length co26] rfl argsB ?_; (with_reducible refine (laws_eqPermitS.calls kj11 _ _ t201 _ _ t206 true _ ?side1 ?side2 ?side3 ?side4 A23.out).mono ?_); (case side1 => repeat (first | exact (Kd.R_reads' HO_10.out).2.2 | (with_reducible refine Kd.C_alloc ?_ _) | (with_reducible refine Kd.C_drewN ?_ _) | (with_reducible refine Kd.C_drew ?_))); (case side2 => exact (Kd.R_reads' HO_10.out).2.1); (case side3 => repeat (first | exact (Kd.R_reads' HO208.out).2.2 | (with_reducible refine Kd.C_alloc ?_ _) | (with_reducible refine Kd.C_drewN ?_ _) | (with_reducible refine Kd.C_drew ?_))); (case side4 => exact (Kd.R_reads' HO208.out).2.1); rintro e w27 ⟨rfl, hb⟩; refine ⟨_, rfl, ?_⟩; have n0_ := Aside0.mk (Kd.R_below (upR HO_10.out) hb); have n1_ := Aside0.mk (Kd.R_below (upR HO208.out) hb); have n2_ := Aside0.mk (below_step (upB HB.out) hb); clear HO_10; clear HO208; clear HB; have HO_10 := n0_; have HO208 := n1_; have HB := n2_; clear n0_ n1_ n2_; (try clear hb); (try clear hk)))
              go_ret
              exact ⟨by first | rfl | (simp [errW_none, errW_some] <;> rfl) | (simp [*, errW_none, errW_some] <;> rfl), (upB HB.out)⟩
            · replace c24 := Bool.eq_false_iff.mpr c24
              subst c24
              have H1 : (some false) = some r := by rw [if_neg (show ¬ (false = true) by decide)] at H; exact H
              clear H
              have H := H1
              clear H1
              obtain rfl := Option.some.inj H
              go_wp2_with (first | ((with_reducible refine gate_callee (f := 20) rfl ?_); refine goesL_ (some 48) rfl rfl Tryd.func20 (by kernel_rfl) rfl #[.slice A0 l0.length c0] rfl argsB ?_; (with_reducible refine (laws_toPermitS.calls kj11 _ _ l0 t206 _ ?side1 ?side2 A22.out).mono ?_); (case side1 => repeat (first | exact (Kd.C_below HR0.out HB.out) | (with_reducible refine Kd.C_alloc ?_ _) | (with_reducible refine Kd.C_drewN ?_ _) | (with_reducible refine Kd.C_drew ?_))); (case side2 => exact HC0.out); rintro e w28 ⟨v207, rfl, ho0, hb⟩; refine ⟨_, rfl, ?_⟩; have n0_ := Aside0.mk (Kd.R_elder' (upR HO_10.out) (Kd.R_base ho0) hb); have n1_ := Aside0.mk (Kd.R_lower (Kd.R_new' ho0 (Kd.R_lt (upR HO_10.out))) (below_size (upB HB.out))); have n2_ := Aside0.mk (below_step (upB HB.out) hb); clear HO_10; clear HB; have HO_10 := n0_; have HO208 := n1_; have HB := n2_; clear n0_ n1_ n2_; (try clear hb); (try clear hk); (try clear ho0); obtain ⟨Ao29, co29, eo29⟩ := Kd.R_slice HO208.out; subst eo29) | ((with_reducible refine gate_callee (f := 22) rfl ?_); refine goesL_ (some 49) rfl rfl Tryd.func22 (by kernel_rfl) rfl #[.slice Ao18 t201.length co18, .slice Ao29 t206.length co29] rfl argsB ?_; (with_reducible refine (laws_eqPermitS.calls kj11 _ _ t201 _ _ t206 false _ ?side1 ?side2 ?side3 ?side4 A23.out).mono ?_); (case side1 => repeat (first | exact (Kd.R_reads' HO_10.out).2.2 | (with_reducible refine Kd.C_alloc ?_ _) | (with_reducible refine Kd.C_drewN ?_ _) | (with_reducible refine Kd.C_drew ?_))); (case side2 => exact (Kd.R_reads' HO_10.out).2.1); (case side3 => repeat (first | exact (Kd.R_reads' HO208.out).2.2 | (with_reducible refine Kd.C_alloc ?_ _) | (with_reducible refine Kd.C_drewN ?_ _) | (with_reducible refine Kd.C_drew ?_))); (case side4 => exact (Kd.R_reads' HO208.out).2.1); rintro e w30 ⟨rfl, hb⟩; refine ⟨_, rfl, ?_⟩; have n0_ := Aside0.mk (Kd.R_below (upR HO_10.out) hb); have n1_ := Aside0.mk (Kd.R_below (upR HO208.out) hb); have n2_ := Aside0.mk (below_step (upB HB.out) hb); clear HO_10; clear HO208; clear HB; have HO_10 := n0_; have HO208 := n1_; have HB := n2_; clear n0_ n1_ n2_; (try clear hb); (try clear hk)))
              go_ret
              exact ⟨by first | rfl | (simp [errW_none, errW_some] <;> rfl) | (simp [*, errW_none, errW_some] <;> rfl), (upB HB.out)⟩

end Go.Proofs.YtgeioccfjgpijaaDoor.QFnExactAllowedOn
