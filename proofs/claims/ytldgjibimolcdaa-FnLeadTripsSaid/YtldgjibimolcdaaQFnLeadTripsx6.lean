/- Contracts of Go functions that FnLeadTrips reaches: the call computes what the plain function says. No condition. -/
import Derived.Test.YtldgjibimolcdaaQFnLeadTripsx0
import Derived.Test.YtldgjibimolcdaaQFnLeadTripsx4
import Derived.Test.YtldgjibimolcdaaQFnLeadTripsx5
namespace Go.Proofs.Ytldgjibimolcdaa.QFnLeadTrips
open Go.RowKit Go.Proofs.YtldgjibimolcdaaW.PrintWords Go.Proofs.YtldgjibimolcdaaW.PrintLast Go.Proofs.YtldgjibimolcdaaW.PrintMore
attribute [local go_sem] max2_int min2_int max_two min_two max_three min_three max_four min_four   -- for this text's walks alone
set_option linter.unusedVariables false
set_option linter.unusedSimpArgs false

/-! ### impl_Lead_53: function 53 -/
def impl_Lead_53.l0 : Nat → List (S25) → Int → Int → Option (Int)
 | 0, _, _, _ => none
 | k + 1, x0, x7, x8 => if x8 < x7 then (if 0 ≤ x8 then (if x8 < (x0.length : Int) then ((impl_ranked_1.f ((rd_T25 x0 x8).f0) ((rd_T25 x0 x8).f1) ((rd_T25 x0 x8).f2) ((rd_T25 x0 x8).f3) ((rd_T25 x0 x8).f4)).bind fun t149 => (if t149 = true then (some x8) else (impl_Lead_53.l0 k x0 x7 (wrap64 (x8 + 1))))) else (none)) else (none)) else (some (-1))
def impl_Lead_53.f (k : Nat) (l0 : List (S25)) (a1 : Int) : Option (Int) := impl_Lead_53.l0 k l0 (l0.length : Int) 0
theorem impl_Lead_53.mono_l : ∀ k, (∀ y0 y1 y2, LeO (impl_Lead_53.l0 k y0 y1 y2) (impl_Lead_53.l0 (k + 1) y0 y1 y2))
 | 0 => fun _ _ _ r h => by simp [impl_Lead_53.l0] at h
 | k + 1 => by
  have ih0 := impl_Lead_53.mono_l k
  ·intro y0 y1 y2
   unfold impl_Lead_53.l0
   repeat' with_reducible first | apply ih0 | exact LeO.refl _ | exact LeO.none _ | refine LeO.ite ?_ ?_ | refine LeO.bind ?_ (fun _ => ?_)
theorem impl_Lead_53.mono : ∀ a0 a1 k, LeO (impl_Lead_53.f k a0 a1) (impl_Lead_53.f (k + 1) a0 a1) := by
 intro a0 a1 k
 have ih0 := impl_Lead_53.mono_l k
 unfold impl_Lead_53.f
 repeat' with_reducible first | apply ih0 | exact LeO.refl _ | exact LeO.none _ | refine LeO.ite ?_ ?_ | refine LeO.bind ?_ (fun _ => ?_)
set_option maxHeartbeats 8000000 in
set_option maxRecDepth 100000 in
theorem impl_Lead_53.calls (k : Nat) (A0 : Option Addr) (c0 : Nat) (l0 : List (S25)) (a1 r : Int) (w : World) (hr0 : Kd.C k25 w A0 l0.length l0) (hc0 : l0.length ≤ c0) (h : impl_Lead_53.f k l0 a1 = some r) :
  Calls Try.prog 53 #[.slice A0 l0.length c0, .func (.func 67) #[] #[]] w fun e w' => e = .returned (.int .i64 r) ∧ Below w.heap.size w w' := by
 have hu25 := Try.underlying25
 have HR0 := Aside0.mk hr0
 have HC0 := Aside0.mk hc0
 clear hr0 hc0
 have HB := Aside0.mk (Below.refl w.heap.size w)
 have H : (impl_Lead_53.l0 k l0 (l0.length : Int) 0) = some r := h
 clear h
 have H' := Aside0.mk H
 clear H
 go_enter Try.func53, Try.ntmps53
 go_wp2
 go_loopg [8] k (fun kq v8 w' => ∃ (x8_1 : Int), v8 = .int .i64 x8_1 ∧ Aside0 (impl_Lead_53.l0 kq l0 (l0.length : Int) x8_1 = some r) ∧ Aside0 (kq ≤ k) ∧ Aside0 (Below w.heap.size w w'))
 case atStart => exact ⟨(0), rB, H', ⟨Nat.le_refl _⟩, (aB HB)⟩
 case round =>
  clear H'
  obtain ⟨x8_1, rfl, HA, HK1, HB⟩ := hrel
  cases gk with
  | zero => exact absurd HA.out (by simp [impl_Lead_53.l0])
  | succ k1 =>
   have H := HA.out
   clear HA
   simp only [impl_Lead_53.l0] at H
   replace H := ifD H
   rcases H with ⟨H, -, c3b0⟩ | ⟨H, -, c3b0⟩
   ·by_cases c4 : 0 ≤ x8_1
    ·rw [if_pos c4] at H
     have c4b0 : decide (0 ≤ x8_1) = true := decide_eq_true c4
     clear c4
     by_cases c5 : x8_1 < (l0.length : Int)
     ·rw [if_pos c5] at H
      have c5b0 : decide (x8_1 < (l0.length : Int)) = true := decide_eq_true c5
      clear c5
      replace H := bA H
      obtain ⟨t149, A6, H⟩ := H
      rcases Bool.eq_false_or_eq_true t149 with rfl | rfl
      ·replace H := iT rfl H
       obtain rfl := Option.some.inj H
       have p148 : 0 ≤ (x8_1 : Int) := of_decide_eq_true asmB
       have q148 : x8_1 < (l0.length : Int) := of_decide_eq_true asmB
       obtain ⟨ad148, e148, hx148_0, hx148_1, hx148_2, hx148_3, hx148_4⟩ := at_T25 HR0.out x8_1 p148 q148
       cases e148
       replace hx148_0 := bx HB.out hx148_0
       replace hx148_1 := bx HB.out hx148_1
       replace hx148_2 := bx HB.out hx148_2
       replace hx148_3 := bx HB.out hx148_3
       replace hx148_4 := bx HB.out hx148_4
       replace p148 := eq_true p148
       replace q148 := eq_true q148
       go_wp2_with (first | (go_at_call 67; (with_reducible refine (impl_ranked_1.calls ((rd_T25 l0 x8_1).f0) ((rd_T25 l0 x8_1).f1) ((rd_T25 l0 x8_1).f2) ((rd_T25 l0 x8_1).f3) ((rd_T25 l0 x8_1).f4) true _ A6.out).mono ?_); rintro e w8 ⟨rfl, hb⟩; replace HB := uB HB hb; (try clear hb)))
       go_ret
       exact ⟨eB, (bW HB)⟩
      ·replace H := iF (by decide) H
       have H' := Aside0.mk H
       clear H
       have p148 : 0 ≤ (x8_1 : Int) := of_decide_eq_true asmB
       have q148 : x8_1 < (l0.length : Int) := of_decide_eq_true asmB
       obtain ⟨ad148, e148, hx148_0, hx148_1, hx148_2, hx148_3, hx148_4⟩ := at_T25 HR0.out x8_1 p148 q148
       cases e148
       replace hx148_0 := bx HB.out hx148_0
       replace hx148_1 := bx HB.out hx148_1
       replace hx148_2 := bx HB.out hx148_2
       replace hx148_3 := bx HB.out hx148_3
       replace hx148_4 := bx HB.out hx148_4
       replace p148 := eq_true p148
       replace q148 := eq_true q148
       go_wp2_with (first | (go_at_call 67; (with_reducible refine (impl_ranked_1.calls ((rd_T25 l0 x8_1).f0) ((rd_T25 l0 x8_1).f1) ((rd_T25 l0 x8_1).f2) ((rd_T25 l0 x8_1).f3) ((rd_T25 l0 x8_1).f4) false _ A6.out).mono ?_); rintro e w9 ⟨rfl, hb⟩; replace HB := uB HB hb; (try clear hb)))
       go_roundg k1
       case measure => have := HK1.out; omega
       case rel => exact ⟨(wrap64 (x8_1 + 1)), rB, H', ⟨by have := HK1.out; omega⟩, (aB HB)⟩
     ·rw [if_neg c5] at H
      exact absurd H (by simp)
    ·rw [if_neg c4] at H
     exact absurd H (by simp)
   ·obtain rfl := Option.some.inj H
    go_wp2
    go_ret
    exact ⟨eB, (bW HB)⟩

/-! ### impl_canBecome: function 55 -/
def impl_canBecome.f (a0 a1 : Int) : Option (Bool) := if a0 = 0 then (some (a1 == 1)) else (if a0 = 1 then (some (a1 != 1)) else (if a0 = 3 then (some (a1 == 0)) else (some false)))
set_option maxHeartbeats 8000000 in
set_option maxRecDepth 100000 in
theorem impl_canBecome.calls (a0 a1 : Int) (r : Bool) (w : World) (h : impl_canBecome.f a0 a1 = some r) :
  Calls Try.prog 55 #[.int .i64 a0, .int .i64 a1] w fun e w' => e = .returned (.bool r) ∧ Drawn0 w w' := by
 have H := h
 clear h
 unfold impl_canBecome.f at H
 replace H := ifI H
 rcases H with ⟨H, -, c3b0, c3b1⟩ | ⟨H, c3, c3b0, c3b1⟩
 ·obtain rfl := Option.some.inj H
  go_enter Try.func55, Try.ntmps55
  go_wp2
  go_ret
  exact ⟨rB, by repeat (first | exact Drawn0.refl _ | apply Drawn0.step)⟩
 ·replace H := ifI H
  rcases H with ⟨H, -, c4b0, c4b1⟩ | ⟨H, c4, c4b0, c4b1⟩
  ·obtain rfl := Option.some.inj H
   go_enter Try.func55, Try.ntmps55
   go_wp2
   go_ret
   exact ⟨rB, by repeat (first | exact Drawn0.refl _ | apply Drawn0.step)⟩
  ·replace H := ifI H
   rcases H with ⟨H, -, c5b0, c5b1⟩ | ⟨H, c5, c5b0, c5b1⟩
   ·obtain rfl := Option.some.inj H
    go_enter Try.func55, Try.ntmps55
    go_wp2
    go_ret
    exact ⟨rB, by repeat (first | exact Drawn0.refl _ | apply Drawn0.step)⟩
   ·obtain rfl := Option.some.inj H
    go_enter Try.func55, Try.ntmps55
    go_wp2
    go_ret
    exact ⟨rB, by repeat (first | exact Drawn0.refl _ | apply Drawn0.step)⟩

/-! ### impl_Lead_56: function 56 -/
def impl_Lead_56.f (l0 : List (S25)) : Option (List (S25)) := if l0.length * 40 ≤ 140737488351232 then some l0 else none
theorem infoC25 : (Try.prog.info? 25).map (fun i => (i.zero, i.size, i.bytes)) = some (some (.agg #[(.int .i64 0), (.int .i64 0), (.int .i64 0), (.int .i64 0), (.int .i64 0)]), 5, 40) := by kernel_rfl
set_option maxHeartbeats 4000000 in
set_option maxRecDepth 100000 in
theorem impl_Lead_56.calls (A0 : Option Addr) (c0 : Nat) (l0 : List (S25)) (r : List (S25)) (w : World) (hr0 : Kd.C k25 w A0 l0.length l0) (hc0 : l0.length ≤ c0) (h : impl_Lead_56.f l0 = some r) :
  Calls Try.prog 56 #[.slice A0 l0.length c0] w fun e w' => ∃ v0_ : Value, e = .returned (v0_) ∧ Kd.R k25 25 w' w.heap.size (fun _ => True) v0_ r ∧ Below w.heap.size w w' := by
 have q22 : ∀ (w : World) (a : Option Addr) (n c n' c' : Nat), (binOp .eql 31 (.slice a n c) (.slice none n' c')).run Try.prog w = .ok (.bool a.isNone) w := fun w a n c n' c' => Go.Lib.run_eql_slice_nil w _ _ a n c n' c' Try.underlying31
 unfold impl_Lead_56.f at h
 split at h
 ·rename_i hb
  obtain rfl := Option.some.inj h
  cases A0 with
  | none =>
   have h0 : l0 = [] := by
    rcases Nat.eq_zero_or_pos l0.length with h0 | h0
    ·exact List.eq_nil_of_length_eq_zero h0
    ·obtain ⟨ad, he, _⟩ := hr0.2.2 h0
     cases he
   subst h0
   go_enter Try.func56, Try.ntmps56
   go_wp2
   go_ret
   exact ⟨_, rfl, Kd.R_nil _ _ _ _ _, Below.refl _ _⟩
  | some ad =>
   have HR := Aside0.mk hr0
   clear hr0
   go_enter Try.func56, Try.ntmps56
   go_wp2_with (first | ((with_reducible refine gate_dst (N := 5) rfl ?_); refine Kd.R_lit k25 _ 25 ?hg (N := 5) ?hd (xs := ([] : List (S25))) (inner := []) (ok := fun _ => True) (okp := fun _ => True) ?hr ?hp (fun _ hk => hk) trivial (Below.refl _ _) (Nat.le_refl _) (by simp) ?_; (case hd => rfl); (case hg => rfl); (case hr => first | (go_simp; done) | (go_simp; rfl)); (case hp => exact (Reps.none _ _)); intro v1 w1 ho hb1 _ _; have HO := Aside0.mk ho; have HB := Aside0.mk hb1; clear ho hb1) | ((with_reducible refine gate_builtin (b := .append) (xs := #[.tmp 5, .tmp 6]) rfl ?_); at_builtin; refine Kd.R_append_rows k25 (w0 := w) w.heap.size rfl (.tmp 5) (.tmp 6) 31 25 (.agg #[(.int .i64 0), (.int .i64 0), (.int .i64 0), (.int .i64 0), (.int .i64 0)]) 40 rfl Try.underlying31 infoC25 rfl (by decide) (by omega) _ ([] : List (S25)) l0 _ _ _ (fun _ => True) (fun _ => False) rfl rfl ?aO ?aR (fun _ _ h => h) (fun _ h => h.elim) ?aF ?aB ?aS ?aL ?_; (case aO => exact HO.out); (case aR => exact Kd.C_below HR.out HB.out); (case aF => exact fun _ _ => trivial); (case aB => exact HB.out); (case aS => exact below_size HB.out); (case aL => simp only [List.length_nil]; omega); intro v2 w2 ho2 hb2 _ _; have HO2 := Aside0.mk ho2; have HB2 := Aside0.mk hb2; clear ho2 hb2))
   go_ret
   refine ⟨_, rfl, ?_, HB2.out⟩
   have := HO2.out
   rwa [List.nil_append] at this
 ·cases h


/-! ### impl_xLeadId: function 97 -/
theorem getD_drop' {α : Type} (xs : List α) (i : Nat) (d : α) (h : i < xs.length) : xs.drop i = xs.getD i d :: xs.drop (i + 1) := by
 rw [List.drop_eq_getElem_cons h]
 simp [List.getD, List.getElem?_eq_getElem h]
theorem getD_mem' {α : Type} (xs : List α) (i : Nat) (d : α) (h : i < xs.length) : xs.getD i d ∈ xs := by
 rw [List.getD_eq_getElem?_getD, List.getElem?_eq_getElem h]
 exact List.getElem_mem h
def idxP25 (p : S25 → Bool) : List (S25) → Int → Int
 | [], _ => -1
 | x :: l, i => if p x = true then i else idxP25 p l (i + 1)
theorem idxP25_any (p : S25 → Bool) : ∀ (l : List (S25)) (i : Int), 0 ≤ i → decide (0 ≤ idxP25 p l i) = l.any p := by
 intro l
 induction l with
 | nil => intro i h; rfl
 | cons x l ih =>
  intro i h
  rw [idxP25, List.any_cons]
  by_cases c : p x = true
  ·rw [if_pos c, c, Bool.true_or]; exact decide_eq_true h
  ·rw [if_neg c, Bool.eq_false_iff.mpr c, Bool.false_or]; exact ih (i + 1) (by omega)

set_option maxHeartbeats 4000000 in
set_option maxRecDepth 100000 in
theorem IndexFunc_leadId (p : S25 → Bool) (V : Value) (A0 : Option Addr) (c0 : Nat) (l0 : List (S25)) (w : World) (hr0 : Kd.C k25 w A0 l0.length l0) (hc0 : l0.length ≤ c0)
  (hp : ∀ (x : S25) (W : World), x ∈ l0 → Below w.heap.size w W → Calls Try.prog 54 #[.agg #[.int .i64 x.f0, .int .i64 x.f1, .int .i64 x.f2, .int .i64 x.f3, .int .i64 x.f4], V] W fun e W' => e = .returned (.bool (p x)) ∧ Below W.heap.size W W') :
  Calls Try.prog 53 #[.slice A0 l0.length c0, .func (.func 54) #[] #[V]] w fun e w' => e = .returned (.int .i64 (idxP25 p l0 0)) ∧ Below w.heap.size w w' := by
 have hu := Try.underlying25
 have hm := hr0.2.1
 go_enter Try.func53, Try.ntmps53
 go_wp2
 go_loopw [8] (fun v wr => ∃ i : Nat, i ≤ l0.length ∧ v = .int .i64 i ∧ idxP25 p l0 0 = idxP25 p (l0.drop i) i ∧ Below w.heap.size w wr) (fun v _ => l0.length - (intOf v).toNat)
 case atStart => exact ⟨0, by omega, rfl, by simp, Below.refl _ _⟩
 case round =>
  obtain ⟨i, hi, rfl, he, hb⟩ := hrel
  by_cases hlt : i < l0.length
  ·obtain ⟨ad, rfl, h0, h1, h2, h3, h4⟩ := at_T25 (Kd.C_below hr0 hb) (i : Int) (by omega) (by omega)
   have hx : rd_T25 l0 (i : Int) = l0.getD i z25 := by unfold rd_T25; rw [Int.toNat_natCast]
   have hmem := getD_mem' l0 i z25 hlt
   rw [hx] at h0 h1 h2 h3 h4
   rw [getD_drop' l0 i z25 hlt] at he
   generalize l0.getD i z25 = x at h0 h1 h2 h3 h4 he hx hmem
   clear hx
   rw [Int.toNat_natCast] at h0 h1 h2 h3 h4
   cases hpx : p x with
   | true =>
    have hq := hp x wr hmem hb
    rw [hpx] at hq
    have he' := Aside0.mk he
    have hb' := Aside0.mk hb
    have hpx' := Aside0.mk hpx
    clear he hb hp hpx hmem
    go_wp2_with (go_at_call 54; refine hq.mono ?_; rintro e w1 ⟨rfl, hb1⟩)
    go_ret
    refine ⟨?_, hb'.out.trans (hb1.mono hb'.out.size)⟩
    rw [he'.out, idxP25, if_pos hpx'.out]
    rfl
   | false =>
    have hq := hp x wr hmem hb
    rw [hpx] at hq
    have he' := Aside0.mk he
    have hb' := Aside0.mk hb
    have hpx' := Aside0.mk hpx
    have hp' := Aside0.mk hp
    clear he hb hp hpx hmem
    go_wp2_with (go_at_call 54; refine hq.mono ?_; rintro e w1 ⟨rfl, hb1⟩)
    go_roundw
    case rel => exact ⟨i + 1, by omega, by go_num, by rw [he'.out, idxP25, hpx'.out]; rfl, hb'.out.trans (hb1.mono hb'.out.size)⟩
    case measure => simp [intOf]; omega
  ·have hd : l0.drop i = [] := List.drop_eq_nil_of_le (by omega)
   rw [hd] at he
   have he' := Aside0.mk he
   have hb' := Aside0.mk hb
   clear he hb hp hd
   go_wp2
   go_ret
   exact ⟨by rw [he'.out, idxP25]; rfl, hb'.out⟩

theorem leadIdClosure (x : S25) (q : Int) (b : Nat) (W : World) (h : W.cell? ⟨b, 0, none⟩ = some (.int .i64 q)) :
  Calls Try.prog 54 #[.agg #[.int .i64 x.f0, .int .i64 x.f1, .int .i64 x.f2, .int .i64 x.f3, .int .i64 x.f4], .pointer (some ⟨b, 0, none⟩)] W fun e W' => e = .returned (.bool (x.f0 == q)) ∧ Below W.heap.size W W' := by
 have hu := Try.underlying25
 have hl := World.block_lt_of_cell? W _ h
 go_enter Try.func54, Try.ntmps54
 go_wp2
 go_ret
 exact ⟨rfl, ((Below.refl _ W).alloc (Nat.le_refl _) _)⟩
def impl_xLeadId.f (l0 : List (S25)) (a1 : Int) : Option Int := some (idxP25 (fun x => x.f0 == a1) l0 0)
theorem impl_xLeadId.calls (A0 : Option Addr) (c0 : Nat) (l0 : List (S25)) (a1 r : Int) (w : World) (hr0 : Kd.C k25 w A0 l0.length l0) (hc0 : l0.length ≤ c0) (h : impl_xLeadId.f l0 a1 = some r) {b : Nat} (hcell : w.cell? ⟨b, 0, none⟩ = some (.int .i64 a1) := by first | assumption | simp) :
  Calls Try.prog 53 #[.slice A0 l0.length c0, .func (.func 54) #[] #[.pointer (some ⟨b, 0, none⟩)]] w fun e w' => e = .returned (.int .i64 r) ∧ Below w.heap.size w w' := by
 obtain rfl := Option.some.inj h
 have hl := World.block_lt_of_cell? w _ hcell
 exact IndexFunc_leadId (fun x => x.f0 == a1) (.pointer (some ⟨b, 0, none⟩)) A0 c0 l0 w hr0 hc0 (fun x W _ hB => leadIdClosure x a1 b W ((hB.cell hl).trans hcell))

/-! ### impl_ChangeLead: function 29 -/
def impl_ChangeLead.f (k : Nat) (l0 : List (S25)) (a1 : Int) (a2 : Int) : Option ((List (S25)) × Bool) := (impl_xLeadId.f l0 a1).bind fun t150 => ((impl_AreLeads.f k l0).bind fun t151 => (if t151 = true then (if t150 < 0 then (some (([] : List (S25)), false)) else ((impl_isState.f a2).bind fun t152 => (if t152 = true then (if 0 ≤ t150 then (if t150 < (l0.length : Int) then ((impl_canBecome.f ((rd_T25 l0 t150).f4) a2).bind fun t154 => (if t154 = true then ((impl_Lead_56.f l0).bind fun t155 => (if t150 < (t155.length : Int) then (some ((t155.set (t150 : Int).toNat (⟨(rd_T25 t155 t150).f0, (rd_T25 t155 t150).f1, (rd_T25 t155 t150).f2, (rd_T25 t155 t150).f3, a2⟩ : S25)), true)) else (none))) else (some (([] : List (S25)), false)))) else (none)) else (none)) else (some (([] : List (S25)), false))))) else (some (([] : List (S25)), false))))
theorem impl_ChangeLead.mono : ∀ a0 a1 a2 k, LeO (impl_ChangeLead.f k a0 a1 a2) (impl_ChangeLead.f (k + 1) a0 a1 a2) := by
  intro a0 a1 a2 k
  unfold impl_ChangeLead.f
  repeat' first
      | (with_reducible exact impl_AreLeads.mono _ _)
      | (with_reducible exact LeO.refl _)
      | (with_reducible exact LeO.none _)
      | (with_reducible refine LeO.ite ?_ ?_)
      | (with_reducible refine LeO.bind ?_ (fun _ => ?_))
      | exact impl_AreLeads.mono _ _
      | exact LeO.none _
      | refine LeO.ite ?_ ?_
      | refine LeO.bind ?_ (fun _ => ?_)
set_option maxHeartbeats 8000000 in
set_option maxRecDepth 100000 in
theorem impl_ChangeLead.calls (k : Nat) (A0 : Option Addr) (c0 : Nat) (l0 : List (S25)) (a1 : Int) (a2 : Int) (r1 : List (S25)) (r2 : Bool) (w : World) (hr0 : Kd.C k25 w A0 l0.length l0) (hc0 : l0.length ≤ c0) (h : impl_ChangeLead.f k l0 a1 a2 = some (r1, r2)) :
    Calls Try.prog 29 #[.slice A0 l0.length c0, .int .i64 a1, .int .i64 a2] w fun e w' => ∃ v0_ : Value, e = .returned (.tuple #[v0_, .bool r2]) ∧ Kd.R k25 25 w' w.heap.size (fun _ => True) v0_ r1 ∧ Below w.heap.size w w' := by
  have HR0 := Aside0.mk hr0
  have HC0 := Aside0.mk hc0
  clear hr0 hc0
  have HB := Aside0.mk (Below.refl w.heap.size w)
  have H : ((impl_xLeadId.f l0 a1).bind fun t150 => ((impl_AreLeads.f k l0).bind fun t151 => (if t151 = true then (if t150 < 0 then (some (([] : List (S25)), false)) else ((impl_isState.f a2).bind fun t152 => (if t152 = true then (if 0 ≤ t150 then (if t150 < (l0.length : Int) then ((impl_canBecome.f ((rd_T25 l0 t150).f4) a2).bind fun t154 => (if t154 = true then ((impl_Lead_56.f l0).bind fun t155 => (if t150 < (t155.length : Int) then (some ((t155.set (t150 : Int).toNat (⟨(rd_T25 t155 t150).f0, (rd_T25 t155 t150).f1, (rd_T25 t155 t150).f2, (rd_T25 t155 t150).f3, a2⟩ : S25)), true)) else (none))) else (some (([] : List (S25)), false)))) else (none)) else (none)) else (some (([] : List (S25)), false))))) else (some (([] : List (S25)), false))))) = some (r1, r2) := h
  clear h
  replace H := Option.bind_eq_some_iff.mp H
  obtain ⟨t150, A40, H⟩ := H
  replace H : ((impl_AreLeads.f k l0).bind fun t151 => (if t151 = true then (if t150 < 0 then (some (([] : List (S25)), false)) else ((impl_isState.f a2).bind fun t152 => (if t152 = true then (if 0 ≤ t150 then (if t150 < (l0.length : Int) then ((impl_canBecome.f ((rd_T25 l0 t150).f4) a2).bind fun t154 => (if t154 = true then ((impl_Lead_56.f l0).bind fun t155 => (if t150 < (t155.length : Int) then (some ((t155.set (t150 : Int).toNat (⟨(rd_T25 t155 t150).f0, (rd_T25 t155 t150).f1, (rd_T25 t155 t150).f2, (rd_T25 t155 t150).f3, a2⟩ : S25)), true)) else (none))) else (some (([] : List (S25)), false)))) else (none)) else (none)) else (some (([] : List (S25)), false))))) else (some (([] : List (S25)), false)))) = some (r1, r2) := H
  have A4 := Aside0.mk A40
  clear A40
  replace H := Option.bind_eq_some_iff.mp H
  obtain ⟨t151, A50, H⟩ := H
  replace H : (if t151 = true then (if t150 < 0 then (some (([] : List (S25)), false)) else ((impl_isState.f a2).bind fun t152 => (if t152 = true then (if 0 ≤ t150 then (if t150 < (l0.length : Int) then ((impl_canBecome.f ((rd_T25 l0 t150).f4) a2).bind fun t154 => (if t154 = true then ((impl_Lead_56.f l0).bind fun t155 => (if t150 < (t155.length : Int) then (some ((t155.set (t150 : Int).toNat (⟨(rd_T25 t155 t150).f0, (rd_T25 t155 t150).f1, (rd_T25 t155 t150).f2, (rd_T25 t155 t150).f3, a2⟩ : S25)), true)) else (none))) else (some (([] : List (S25)), false)))) else (none)) else (none)) else (some (([] : List (S25)), false))))) else (some (([] : List (S25)), false))) = some (r1, r2) := H
  have A5 := Aside0.mk A50
  clear A50
  by_cases c6 : t151 = true
  · subst c6
    have H1 : (if t150 < 0 then (some (([] : List (S25)), false)) else ((impl_isState.f a2).bind fun t152 => (if t152 = true then (if 0 ≤ t150 then (if t150 < (l0.length : Int) then ((impl_canBecome.f ((rd_T25 l0 t150).f4) a2).bind fun t154 => (if t154 = true then ((impl_Lead_56.f l0).bind fun t155 => (if t150 < (t155.length : Int) then (some ((t155.set (t150 : Int).toNat (⟨(rd_T25 t155 t150).f0, (rd_T25 t155 t150).f1, (rd_T25 t155 t150).f2, (rd_T25 t155 t150).f3, a2⟩ : S25)), true)) else (none))) else (some (([] : List (S25)), false)))) else (none)) else (none)) else (some (([] : List (S25)), false))))) = some (r1, r2) := by rw [if_pos rfl] at H; exact H
    clear H
    have H := H1
    clear H1
    by_cases c7 : t150 < 0
    · rw [if_pos c7] at H
      have c7b0 : decide (t150 < 0) = true := decide_eq_true c7
      clear c7
      simp only [Option.some.injEq, Prod.mk.injEq] at H
      obtain ⟨rfl, rfl⟩ := H
      go_enter Try.func29, Try.ntmps29
      go_wp2_with (first | ((with_reducible refine gate_callee (f := 53) rfl ?_); refine goesL_ (some 12) rfl rfl Try.func53 (by kernel_rfl) rfl #[.slice A0 l0.length c0, .func (.func 54) #[] #[.pointer (some ⟨w.heap.size, 0, none⟩)]] rfl argsB ?_; (with_reducible refine (impl_xLeadId.calls _ _ l0 a1 t150 _ ?side1 ?side2 A4.out).mono ?_); (case side1 => repeat (first | exact HR0.out | (with_reducible refine Kd.C_alloc ?_ _) | (with_reducible refine Kd.C_drewN ?_ _) | (with_reducible refine Kd.C_drew ?_))); (case side2 => exact HC0.out); rintro e w8 ⟨rfl, hb⟩; refine ⟨_, rfl, ?_⟩; have n0_ := Aside0.mk (below_step (upB HB.out) hb); clear HB; have HB := n0_; clear n0_; (try clear hb); (try clear hk)) | ((with_reducible refine gate_callee (f := 18) rfl ?_); refine goesL_ (some 14) rfl rfl Try.func18 (by kernel_rfl) rfl #[.slice A0 l0.length c0] rfl argsB ?_; (with_reducible refine (impl_AreLeads.calls k _ _ l0 true _ ?side1 ?side2 A5.out).mono ?_); (case side1 => repeat (first | exact (Kd.C_below HR0.out HB.out) | (with_reducible refine Kd.C_alloc ?_ _) | (with_reducible refine Kd.C_drewN ?_ _) | (with_reducible refine Kd.C_drew ?_))); (case side2 => exact HC0.out); rintro e w9 ⟨rfl, hb⟩; refine ⟨_, rfl, ?_⟩; have n0_ := Aside0.mk (below_step (upB HB.out) hb); clear HB; have HB := n0_; clear n0_; (try clear hb); (try clear hk)))
      go_ret2
      exact ⟨_, by first | rfl | (simp [errW_none, errW_some] <;> rfl) | (simp [*, errW_none, errW_some] <;> rfl), by first | exact Kd.R_nil _ _ _ _ _ | exact Kd.N_nil _ _ _ _ _ | exact Kd.V_nil _ _ _ _ _ | exact Kd.Q_nil _ _ _ _ _ | exact Kd.S_nil _ _ _ _ _, (upB HB.out)⟩
    · rw [if_neg c7] at H
      have c7b0 : decide (t150 < 0) = false := decide_eq_false c7
      clear c7
      replace H := Option.bind_eq_some_iff.mp H
      obtain ⟨t152, A100, H⟩ := H
      replace H : (if t152 = true then (if 0 ≤ t150 then (if t150 < (l0.length : Int) then ((impl_canBecome.f ((rd_T25 l0 t150).f4) a2).bind fun t154 => (if t154 = true then ((impl_Lead_56.f l0).bind fun t155 => (if t150 < (t155.length : Int) then (some ((t155.set (t150 : Int).toNat (⟨(rd_T25 t155 t150).f0, (rd_T25 t155 t150).f1, (rd_T25 t155 t150).f2, (rd_T25 t155 t150).f3, a2⟩ : S25)), true)) else (none))) else (some (([] : List (S25)), false)))) else (none)) else (none)) else (some (([] : List (S25)), false))) = some (r1, r2) := H
      have A10 := Aside0.mk A100
      clear A100
      by_cases c11 : t152 = true
      · subst c11
        have H1 : (if 0 ≤ t150 then (if t150 < (l0.length : Int) then ((impl_canBecome.f ((rd_T25 l0 t150).f4) a2).bind fun t154 => (if t154 = true then ((impl_Lead_56.f l0).bind fun t155 => (if t150 < (t155.length : Int) then (some ((t155.set (t150 : Int).toNat (⟨(rd_T25 t155 t150).f0, (rd_T25 t155 t150).f1, (rd_T25 t155 t150).f2, (rd_T25 t155 t150).f3, a2⟩ : S25)), true)) else (none))) else (some (([] : List (S25)), false)))) else (none)) else (none)) = some (r1, r2) := by rw [if_pos rfl] at H; exact H
        clear H
        have H := H1
        clear H1
        by_cases c12 : 0 ≤ t150
        · rw [if_pos c12] at H
          have c12b0 : decide (0 ≤ t150) = true := decide_eq_true c12
          clear c12
          by_cases c13 : t150 < (l0.length : Int)
          · rw [if_pos c13] at H
            have c13b0 : decide (t150 < (l0.length : Int)) = true := decide_eq_true c13
            clear c13
            replace H := Option.bind_eq_some_iff.mp H
            obtain ⟨t154, A140, H⟩ := H
            replace H : (if t154 = true then ((impl_Lead_56.f l0).bind fun t155 => (if t150 < (t155.length : Int) then (some ((t155.set (t150 : Int).toNat (⟨(rd_T25 t155 t150).f0, (rd_T25 t155 t150).f1, (rd_T25 t155 t150).f2, (rd_T25 t155 t150).f3, a2⟩ : S25)), true)) else (none))) else (some (([] : List (S25)), false))) = some (r1, r2) := H
            have A14 := Aside0.mk A140
            clear A140
            by_cases c15 : t154 = true
            · subst c15
              have H1 : ((impl_Lead_56.f l0).bind fun t155 => (if t150 < (t155.length : Int) then (some ((t155.set (t150 : Int).toNat (⟨(rd_T25 t155 t150).f0, (rd_T25 t155 t150).f1, (rd_T25 t155 t150).f2, (rd_T25 t155 t150).f3, a2⟩ : S25)), true)) else (none))) = some (r1, r2) := by rw [if_pos rfl] at H; exact H
              clear H
              have H := H1
              clear H1
              replace H := Option.bind_eq_some_iff.mp H
              obtain ⟨t155, A160, H⟩ := H
              replace H : (if t150 < (t155.length : Int) then (some ((t155.set (t150 : Int).toNat (⟨(rd_T25 t155 t150).f0, (rd_T25 t155 t150).f1, (rd_T25 t155 t150).f2, (rd_T25 t155 t150).f3, a2⟩ : S25)), true)) else (none)) = some (r1, r2) := H
              have A16 := Aside0.mk A160
              clear A160
              by_cases c17 : t150 < (t155.length : Int)
              · rw [if_pos c17] at H
                have c17b0 : decide (t150 < (t155.length : Int)) = true := decide_eq_true c17
                clear c17
                obtain ⟨y158, hy158⟩ : ∃ y_ : List (S25), y_ = (t155.set (t150 : Int).toNat (⟨(rd_T25 t155 t150).f0, (rd_T25 t155 t150).f1, (rd_T25 t155 t150).f2, (rd_T25 t155 t150).f3, a2⟩ : S25)) := ⟨_, rfl⟩
                replace H : (some (y158, true)) = some (r1, r2) := by first | (rw [hy158]; with_reducible exact H) | (have H2_ := (Option.bind_some _ _).symm.trans H; rw [hy158]; with_reducible exact H2_) | (have H2_ := (Option.bind_some _ _).symm.trans H; with_reducible exact H2_) | with_reducible exact H | (rw [hy158]; exact H) | exact H
                have Ny158 := Aside0.mk hy158
                clear hy158
                simp only [Option.some.injEq, Prod.mk.injEq] at H
                obtain ⟨rfl, rfl⟩ := H
                go_enter Try.func29, Try.ntmps29
                go_wp2_with (first | ((with_reducible refine gate_callee (f := 53) rfl ?_); refine goesL_ (some 12) rfl rfl Try.func53 (by kernel_rfl) rfl #[.slice A0 l0.length c0, .func (.func 54) #[] #[.pointer (some ⟨w.heap.size, 0, none⟩)]] rfl argsB ?_; (with_reducible refine (impl_xLeadId.calls _ _ l0 a1 t150 _ ?side1 ?side2 A4.out).mono ?_); (case side1 => repeat (first | exact HR0.out | (with_reducible refine Kd.C_alloc ?_ _) | (with_reducible refine Kd.C_drewN ?_ _) | (with_reducible refine Kd.C_drew ?_))); (case side2 => exact HC0.out); rintro e w19 ⟨rfl, hb⟩; refine ⟨_, rfl, ?_⟩; have n0_ := Aside0.mk (below_step (upB HB.out) hb); clear HB; have HB := n0_; clear n0_; (try clear hb); (try clear hk)) | ((with_reducible refine gate_callee (f := 18) rfl ?_); refine goesL_ (some 14) rfl rfl Try.func18 (by kernel_rfl) rfl #[.slice A0 l0.length c0] rfl argsB ?_; (with_reducible refine (impl_AreLeads.calls k _ _ l0 true _ ?side1 ?side2 A5.out).mono ?_); (case side1 => repeat (first | exact (Kd.C_below HR0.out HB.out) | (with_reducible refine Kd.C_alloc ?_ _) | (with_reducible refine Kd.C_drewN ?_ _) | (with_reducible refine Kd.C_drew ?_))); (case side2 => exact HC0.out); rintro e w20 ⟨rfl, hb⟩; refine ⟨_, rfl, ?_⟩; have n0_ := Aside0.mk (below_step (upB HB.out) hb); clear HB; have HB := n0_; clear n0_; (try clear hb); (try clear hk)) | (go_at_call 47; (with_reducible refine (impl_isState.calls a2 true _ A10.out).mono ?_); rintro e w' ⟨rfl, ⟨nd, rfl⟩⟩; (try (rw [drewN_self w20]; generalize hq_ : World.drewN w20 _ = w20; have n0_ : Aside0 (Below w.heap.size w w20) := ⟨by rw [← hq_]; exact (upB HB.out)⟩; clear HB hq_; have HB := n0_; clear n0_)); have p153 : 0 ≤ (t150 : Int) := of_decide_eq_true asmB; have q153 : t150 < (l0.length : Int) := of_decide_eq_true asmB; obtain ⟨ad153, e153, hx153_0, hx153_1, hx153_2, hx153_3, hx153_4⟩ := at_T25 HR0.out t150 p153 q153; cases e153; replace hx153_0 := bx HB.out hx153_0; replace hx153_1 := bx HB.out hx153_1; replace hx153_2 := bx HB.out hx153_2; replace hx153_3 := bx HB.out hx153_3; replace hx153_4 := bx HB.out hx153_4; replace p153 := eq_true p153; replace q153 := eq_true q153) | (go_at_call 55; (with_reducible refine (impl_canBecome.calls ((rd_T25 l0 t150).f4) a2 true _ A14.out).mono ?_); rintro e w' ⟨rfl, ⟨nd, rfl⟩⟩; (try (rw [drewN_self w20]; generalize hq_ : World.drewN w20 _ = w20; have n0_ : Aside0 (Below w.heap.size w w20) := ⟨by rw [← hq_]; exact (upB HB.out)⟩; clear HB hq_; have HB := n0_; clear n0_))) | ((with_reducible refine gate_callee (f := 56) rfl ?_); refine goesL_ (some 36) rfl rfl Try.func56 (by kernel_rfl) rfl #[.slice (some ad153) l0.length c0] rfl argsB ?_; (with_reducible refine (impl_Lead_56.calls _ _ l0 t155 _ ?side1 ?side2 A16.out).mono ?_); (case side1 => repeat (first | exact (Kd.C_below HR0.out HB.out) | (with_reducible refine Kd.C_alloc ?_ _) | (with_reducible refine Kd.C_drewN ?_ _) | (with_reducible refine Kd.C_drew ?_))); (case side2 => exact HC0.out); rintro e w21 ⟨v156, rfl, ho0, hb⟩; refine ⟨_, rfl, ?_⟩; have n0_ := Aside0.mk (Kd.R_lower ho0 (below_size (upB HB.out))); have n1_ := Aside0.mk (below_step (upB HB.out) hb); clear HB; have HO157 := n0_; have HB := n1_; clear n0_ n1_; (try clear hb); (try clear hk); (try clear ho0); have p18 : 0 ≤ (t150 : Int) := of_decide_eq_true asmB; have q18 : (t150 : Int) < ((t155.length : Int) : Int) := of_decide_eq_true asmB; obtain ⟨go18, co18, eo18, gb18, gl18, cl18, HG18⟩ := Kd.R_form HO157.out (by omega); (first | cases eo18 | (injection eo18 with ea_ en_ ec_; (first | subst ea_ | (injection ea_ with ea_; subst ea_)); subst ec_; clear en_)); have GB18 := Aside0.mk gb18; have GG18 := Aside0.mk HG18; clear gb18 gl18 HG18; obtain ⟨ce18, hcl18, hM18, hcc18, hfr18⟩ := Kd.R_elem HO157.out z25 (t150 : Int) p18 q18; obtain rfl := k25_openM hM18; have hx18_0 : w21.cell? ⟨go18, (t150 : Int).toNat * 5, none⟩ = some (.int .i64 ((rd_T25 t155 t150).f0)) := hcc18 0 _ rfl; have hx18_1 : w21.cell? ⟨go18, (t150 : Int).toNat * 5 + 1, none⟩ = some (.int .i64 ((rd_T25 t155 t150).f1)) := hcc18 1 _ rfl; have hx18_2 : w21.cell? ⟨go18, (t150 : Int).toNat * 5 + 2, none⟩ = some (.int .i64 ((rd_T25 t155 t150).f2)) := hcc18 2 _ rfl; have hx18_3 : w21.cell? ⟨go18, (t150 : Int).toNat * 5 + 3, none⟩ = some (.int .i64 ((rd_T25 t155 t150).f3)) := hcc18 3 _ rfl; have hx18_4 : w21.cell? ⟨go18, (t150 : Int).toNat * 5 + 4, none⟩ = some (.int .i64 ((rd_T25 t155 t150).f4)) := hcc18 4 _ rfl; have hf18_0 : w21.frozen? ⟨go18, (t150 : Int).toNat * 5, none⟩ = false := hfr18 0; have hf18_1 : w21.frozen? ⟨go18, (t150 : Int).toNat * 5 + 1, none⟩ = false := hfr18 1; have hf18_2 : w21.frozen? ⟨go18, (t150 : Int).toNat * 5 + 2, none⟩ = false := hfr18 2; have hf18_3 : w21.frozen? ⟨go18, (t150 : Int).toNat * 5 + 3, none⟩ = false := hfr18 3; have hf18_4 : w21.frozen? ⟨go18, (t150 : Int).toNat * 5 + 4, none⟩ = false := hfr18 4; clear hcl18 hcc18 hfr18 hM18; replace p18 := eq_true p18; replace q18 := eq_true q18; have HX22 := Aside0.mk (show Kd.R k25 25 w21 w.heap.size (fun _ => True) (.slice (some ⟨go18, 0, none⟩) t155.length co18) t155 from (upR HO157.out)); obtain ⟨ce22, hcl22, hM22, hcc22, hfr22⟩ := Kd.R_elem HX22.out z25 (t150 : Int) (of_decide_eq_true asmB) (by have h_ : (t150 : Int) < ((t155.length : Int) : Int) := of_decide_eq_true asmB; first | exact h_ | (have e_ := (Kd.R_reads' HO157.out).1; omega) | simpa using h_); obtain rfl := k25_openM hM22; have HP22 := Kd.R_seg HX22.out (t150 : Int) (of_decide_eq_true asmB) (by have h_ : (t150 : Int) < ((t155.length : Int) : Int) := of_decide_eq_true asmB; first | exact h_ | (have e_ := (Kd.R_reads' HO157.out).1; omega) | simpa using h_) (seg := [.int .i64 a2]) (j := 4) hcl22 hcc22 (show 5 ≤ 5 from by decide) (x' := (⟨(rd_T25 t155 t150).f0, (rd_T25 t155 t150).f1, (rd_T25 t155 t150).f2, (rd_T25 t155 t150).f3, a2⟩ : S25)) (k25_mkM _ _ _ (⟨(rd_T25 t155 t150).f0, (rd_T25 t155 t150).f1, (rd_T25 t155 t150).f2, (rd_T25 t155 t150).f3, a2⟩ : S25) ) (fun _ hk => hk); have hx22_4 := hcc22 4 _ rfl; (try simp only [show (k25).sz = 5 from rfl, Nat.mul_one, Nat.add_zero] at hx22_4); have hf22_4 := hfr22 4; (try simp only [show (k25).sz = 5 from rfl, Nat.mul_one, Nat.add_zero] at hf22_4); clear hcl22 hcc22 hfr22 hM22) | ((with_reducible refine gate_store (t := 3) (p := 41) rfl ?_); refine store_event (t := 3) (p := 41) (v := ?vo_w23) (w1 := (w21.setCell ⟨go18, (t150 : Int).toNat * 5 + 4, none⟩ (.int .i64 a2))) ?hg ?ho ?hn ?hr ?_; (case ho => rfl); (case hg => rfl); (case hn => rfl); (case hr => first | (go_simp; done) | (go_simp; rfl)); intro w23 hw; have hg : w21.grownBy w23 (some go18) := (by rw [hw]; exact HP22.2); have hp_ : Kd.R k25 25 w23 w.heap.size (fun _ => True) (.slice (some ⟨go18, 0, none⟩) t155.length co18) y158 := (by rw [hw, Ny158.out]; exact HP22.1); clear HP22; have n0_ := Aside0.mk (hp_); have n1_ := Aside0.mk ((by rw [hw]; exact below_set (HB.out) GB18.out : Below w.heap.size w w23)); clear HO157; clear HB; have HO157 := n0_; have HB := n1_; clear n0_ n1_; clear hg hw hp_))
                go_ret2
                exact ⟨_, by first | rfl | (simp [errW_none, errW_some] <;> rfl) | (simp [*, errW_none, errW_some] <;> rfl), by (with_reducible repeat (first | apply Kd.R_alloc | apply Kd.R_drewN | apply Kd.R_drew)); exact HO157.out, (upB HB.out)⟩
              · rw [if_neg c17] at H
                exact absurd H (by simp)
            · replace c15 := Bool.eq_false_iff.mpr c15
              subst c15
              have H1 : (some (([] : List (S25)), false)) = some (r1, r2) := by rw [if_neg (show ¬ (false = true) by decide)] at H; exact H
              clear H
              have H := H1
              clear H1
              simp only [Option.some.injEq, Prod.mk.injEq] at H
              obtain ⟨rfl, rfl⟩ := H
              go_enter Try.func29, Try.ntmps29
              go_wp2_with (first | ((with_reducible refine gate_callee (f := 53) rfl ?_); refine goesL_ (some 12) rfl rfl Try.func53 (by kernel_rfl) rfl #[.slice A0 l0.length c0, .func (.func 54) #[] #[.pointer (some ⟨w.heap.size, 0, none⟩)]] rfl argsB ?_; (with_reducible refine (impl_xLeadId.calls _ _ l0 a1 t150 _ ?side1 ?side2 A4.out).mono ?_); (case side1 => repeat (first | exact HR0.out | (with_reducible refine Kd.C_alloc ?_ _) | (with_reducible refine Kd.C_drewN ?_ _) | (with_reducible refine Kd.C_drew ?_))); (case side2 => exact HC0.out); rintro e w24 ⟨rfl, hb⟩; refine ⟨_, rfl, ?_⟩; have n0_ := Aside0.mk (below_step (upB HB.out) hb); clear HB; have HB := n0_; clear n0_; (try clear hb); (try clear hk)) | ((with_reducible refine gate_callee (f := 18) rfl ?_); refine goesL_ (some 14) rfl rfl Try.func18 (by kernel_rfl) rfl #[.slice A0 l0.length c0] rfl argsB ?_; (with_reducible refine (impl_AreLeads.calls k _ _ l0 true _ ?side1 ?side2 A5.out).mono ?_); (case side1 => repeat (first | exact (Kd.C_below HR0.out HB.out) | (with_reducible refine Kd.C_alloc ?_ _) | (with_reducible refine Kd.C_drewN ?_ _) | (with_reducible refine Kd.C_drew ?_))); (case side2 => exact HC0.out); rintro e w25 ⟨rfl, hb⟩; refine ⟨_, rfl, ?_⟩; have n0_ := Aside0.mk (below_step (upB HB.out) hb); clear HB; have HB := n0_; clear n0_; (try clear hb); (try clear hk)) | (go_at_call 47; (with_reducible refine (impl_isState.calls a2 true _ A10.out).mono ?_); rintro e w' ⟨rfl, ⟨nd, rfl⟩⟩; have p153 : 0 ≤ (t150 : Int) := of_decide_eq_true asmB; have q153 : t150 < (l0.length : Int) := of_decide_eq_true asmB; obtain ⟨ad153, e153, hx153_0, hx153_1, hx153_2, hx153_3, hx153_4⟩ := at_T25 HR0.out t150 p153 q153; cases e153; replace hx153_0 := bx HB.out hx153_0; replace hx153_1 := bx HB.out hx153_1; replace hx153_2 := bx HB.out hx153_2; replace hx153_3 := bx HB.out hx153_3; replace hx153_4 := bx HB.out hx153_4; replace p153 := eq_true p153; replace q153 := eq_true q153) | (go_at_call 55; (with_reducible refine (impl_canBecome.calls ((rd_T25 l0 t150).f4) a2 false _ A14.out).mono ?_); rintro e w' ⟨rfl, ⟨nd, rfl⟩⟩))
              go_ret2
              exact ⟨_, by first | rfl | (simp [errW_none, errW_some] <;> rfl) | (simp [*, errW_none, errW_some] <;> rfl), by first | exact Kd.R_nil _ _ _ _ _ | exact Kd.N_nil _ _ _ _ _ | exact Kd.V_nil _ _ _ _ _ | exact Kd.Q_nil _ _ _ _ _ | exact Kd.S_nil _ _ _ _ _, (upB HB.out)⟩
          · rw [if_neg c13] at H
            exact absurd H (by simp)
        · rw [if_neg c12] at H
          exact absurd H (by simp)
      · replace c11 := Bool.eq_false_iff.mpr c11
        subst c11
        have H1 : (some (([] : List (S25)), false)) = some (r1, r2) := by rw [if_neg (show ¬ (false = true) by decide)] at H; exact H
        clear H
        have H := H1
        clear H1
        simp only [Option.some.injEq, Prod.mk.injEq] at H
        obtain ⟨rfl, rfl⟩ := H
        go_enter Try.func29, Try.ntmps29
        go_wp2_with (first | ((with_reducible refine gate_callee (f := 53) rfl ?_); refine goesL_ (some 12) rfl rfl Try.func53 (by kernel_rfl) rfl #[.slice A0 l0.length c0, .func (.func 54) #[] #[.pointer (some ⟨w.heap.size, 0, none⟩)]] rfl argsB ?_; (with_reducible refine (impl_xLeadId.calls _ _ l0 a1 t150 _ ?side1 ?side2 A4.out).mono ?_); (case side1 => repeat (first | exact HR0.out | (with_reducible refine Kd.C_alloc ?_ _) | (with_reducible refine Kd.C_drewN ?_ _) | (with_reducible refine Kd.C_drew ?_))); (case side2 => exact HC0.out); rintro e w26 ⟨rfl, hb⟩; refine ⟨_, rfl, ?_⟩; have n0_ := Aside0.mk (below_step (upB HB.out) hb); clear HB; have HB := n0_; clear n0_; (try clear hb); (try clear hk)) | ((with_reducible refine gate_callee (f := 18) rfl ?_); refine goesL_ (some 14) rfl rfl Try.func18 (by kernel_rfl) rfl #[.slice A0 l0.length c0] rfl argsB ?_; (with_reducible refine (impl_AreLeads.calls k _ _ l0 true _ ?side1 ?side2 A5.out).mono ?_); (case side1 => repeat (first | exact (Kd.C_below HR0.out HB.out) | (with_reducible refine Kd.C_alloc ?_ _) | (with_reducible refine Kd.C_drewN ?_ _) | (with_reducible refine Kd.C_drew ?_))); (case side2 => exact HC0.out); rintro e w27 ⟨rfl, hb⟩; refine ⟨_, rfl, ?_⟩; have n0_ := Aside0.mk (below_step (upB HB.out) hb); clear HB; have HB := n0_; clear n0_; (try clear hb); (try clear hk)) | (go_at_call 47; (with_reducible refine (impl_isState.calls a2 false _ A10.out).mono ?_); rintro e w' ⟨rfl, ⟨nd, rfl⟩⟩))
        go_ret2
        exact ⟨_, by first | rfl | (simp [errW_none, errW_some] <;> rfl) | (simp [*, errW_none, errW_some] <;> rfl), by first | exact Kd.R_nil _ _ _ _ _ | exact Kd.N_nil _ _ _ _ _ | exact Kd.V_nil _ _ _ _ _ | exact Kd.Q_nil _ _ _ _ _ | exact Kd.S_nil _ _ _ _ _, (upB HB.out)⟩
  · replace c6 := Bool.eq_false_iff.mpr c6
    subst c6
    have H1 : (some (([] : List (S25)), false)) = some (r1, r2) := by rw [if_neg (show ¬ (false = true) by decide)] at H; exact H
    clear H
    have H := H1
    clear H1
    simp only [Option.some.injEq, Prod.mk.injEq] at H
    obtain ⟨rfl, rfl⟩ := H
    go_enter Try.func29, Try.ntmps29
    go_wp2_with (first | ((with_reducible refine gate_callee (f := 53) rfl ?_); refine goesL_ (some 12) rfl rfl Try.func53 (by kernel_rfl) rfl #[.slice A0 l0.length c0, .func (.func 54) #[] #[.pointer (some ⟨w.heap.size, 0, none⟩)]] rfl argsB ?_; (with_reducible refine (impl_xLeadId.calls _ _ l0 a1 t150 _ ?side1 ?side2 A4.out).mono ?_); (case side1 => repeat (first | exact HR0.out | (with_reducible refine Kd.C_alloc ?_ _) | (with_reducible refine Kd.C_drewN ?_ _) | (with_reducible refine Kd.C_drew ?_))); (case side2 => exact HC0.out); rintro e w28 ⟨rfl, hb⟩; refine ⟨_, rfl, ?_⟩; have n0_ := Aside0.mk (below_step (upB HB.out) hb); clear HB; have HB := n0_; clear n0_; (try clear hb); (try clear hk)) | ((with_reducible refine gate_callee (f := 18) rfl ?_); refine goesL_ (some 14) rfl rfl Try.func18 (by kernel_rfl) rfl #[.slice A0 l0.length c0] rfl argsB ?_; (with_reducible refine (impl_AreLeads.calls k _ _ l0 false _ ?side1 ?side2 A5.out).mono ?_); (case side1 => repeat (first | exact (Kd.C_below HR0.out HB.out) | (with_reducible refine Kd.C_alloc ?_ _) | (with_reducible refine Kd.C_drewN ?_ _) | (with_reducible refine Kd.C_drew ?_))); (case side2 => exact HC0.out); rintro e w29 ⟨rfl, hb⟩; refine ⟨_, rfl, ?_⟩; have n0_ := Aside0.mk (below_step (upB HB.out) hb); clear HB; have HB := n0_; clear n0_; (try clear hb); (try clear hk)))
    go_ret2
    exact ⟨_, by first | rfl | (simp [errW_none, errW_some] <;> rfl) | (simp [*, errW_none, errW_some] <;> rfl), by first | exact Kd.R_nil _ _ _ _ _ | exact Kd.N_nil _ _ _ _ _ | exact Kd.V_nil _ _ _ _ _ | exact Kd.Q_nil _ _ _ _ _ | exact Kd.S_nil _ _ _ _ _, (upB HB.out)⟩

/-! ### spec_l18Worth: function 65 -/
def spec_l18Worth.f (a0_0 a0_1 a0_2 a0_3 a0_4 : Int) : Option (Int) := some (wrap64 ((wrap64 (3 * a0_2)) + a0_3))
set_option maxHeartbeats 8000000 in
set_option maxRecDepth 100000 in
theorem spec_l18Worth.calls (a0_0 a0_1 a0_2 a0_3 a0_4 r : Int) (w : World) (h : spec_l18Worth.f a0_0 a0_1 a0_2 a0_3 a0_4 = some r) :
  Calls Try.prog 65 #[.agg #[.int .i64 a0_0, .int .i64 a0_1, .int .i64 a0_2, .int .i64 a0_3, .int .i64 a0_4]] w fun e w' => e = .returned (.int .i64 r) ∧ Below w.heap.size w w' := by
 have hu25 := Try.underlying25
 have HB := Aside0.mk (Below.refl w.heap.size w)
 have H : (some (wrap64 ((wrap64 (3 * a0_2)) + a0_3))) = some r := h
 clear h
 obtain rfl := Option.some.inj H
 go_enter Try.func65, Try.ntmps65
 go_wp2_with (first | ((with_reducible refine gD 1 ?_); refine bxE 1 25 #[.int .i64 a0_0, .int .i64 a0_1, .int .i64 a0_2, .int .i64 a0_3, .int .i64 a0_4] fun gb159 w2 hg hbox hb => ?_; have BK159 := Aside0.mk hbox; have GE159 := gB HB hg; replace HB := uB HB hb; clear hb hbox hg; have ⟨hcz3_0, hcz3_1, hcz3_2, hcz3_3, hcz3_4, hfz3_0⟩ := cz5 BK159))
 go_ret
 exact ⟨eB, (bW HB)⟩

/-! ### spec_xIns: region 9 of function 57 -/
def spec_xIns.f (l0 : List Int) (a1 a2 : Int) : Option (List Int) := (some (([] : List Int) : List Int)).bind fun y160 => (if 0 ≤ a2 then (if a2 ≤ (l0.length : Int) then (if y160.length + (l0.take (a2 : Int).toNat).length < 17592186044416 then ((some (y160 ++ (l0.take (a2 : Int).toNat) : List Int)).bind fun y164 => ((some (([a1] : List Int) : List Int)).bind fun y167 => (if y164.length + y167.length < 17592186044416 then ((some (y164 ++ y167 : List Int)).bind fun y170 => (if y170.length + (l0.drop (a2 : Int).toNat).length < 17592186044416 then (some (y170 ++ (l0.drop (a2 : Int).toNat))) else (none))) else (none)))) else (none)) else (none)) else (none))
def spec_xIns.T1 : Bool × List (List Nat × List Nat) := (true, [([], []), ([], []), ([], []), ([1, 2], [1, 2]), ([0, 3], [0, 3]), ([], []), ([5], [5]), ([4, 6, 4], [4, 6]), ([], []), ([], []), ([8, 9], [8, 9]), ([7, 10, 7], [7, 10]), ([11, 11, 0, 1, 2, 3, 4, 5, 6, 7, 8, 9, 10, 11], [1, 8, 11])])
def spec_xIns.B1 : List Nat := [0, 0, 0, 6, 15, 0, 32, 127, 0, 0, 768, 2047, 4095]
theorem spec_xIns.tab1 : rtab .any (opsOf Try.f57 9) = spec_xIns.T1 := by kernel_rfl
theorem spec_xIns.bits1 : waitsOk spec_xIns.T1.2 spec_xIns.B1 = true := by kernel_rfl
theorem C_len_ {α : Type} {d : Kd α} {W : World} {A : Option Addr} {m n : Nat} {xs : List α} (e : m = n) (h : Kd.C d W A m xs) : Kd.C d W A n xs := e ▸ h
set_option maxHeartbeats 8000000 in
set_option maxRecDepth 100000 in
theorem spec_xIns.region (A0 : Option Addr) (c0 : Nat) (l0 : List Int) (a1 a2 : Int) (r : List Int) (w : World) (hr0 : Kd.C (Kd.int .i64) w A0 l0.length l0) (hc0 : l0.length ≤ c0) (h : spec_xIns.f l0 a1 a2 = some r) {Q : Exit → Act → World → Prop} {x0_ x1_ x2_ x6_ x7_ x8_ x9_ x10_ x11_ x12_ x13_ x14_ x15_ x16_ x17_ x18_ x19_ x20_ x21_ x22_ x23_ x24_ x25_ x26_ x27_ x28_ x29_ x30_ x31_ x32_ x33_ x34_ x35_ x36_ x37_ x38_ x39_ x40_ x41_ x42_ x43_ x44_ x45_ x46_ x47_ x48_ x49_ x50_ x51_ x52_ x53_ x54_ : Value} {ds_ : _} (hP : ∀ c_ (a_ : Act) w_ (d_ : Tmp) v_, Q (.panic c_) (a_.put (some d_) v_) w_ → Q (.panic c_) a_ w_)
  (hQ : ∀ {y42_ y43_ y44_ y45_ y46_ y47_ y48_ y49_ y50_ y51_ y52_ y53_ v0_ : Value} {w' : World}, Kd.R (Kd.int .i64) 3 w' w.heap.size (fun _ => True) v0_ r → Below w.heap.size w w' → Q .normal { tmps := #[x0_, x1_, x2_, v0_, .int .i64 a1, .int .i64 a2, x6_, x7_, x8_, x9_, x10_, x11_, x12_, x13_, x14_, x15_, x16_, x17_, x18_, x19_, x20_, x21_, x22_, x23_, x24_, x25_, x26_, x27_, x28_, x29_, x30_, x31_, x32_, x33_, x34_, x35_, x36_, x37_, x38_, x39_, x40_, x41_, y42_, y43_, y44_, y45_, y46_, y47_, y48_, y49_, y50_, y51_, y52_, y53_, x54_], defers := ds_ } w') :
  (Code.region 9 #[{ dst := some 42, op := Op.buildSlice 35 0 #[], type := 35, pos := "l18_leads.go:68", after := #[], guard := none }, { dst := some 43, op := Op.move (Operand.tmp 3), type := 35, pos := "l18_leads.go:68", after := #[], guard := none }, { dst := some 44, op := Op.move (Operand.tmp 5), type := 3, pos := "l18_leads.go:68", after := #[], guard := none }, { dst := some 45, op := Op.slice 35 (Operand.tmp 43) none (some (Operand.tmp 44)) none, type := 35, pos := "l18_leads.go:68", after := #[{ on := 1, ground := Ground.data }, { on := 2, ground := Ground.data }], guard := none }, { dst := some 46, op := Op.call { callee := Callee.builtin Builtin.append, args := #[Operand.tmp 42, Operand.tmp 45], argTypes := #[35, 35] }, type := 35, pos := "l18_leads.go:68", after := #[{ on := 0, ground := Ground.data }, { on := 3, ground := Ground.data }], guard := none }, { dst := some 47, op := Op.move (Operand.tmp 4), type := 3, pos := "l18_leads.go:68", after := #[], guard := none }, { dst := some 48, op := Op.buildSlice 35 1 #[(0, Operand.tmp 47)], type := 35, pos := "l18_leads.go:68", after := #[{ on := 5, ground := Ground.data }], guard := none }, { dst := some 49, op := Op.call { callee := Callee.builtin Builtin.append, args := #[Operand.tmp 46, Operand.tmp 48], argTypes := #[35, 35] }, type := 35, pos := "l18_leads.go:68", after := #[{ on := 4, ground := Ground.data }, { on := 6, ground := Ground.data }, { on := 4, ground := Ground.chain }], guard := none }, { dst := some 50, op := Op.move (Operand.tmp 3), type := 35, pos := "l18_leads.go:68", after := #[], guard := none }, { dst := some 51, op := Op.move (Operand.tmp 5), type := 3, pos := "l18_leads.go:68", after := #[], guard := none }, { dst := some 52, op := Op.slice 35 (Operand.tmp 50) (some (Operand.tmp 51)) none none, type := 35, pos := "l18_leads.go:68", after := #[{ on := 8, ground := Ground.data }, { on := 9, ground := Ground.data }], guard := none }, { dst := some 53, op := Op.call { callee := Callee.builtin Builtin.append, args := #[Operand.tmp 49, Operand.tmp 52], argTypes := #[35, 35] }, type := 35, pos := "l18_leads.go:68", after := #[{ on := 7, ground := Ground.data }, { on := 10, ground := Ground.data }, { on := 7, ground := Ground.chain }], guard := none }, { dst := some 3, op := Op.assign (Operand.tmp 53), type := 35, pos := "l18_leads.go:68", after := #[{ on := 11, ground := Ground.data }, { on := 11, ground := Ground.chain }, { on := 0, ground := Ground.phase }, { on := 1, ground := Ground.phase }, { on := 2, ground := Ground.phase }, { on := 3, ground := Ground.phase }, { on := 4, ground := Ground.phase }, { on := 5, ground := Ground.phase }, { on := 6, ground := Ground.phase }, { on := 7, ground := Ground.phase }, { on := 8, ground := Ground.phase }, { on := 9, ground := Ground.phase }, { on := 10, ground := Ground.phase }, { on := 11, ground := Ground.phase }], guard := none }] true).wp Try.prog Q { tmps := #[x0_, x1_, x2_, .slice A0 l0.length c0, .int .i64 a1, .int .i64 a2, x6_, x7_, x8_, x9_, x10_, x11_, x12_, x13_, x14_, x15_, x16_, x17_, x18_, x19_, x20_, x21_, x22_, x23_, x24_, x25_, x26_, x27_, x28_, x29_, x30_, x31_, x32_, x33_, x34_, x35_, x36_, x37_, x38_, x39_, x40_, x41_, x42_, x43_, x44_, x45_, x46_, x47_, x48_, x49_, x50_, x51_, x52_, x53_, x54_], defers := ds_ } w := by
 have HR0 := Aside0.mk hr0
 have HC0 := Aside0.mk hc0
 clear hr0 hc0
 have HB := Aside0.mk (Below.refl w.heap.size w)
 have H : ((some (([] : List Int) : List Int)).bind fun y160 => (if 0 ≤ a2 then (if a2 ≤ (l0.length : Int) then (if y160.length + (l0.take (a2 : Int).toNat).length < 17592186044416 then ((some (y160 ++ (l0.take (a2 : Int).toNat) : List Int)).bind fun y164 => ((some (([a1] : List Int) : List Int)).bind fun y167 => (if y164.length + y167.length < 17592186044416 then ((some (y164 ++ y167 : List Int)).bind fun y170 => (if y170.length + (l0.drop (a2 : Int).toNat).length < 17592186044416 then (some (y170 ++ (l0.drop (a2 : Int).toNat))) else (none))) else (none)))) else (none)) else (none)) else (none))) = some r := h
 clear h
 obtain ⟨y160, hy160⟩ : ∃ y_ : List Int, y_ = (([] : List Int)) := ⟨_, rfl⟩
 replace H : (if 0 ≤ a2 then (if a2 ≤ (l0.length : Int) then (if y160.length + (l0.take (a2 : Int).toNat).length < 17592186044416 then ((some (y160 ++ (l0.take (a2 : Int).toNat) : List Int)).bind fun y164 => ((some (([a1] : List Int) : List Int)).bind fun y167 => (if y164.length + y167.length < 17592186044416 then ((some (y164 ++ y167 : List Int)).bind fun y170 => (if y170.length + (l0.drop (a2 : Int).toNat).length < 17592186044416 then (some (y170 ++ (l0.drop (a2 : Int).toNat))) else (none))) else (none)))) else (none)) else (none)) else (none)) = some r := by first | (rw [hy160]; with_reducible exact H) | (have H2_ := (Option.bind_some _ _).symm.trans H; rw [hy160]; with_reducible exact H2_) | (have H2_ := (Option.bind_some _ _).symm.trans H; with_reducible exact H2_) | with_reducible exact H | (rw [hy160]; exact H) | exact H
 have Ny160 := Aside0.mk hy160
 clear hy160
 by_cases c4 : 0 ≤ a2
 ·rw [if_pos c4] at H
  have c4b0 := eq_true c4
  have c4b1 : decide (0 ≤ a2) = true := decide_eq_true c4
  clear c4
  by_cases c5 : a2 ≤ (l0.length : Int)
  ·rw [if_pos c5] at H
   have c5b0 := eq_true c5
   have c5b1 : decide (a2 ≤ (l0.length : Int)) = true := decide_eq_true c5
   clear c5
   by_cases c6 : y160.length + (l0.take (a2 : Int).toNat).length < 17592186044416
   ·rw [if_pos c6] at H
    have LMc6 := Aside0.mk c6
    clear c6
    obtain ⟨y164, hy164⟩ : ∃ y_ : List Int, y_ = (y160 ++ (l0.take (a2 : Int).toNat)) := ⟨_, rfl⟩
    replace H : ((some (([a1] : List Int) : List Int)).bind fun y167 => (if y164.length + y167.length < 17592186044416 then ((some (y164 ++ y167 : List Int)).bind fun y170 => (if y170.length + (l0.drop (a2 : Int).toNat).length < 17592186044416 then (some (y170 ++ (l0.drop (a2 : Int).toNat))) else (none))) else (none))) = some r := by first | (rw [hy164]; with_reducible exact H) | (have H2_ := (Option.bind_some _ _).symm.trans H; rw [hy164]; with_reducible exact H2_) | (have H2_ := (Option.bind_some _ _).symm.trans H; with_reducible exact H2_) | with_reducible exact H | (rw [hy164]; exact H) | exact H
    have Ny164 := Aside0.mk hy164
    clear hy164
    obtain ⟨y167, hy167⟩ : ∃ y_ : List Int, y_ = (([a1] : List Int)) := ⟨_, rfl⟩
    replace H : (if y164.length + y167.length < 17592186044416 then ((some (y164 ++ y167 : List Int)).bind fun y170 => (if y170.length + (l0.drop (a2 : Int).toNat).length < 17592186044416 then (some (y170 ++ (l0.drop (a2 : Int).toNat))) else (none))) else (none)) = some r := by first | (rw [hy167]; with_reducible exact H) | (have H2_ := (Option.bind_some _ _).symm.trans H; rw [hy167]; with_reducible exact H2_) | (have H2_ := (Option.bind_some _ _).symm.trans H; with_reducible exact H2_) | with_reducible exact H | (rw [hy167]; exact H) | exact H
    have Ny167 := Aside0.mk hy167
    clear hy167
    by_cases c7 : y164.length + y167.length < 17592186044416
    ·rw [if_pos c7] at H
     have LMc7 := Aside0.mk c7
     clear c7
     obtain ⟨y170, hy170⟩ : ∃ y_ : List Int, y_ = (y164 ++ y167) := ⟨_, rfl⟩
     replace H : (if y170.length + (l0.drop (a2 : Int).toNat).length < 17592186044416 then (some (y170 ++ (l0.drop (a2 : Int).toNat))) else (none)) = some r := by first | (rw [hy170]; with_reducible exact H) | (have H2_ := (Option.bind_some _ _).symm.trans H; rw [hy170]; with_reducible exact H2_) | (have H2_ := (Option.bind_some _ _).symm.trans H; with_reducible exact H2_) | with_reducible exact H | (rw [hy170]; exact H) | exact H
     have Ny170 := Aside0.mk hy170
     clear hy170
     have c8b0 := eq_true (of_decide_eq_true asmB : 0 ≤ a2)
     have c9b0 := eq_true (of_decide_eq_true asmB : a2 ≤ (l0.length : Int))
     by_cases c10 : y170.length + (l0.drop (a2 : Int).toNat).length < 17592186044416
     ·rw [if_pos c10] at H
      have LMc10 := Aside0.mk c10
      clear c10
      obtain ⟨y174, hy174⟩ : ∃ y_ : List Int, y_ = (y170 ++ (l0.drop (a2 : Int).toNat)) := ⟨_, rfl⟩
      replace H : (some y174) = some r := by first | (rw [hy174]; with_reducible exact H) | (have H2_ := (Option.bind_some _ _).symm.trans H; rw [hy174]; with_reducible exact H2_) | (have H2_ := (Option.bind_some _ _).symm.trans H; with_reducible exact H2_) | with_reducible exact H | (rw [hy174]; exact H) | exact H
      have Ny174 := Aside0.mk hy174
      clear hy174
      obtain rfl := Option.some.inj H
      replace HB := Aside0.mk (below_drew1 HB.out)
      obtain ⟨i012, hi012, _, hsz12, _⟩ := info_parts info3
      obtain ⟨hcut12, hA12, hC12⟩ := print_take_of (P := Try.prog) (Value.int .i64) 0 35 3 .i64 Try.underlying35 hi012 hsz12 A0 c0 l0 a2 (of_decide_eq_true asmB) (of_decide_eq_true asmB) HC0.out
      have HR163 := Aside0.mk (Kd.C_of_reads (h1 := fun _ => rfl) (hA12 _ (Kd.reads_of_C HR0.out)))
      have HC163 := Aside0.mk hC12
      clear hA12 hC12 hi012 hsz12
      obtain ⟨i013, hi013, _, hsz13, _⟩ := info_parts info3
      obtain ⟨A13, hcut13, hA13, hC13⟩ := print_drop_of (P := Try.prog) (Value.int .i64) 0 35 3 .i64 Try.underlying35 hi013 hsz13 A0 c0 l0 a2 (of_decide_eq_true asmB) (of_decide_eq_true asmB) HC0.out
      have HR173 := Aside0.mk (Kd.C_of_reads (h1 := fun _ => rfl) (hA13 _ (Kd.reads_of_C HR0.out)))
      have HC173 := Aside0.mk hC13
      clear hA13 hC13 hi013 hsz13
      refine start_ (n := 13) (S := fun w' => True) (ds := []) #[false, false, false, false, false, false, false, false, false, false, false, false, false] (by kernel_rfl) rfl rfl trivial (fun hHeld => ?_); refine with_tabW spec_xIns.tab1 spec_xIns.bits1 (fun HT_ HW_ => ?_)
      generalize w.drew = w11 at HB HR163 HR173 hHeld ⊢
      refine pure_ (i := 1) (N := some 43) (v := ?_) (a' := ?_) #[false, true, false, false, false, false, false, false, false, false, false, false, false] rfl rfl (any_of HT_.out (by kernel_rfl)) (fun c_ a_ w_ h_ => hP c_ a_ w_ _ _ h_) (Or.inl ⟨by rfl, ?_⟩) ?_ ?_
      rotate_left
      ·intro w'
       go_simp
       with_reducible rfl
      rotate_left
      ·simp only [Act.put, List.setIfInBounds_toArray, List.set_cons_zero, List.set_cons_succ, i64_w, i32_w]
       rfl
      refine pure_ (i := 2) (N := some 44) (v := ?_) (a' := ?_) #[false, true, true, false, false, false, false, false, false, false, false, false, false] rfl rfl (any_of HT_.out (by kernel_rfl)) (fun c_ a_ w_ h_ => hP c_ a_ w_ _ _ h_) (Or.inl ⟨by rfl, ?_⟩) ?_ ?_
      rotate_left
      ·intro w'
       go_simp
       with_reducible rfl
      rotate_left
      ·simp only [Act.put, List.setIfInBounds_toArray, List.set_cons_zero, List.set_cons_succ, i64_w, i32_w]
       rfl
      refine pure_ (i := 3) (N := some 45) (v := ?_) (a' := ?_) #[false, true, true, true, false, false, false, false, false, false, false, false, false] rfl rfl (any_of HT_.out (by kernel_rfl)) (fun c_ a_ w_ h_ => hP c_ a_ w_ _ _ h_) (Or.inl ⟨by rfl, ?_⟩) ?_ ?_
      rotate_left
      ·intro w'
       go_simp
       with_reducible rfl
      rotate_left
      ·simp only [Act.put, List.setIfInBounds_toArray, List.set_cons_zero, List.set_cons_succ, i64_w, i32_w]
       rfl
      refine pure_ (i := 5) (N := some 47) (v := ?_) (a' := ?_) #[false, true, true, true, false, true, false, false, false, false, false, false, false] rfl rfl (any_of HT_.out (by kernel_rfl)) (fun c_ a_ w_ h_ => hP c_ a_ w_ _ _ h_) (Or.inl ⟨by rfl, ?_⟩) ?_ ?_
      rotate_left
      ·intro w'
       go_simp
       with_reducible rfl
      rotate_left
      ·simp only [Act.put, List.setIfInBounds_toArray, List.set_cons_zero, List.set_cons_succ, i64_w, i32_w]
       rfl
      refine pure_ (i := 8) (N := some 50) (v := ?_) (a' := ?_) #[false, true, true, true, false, true, false, false, true, false, false, false, false] rfl rfl (any_of HT_.out (by kernel_rfl)) (fun c_ a_ w_ h_ => hP c_ a_ w_ _ _ h_) (Or.inl ⟨by rfl, ?_⟩) ?_ ?_
      rotate_left
      ·intro w'
       go_simp
       with_reducible rfl
      rotate_left
      ·simp only [Act.put, List.setIfInBounds_toArray, List.set_cons_zero, List.set_cons_succ, i64_w, i32_w]
       rfl
      refine pure_ (i := 9) (N := some 51) (v := ?_) (a' := ?_) #[false, true, true, true, false, true, false, false, true, true, false, false, false] rfl rfl (any_of HT_.out (by kernel_rfl)) (fun c_ a_ w_ h_ => hP c_ a_ w_ _ _ h_) (Or.inl ⟨by rfl, ?_⟩) ?_ ?_
      rotate_left
      ·intro w'
       go_simp
       with_reducible rfl
      rotate_left
      ·simp only [Act.put, List.setIfInBounds_toArray, List.set_cons_zero, List.set_cons_succ, i64_w, i32_w]
       rfl
      refine pure_ (i := 10) (N := some 52) (v := ?_) (a' := ?_) #[false, true, true, true, false, true, false, false, true, true, true, false, false] rfl rfl (any_of HT_.out (by kernel_rfl)) (fun c_ a_ w_ h_ => hP c_ a_ w_ _ _ h_) (Or.inl ⟨by rfl, ?_⟩) ?_ ?_
      rotate_left
      ·intro w'
       go_simp
       with_reducible rfl
      rotate_left
      ·simp only [Act.put, List.setIfInBounds_toArray, List.set_cons_zero, List.set_cons_succ, i64_w, i32_w]
       rfl
      refine join_ (σ := Value × Value × Value) 3 #[true, true, true, true, true, true, true, false, true, true, true, false, false] (fun s_ => [(42, s_.1), (46, s_.2.1), (48, s_.2.2)]) (fun s_ w' => (Kd.R (Kd.int .i64) 3 w' w.heap.size (fun k_ => some k_ ≠ (s_.2.2 : Value).ownBlock) s_.2.1 y164) ∧ (Kd.R (Kd.int .i64) 3 w' w.heap.size (fun k_ => some k_ ≠ (s_.2.1 : Value).ownBlock) s_.2.2 y167) ∧ (Below w.heap.size w w')) ?_ ?_
      rotate_left
      ·intro hCont
       refine two_ (i := 0) (j := 6) (Ni := some 42) (Nj := some 48) #[true, true, true, true, false, true, false, false, true, true, true, false, false] #[false, true, true, true, false, true, true, false, true, true, true, false, false] rfl rfl rfl rfl (two_of HT_.out (by kernel_rfl)) (by decide) (by decide) (fun K hK => ?_) (fun K hK => ?_)
       ·skip
        refine Kd.R_lit_step (Kd.int .i64) _ 3 ?hg (N := 42) ?hd (xs := ([] : List Int)) (inner := []) (ok := fun _ => True) (okp := fun _ => True) ?hr ?hp (fun _ hk => hk) trivial (Below.refl _ _) (Nat.le_refl _) (by simp) ?_; (case hd => rfl); (case hg => rfl); (case hr => first | (go_simp; done) | (go_simp; rfl)); (case hp => exact (Reps.none _ _))
        intro v161 w14 ho15 hb hg_ hnew_
        clear hg_ hnew_
        (first | rw [← Ny160.out] at ho15 | (simp only [Int.reduceToNat] at ho15; rw [← Ny160.out] at ho15))
        have HO162 := Aside0.mk (Kd.R_lower ho15 (below_size (bW HB)))
        replace HB := uB HB hb
        clear hb ho15
        refine hK.out _ _ trivial (fun hHeld => ?_)
        clear hK K
        refine nA ?_ (some 42)
        refine two_ (i := 4) (j := 6) (Ni := some 46) (Nj := some 48) #[true, true, true, true, true, true, false, false, true, true, true, false, false] #[true, true, true, true, false, true, true, false, true, true, true, false, false] rfl rfl rfl rfl (two_of HT_.out (by kernel_rfl)) (by decide) (by decide) (fun K hK => ?_) (fun K hK => ?_)
        ·skip
         refine Kd.R_append_rows_step (Kd.int .i64) (w0 := w) w.heap.size (by rfl) (.tmp 42) (.tmp 45) 35 3 (.int .i64 0) 8 rfl Try.underlying35 info3 rfl (by decide) (by omega) v161 y160 (l0.take (a2 : Int).toNat) _ _ _ (fun _ => True) (fun _ => False) rfl rfl ?aO ?aR (fun _ _ h => h) (fun _ h => h.elim) ?aF ?aB ?aS ?aL ?_
         (case aR => first | (refine C_len_ (d := Kd.int .i64) (show (l0.take (a2 : Int).toNat).length = a2.toNat from (by rw [List.length_take]; have h_ : (a2 : Int) ≤ (l0.length : Int) := of_decide_eq_true asmB; omega)) ?_; repeat (first | exact (Kd.C_below HR163.out HB.out) | (with_reducible refine Kd.C_alloc ?_ _) | (with_reducible refine Kd.C_drewN ?_ _) | (with_reducible refine Kd.C_drew ?_))) | (repeat (first | exact (Kd.C_below HR163.out HB.out) | (with_reducible refine Kd.C_alloc ?_ _) | (with_reducible refine Kd.C_drewN ?_ _) | (with_reducible refine Kd.C_drew ?_))))
         (case aB => exact (bW HB))
         (case aF => exact (fun _ _ => trivial))
         (case aO => exact (upR HO162.out))
         (case aS => exact (below_size (bW HB)))
         (case aL => have := LMc6.out; have hlx_ := (show (l0.take (a2 : Int).toNat).length = a2.toNat from (by rw [List.length_take]; have h_ : (a2 : Int) ≤ (l0.length : Int) := of_decide_eq_true asmB; omega)); omega)
         intro v165 w16 ho hb hg hat
         rw [← Ny164.out] at ho
         have HO166 := Aside0.mk (ho)
         replace HB := Aside0.mk (hb)
         clear HO162
         clear ho hb hg hat
         refine hK.out _ _ trivial (fun hHeld => ?_)
         clear hK K
         refine nA ?_ (some 46)
         refine oA 6 (some 48) HT_ fun K hK => ?_
         refine Kd.R_lit_step (Kd.int .i64) _ 3 ?hg (N := 48) ?hd (xs := ([a1] : List Int)) (inner := [.int .i64 a1]) (ok := fun _ => True) (okp := fun _ => True) ?hr ?hp (fun _ hk => hk) trivial (Below.refl _ _) (Nat.le_refl _) (by simp) ?_; (case hd => rfl); (case hg => rfl); (case hr => first | (go_simp; done) | (go_simp; rfl)); (case hp => exact (Reps.one (show Kd.M (Kd.int .i64) _ _ _ a1 [.int .i64 a1] from rfl) (Reps.none _ _)))
         intro v168 w17 ho18 hb hg_ hnew_
         clear hg_ hnew_
         (first | rw [← Ny167.out] at ho18 | (simp only [Int.reduceToNat] at ho18; rw [← Ny167.out] at ho18))
         have HO169 := Aside0.mk (Kd.R_lower (Kd.R_new' ho18 (Kd.R_lt (upR HO166.out))) (below_size (bW HB)))
         replace HO166 := Aside0.mk (Kd.R_elder' (upR HO166.out) (Kd.R_base ho18) hb)
         replace HB := uB HB hb
         clear hb ho18
         refine hK.out _ _ trivial (fun hHeld => ?_)
         clear hK K
         refine nA ?_ (some 48)
         exact norm_ (by simp only [putAll, Act.put, List.setIfInBounds_toArray, List.set_cons_zero, List.set_cons_succ]) (hCont (v161, v165, v168) _ ⟨(by (with_reducible repeat (first | apply Kd.R_alloc | apply Kd.R_drewN | apply Kd.R_drew)); exact Kd.R_mono HO166.out (fun _ hk => hk.2)), (by (with_reducible repeat (first | apply Kd.R_alloc | apply Kd.R_drewN | apply Kd.R_drew)); exact Kd.R_mono HO169.out (fun _ hk => hk.2)), (bW HB)⟩)
        ·skip
         refine Kd.R_lit_step (Kd.int .i64) _ 3 ?hg (N := 48) ?hd (xs := ([a1] : List Int)) (inner := [.int .i64 a1]) (ok := fun _ => True) (okp := fun _ => True) ?hr ?hp (fun _ hk => hk) trivial (Below.refl _ _) (Nat.le_refl _) (by simp) ?_; (case hd => rfl); (case hg => rfl); (case hr => first | (go_simp; done) | (go_simp; rfl)); (case hp => exact (Reps.one (show Kd.M (Kd.int .i64) _ _ _ a1 [.int .i64 a1] from rfl) (Reps.none _ _)))
         intro v168 w16 ho17 hb hg_ hnew_
         clear hg_ hnew_
         (first | rw [← Ny167.out] at ho17 | (simp only [Int.reduceToNat] at ho17; rw [← Ny167.out] at ho17))
         have HO169 := Aside0.mk (Kd.R_lower (Kd.R_new' ho17 (Kd.R_lt (upR HO162.out))) (below_size (bW HB)))
         replace HO162 := Aside0.mk (Kd.R_elder' (upR HO162.out) (Kd.R_base ho17) hb)
         replace HB := uB HB hb
         clear hb ho17
         refine hK.out _ _ trivial (fun hHeld => ?_)
         clear hK K
         refine nA ?_ (some 48)
         refine oA 4 (some 46) HT_ fun K hK => ?_
         refine Kd.R_append_rows_step (Kd.int .i64) (w0 := w) w.heap.size (by rfl) (.tmp 42) (.tmp 45) 35 3 (.int .i64 0) 8 rfl Try.underlying35 info3 rfl (by decide) (by omega) v161 y160 (l0.take (a2 : Int).toNat) _ _ _ (fun k_ => some k_ ≠ (v168 : Value).ownBlock) (fun _ => False) rfl rfl ?aO ?aR (fun _ _ h => h) (fun _ h => h.elim) ?aF ?aB ?aS ?aL ?_
         (case aR => first | (refine C_len_ (d := Kd.int .i64) (show (l0.take (a2 : Int).toNat).length = a2.toNat from (by rw [List.length_take]; have h_ : (a2 : Int) ≤ (l0.length : Int) := of_decide_eq_true asmB; omega)) ?_; repeat (first | exact (Kd.C_below HR163.out HB.out) | (with_reducible refine Kd.C_alloc ?_ _) | (with_reducible refine Kd.C_drewN ?_ _) | (with_reducible refine Kd.C_drew ?_))) | (repeat (first | exact (Kd.C_below HR163.out HB.out) | (with_reducible refine Kd.C_alloc ?_ _) | (with_reducible refine Kd.C_drewN ?_ _) | (with_reducible refine Kd.C_drew ?_))))
         (case aB => exact (bW HB))
         (case aF => exact (fun k_ hk => Kd.fresh' (Kd.R_lt (upR HO169.out)) k_ hk))
         (case aO => exact (by (with_reducible repeat (first | apply Kd.R_alloc | apply Kd.R_drewN | apply Kd.R_drew)); exact Kd.R_mono HO162.out (fun _ hk => hk.2)))
         (case aS => exact (below_size (bW HB)))
         (case aL => have := LMc6.out; have hlx_ := (show (l0.take (a2 : Int).toNat).length = a2.toNat from (by rw [List.length_take]; have h_ : (a2 : Int) ≤ (l0.length : Int) := of_decide_eq_true asmB; omega)); omega)
         intro v165 w18 ho hb hg hat
         rw [← Ny164.out] at ho
         have HO166 := Aside0.mk (ho)
         replace HO169 := Aside0.mk (Kd.R_after (ok := (fun _ => True)) (upR HO169.out) hg hat)
         replace HB := Aside0.mk (hb)
         clear HO162
         clear ho hb hg hat
         refine hK.out _ _ trivial (fun hHeld => ?_)
         clear hK K
         refine nA ?_ (some 46)
         exact norm_ (by simp only [putAll, Act.put, List.setIfInBounds_toArray, List.set_cons_zero, List.set_cons_succ]) (hCont (v161, v165, v168) _ ⟨(upR HO166.out), (by (with_reducible repeat (first | apply Kd.R_alloc | apply Kd.R_drewN | apply Kd.R_drew)); exact Kd.R_mono HO169.out (fun _ hk => hk.2)), (bW HB)⟩)
       ·skip
        refine Kd.R_lit_step (Kd.int .i64) _ 3 ?hg (N := 48) ?hd (xs := ([a1] : List Int)) (inner := [.int .i64 a1]) (ok := fun _ => True) (okp := fun _ => True) ?hr ?hp (fun _ hk => hk) trivial (Below.refl _ _) (Nat.le_refl _) (by simp) ?_; (case hd => rfl); (case hg => rfl); (case hr => first | (go_simp; done) | (go_simp; rfl)); (case hp => exact (Reps.one (show Kd.M (Kd.int .i64) _ _ _ a1 [.int .i64 a1] from rfl) (Reps.none _ _)))
        intro v168 w14 ho15 hb hg_ hnew_
        clear hg_ hnew_
        (first | rw [← Ny167.out] at ho15 | (simp only [Int.reduceToNat] at ho15; rw [← Ny167.out] at ho15))
        have HO169 := Aside0.mk (Kd.R_lower ho15 (below_size (bW HB)))
        replace HB := uB HB hb
        clear hb ho15
        refine hK.out _ _ trivial (fun hHeld => ?_)
        clear hK K
        refine nA ?_ (some 48)
        refine oA 0 (some 42) HT_ fun K hK => ?_
        refine Kd.R_lit_step (Kd.int .i64) _ 3 ?hg (N := 42) ?hd (xs := ([] : List Int)) (inner := []) (ok := fun _ => True) (okp := fun _ => True) ?hr ?hp (fun _ hk => hk) trivial (Below.refl _ _) (Nat.le_refl _) (by simp) ?_; (case hd => rfl); (case hg => rfl); (case hr => first | (go_simp; done) | (go_simp; rfl)); (case hp => exact (Reps.none _ _))
        intro v161 w16 ho17 hb hg_ hnew_
        clear hg_ hnew_
        (first | rw [← Ny160.out] at ho17 | (simp only [Int.reduceToNat] at ho17; rw [← Ny160.out] at ho17))
        have HO162 := Aside0.mk (Kd.R_lower (Kd.R_new' ho17 (Kd.R_lt (upR HO169.out))) (below_size (bW HB)))
        replace HO169 := Aside0.mk (Kd.R_elder' (upR HO169.out) (Kd.R_base ho17) hb)
        replace HB := uB HB hb
        clear hb ho17
        refine hK.out _ _ trivial (fun hHeld => ?_)
        clear hK K
        refine nA ?_ (some 42)
        refine oA 4 (some 46) HT_ fun K hK => ?_
        refine Kd.R_append_rows_step (Kd.int .i64) (w0 := w) w.heap.size (by rfl) (.tmp 42) (.tmp 45) 35 3 (.int .i64 0) 8 rfl Try.underlying35 info3 rfl (by decide) (by omega) v161 y160 (l0.take (a2 : Int).toNat) _ _ _ (fun k_ => some k_ ≠ (v168 : Value).ownBlock) (fun _ => False) rfl rfl ?aO ?aR (fun _ _ h => h) (fun _ h => h.elim) ?aF ?aB ?aS ?aL ?_
        (case aR => first | (refine C_len_ (d := Kd.int .i64) (show (l0.take (a2 : Int).toNat).length = a2.toNat from (by rw [List.length_take]; have h_ : (a2 : Int) ≤ (l0.length : Int) := of_decide_eq_true asmB; omega)) ?_; repeat (first | exact (Kd.C_below HR163.out HB.out) | (with_reducible refine Kd.C_alloc ?_ _) | (with_reducible refine Kd.C_drewN ?_ _) | (with_reducible refine Kd.C_drew ?_))) | (repeat (first | exact (Kd.C_below HR163.out HB.out) | (with_reducible refine Kd.C_alloc ?_ _) | (with_reducible refine Kd.C_drewN ?_ _) | (with_reducible refine Kd.C_drew ?_))))
        (case aB => exact (bW HB))
        (case aF => exact (fun k_ hk => Kd.fresh' (Kd.R_lt (upR HO169.out)) k_ hk))
        (case aO => exact (by (with_reducible repeat (first | apply Kd.R_alloc | apply Kd.R_drewN | apply Kd.R_drew)); exact Kd.R_mono HO162.out (fun _ hk => hk.2)))
        (case aS => exact (below_size (bW HB)))
        (case aL => have := LMc6.out; have hlx_ := (show (l0.take (a2 : Int).toNat).length = a2.toNat from (by rw [List.length_take]; have h_ : (a2 : Int) ≤ (l0.length : Int) := of_decide_eq_true asmB; omega)); omega)
        intro v165 w18 ho hb hg hat
        rw [← Ny164.out] at ho
        have HO166 := Aside0.mk (ho)
        replace HO169 := Aside0.mk (Kd.R_after (ok := (fun _ => True)) (upR HO169.out) hg hat)
        replace HB := Aside0.mk (hb)
        clear HO162
        clear ho hb hg hat
        refine hK.out _ _ trivial (fun hHeld => ?_)
        clear hK K
        refine nA ?_ (some 46)
        exact norm_ (by simp only [putAll, Act.put, List.setIfInBounds_toArray, List.set_cons_zero, List.set_cons_succ]) (hCont (v161, v165, v168) _ ⟨(upR HO166.out), (by (with_reducible repeat (first | apply Kd.R_alloc | apply Kd.R_drewN | apply Kd.R_drew)); exact Kd.R_mono HO169.out (fun _ hk => hk.2)), (bW HB)⟩)
      rintro ⟨v161, v165, v168⟩ w19 ⟨h0_, h1_, h2_⟩
      have n0_ : Aside0 (Kd.R (Kd.int .i64) 3 w19 w.heap.size (fun k_ => some k_ ≠ (v168 : Value).ownBlock) v165 y164) := ⟨h0_⟩
      have n1_ : Aside0 (Kd.R (Kd.int .i64) 3 w19 w.heap.size (fun k_ => some k_ ≠ (v165 : Value).ownBlock) v168 y167) := ⟨h1_⟩
      have n2_ : Aside0 (Below w.heap.size w w19) := ⟨h2_⟩
      clear HB
      clear h0_ h1_ h2_
      have HO166 := n0_
      have HO169 := n1_
      have HB := n2_
      clear n0_ n1_ n2_
      have hHeld := trivial
      obtain ⟨Ao21, co21, eo21⟩ := Kd.R_slice HO169.out
      (first | subst eo21 | (injection eo21 with f1_ f2_ f3_; have f4_ := f1_.symm; have f5_ := f3_.symm; clear f1_ f2_ f3_; subst f4_; subst f5_))
      refine norm_ (a' := ?_) ?_ ?_
      rotate_left
      ·simp only [putAll, Act.put, List.setIfInBounds_toArray, List.set_cons_zero, List.set_cons_succ]
       rfl
      refine oA 7 (some 49) HT_ fun K hK => ?_
      refine Kd.R_append_rows_step (Kd.int .i64) (w0 := w) w.heap.size (by rfl) (.tmp 46) (.tmp 48) 35 3 (.int .i64 0) 8 rfl Try.underlying35 info3 rfl (by decide) (by omega) v165 y164 y167 _ _ _ (fun k_ => some k_ ≠ (.slice Ao21 y167.length co21 : Value).ownBlock) (fun _ => False) rfl rfl ?aO ?aR (fun _ _ h => h) (fun _ h => h.elim) ?aF ?aB ?aS ?aL ?_
      (case aR => repeat (first | exact (Kd.R_reads' HO169.out).2.2 | (with_reducible refine Kd.C_alloc ?_ _) | (with_reducible refine Kd.C_drewN ?_ _) | (with_reducible refine Kd.C_drew ?_)))
      (case aB => exact (bW HB))
      (case aF => exact (fun k_ hk => Kd.fresh' (Kd.R_lt (upR HO169.out)) k_ hk))
      (case aO => exact (upR HO166.out))
      (case aS => exact (below_size (bW HB)))
      (case aL => have := LMc7.out; omega)
      intro v171 w20 ho hb hg hat
      rw [← Ny170.out] at ho
      have HO172 := Aside0.mk (ho)
      replace HO169 := Aside0.mk (Kd.R_after (ok := (fun _ => True)) (by (with_reducible repeat (first | apply Kd.R_alloc | apply Kd.R_drewN | apply Kd.R_drew)); exact Kd.R_mono HO169.out (fun _ hk => ⟨trivial, hk⟩)) hg hat)
      replace HB := Aside0.mk (hb)
      clear HO166
      clear ho hb hg hat
      refine hK.out _ _ trivial (fun hHeld => ?_)
      clear hK K
      refine nA ?_ (some 49)
      refine oA 11 (some 53) HT_ fun K hK => ?_
      refine Kd.R_append_rows_step (Kd.int .i64) (w0 := w) w.heap.size (by rfl) (.tmp 49) (.tmp 52) 35 3 (.int .i64 0) 8 rfl Try.underlying35 info3 rfl (by decide) (by omega) v171 y170 (l0.drop (a2 : Int).toNat) _ _ _ (fun k_ => some k_ ≠ (.slice Ao21 y167.length co21 : Value).ownBlock) (fun _ => False) rfl rfl ?aO ?aR (fun _ _ h => h) (fun _ h => h.elim) ?aF ?aB ?aS ?aL ?_
      (case aR => first | (refine C_len_ (d := Kd.int .i64) (show (l0.drop (a2 : Int).toNat).length = (l0.length - a2.toNat) from List.length_drop) ?_; repeat (first | exact (Kd.C_below HR173.out HB.out) | (with_reducible refine Kd.C_alloc ?_ _) | (with_reducible refine Kd.C_drewN ?_ _) | (with_reducible refine Kd.C_drew ?_))) | (repeat (first | exact (Kd.C_below HR173.out HB.out) | (with_reducible refine Kd.C_alloc ?_ _) | (with_reducible refine Kd.C_drewN ?_ _) | (with_reducible refine Kd.C_drew ?_))))
      (case aB => exact (bW HB))
      (case aF => exact (fun k_ hk => Kd.fresh' (Kd.R_lt (upR HO169.out)) k_ hk))
      (case aO => exact (upR HO172.out))
      (case aS => exact (below_size (bW HB)))
      (case aL => have := LMc10.out; have hlx_ := (show (l0.drop (a2 : Int).toNat).length = (l0.length - a2.toNat) from List.length_drop); omega)
      intro v175 w22 ho hb hg hat
      rw [← Ny174.out] at ho
      have HO176 := Aside0.mk (ho)
      replace HO169 := Aside0.mk (Kd.R_after (ok := (fun _ => True)) (upR HO169.out) hg hat)
      replace HB := Aside0.mk (hb)
      clear HO172
      clear ho hb hg hat
      refine hK.out _ _ trivial (fun hHeld => ?_)
      clear hK K
      refine nA ?_ (some 53)
      refine pure_ (i := 12) (N := some 3) (v := ?_) (a' := ?_) #[true, true, true, true, true, true, true, true, true, true, true, true, true] rfl rfl (any_of HT_.out (by kernel_rfl)) (fun c_ a_ w_ h_ => hP c_ a_ w_ _ _ h_) (Or.inl ⟨by rfl, ?_⟩) ?_ ?_
      rotate_left
      ·intro w'
       go_simp
       with_reducible rfl
      rotate_left
      ·simp only [Act.put, List.setIfInBounds_toArray, List.set_cons_zero, List.set_cons_succ, i64_w, i32_w]
       rfl
      refine done_ (done_of HT_.out (by kernel_rfl)) ?_
      exact hQ (by (with_reducible repeat (first | apply Kd.R_alloc | apply Kd.R_drewN | apply Kd.R_drew)); exact Kd.R_mono HO176.out (fun _ hk => trivial)) (bW HB)
     ·rw [if_neg c10] at H
      exact absurd H (by simp)
    ·rw [if_neg c7] at H
     exact absurd H (by simp)
   ·rw [if_neg c6] at H
    exact absurd H (by simp)
  ·rw [if_neg c5] at H
   exact absurd H (by simp)
 ·rw [if_neg c4] at H
  exact absurd H (by simp)

end Go.Proofs.Ytldgjibimolcdaa.QFnLeadTrips
