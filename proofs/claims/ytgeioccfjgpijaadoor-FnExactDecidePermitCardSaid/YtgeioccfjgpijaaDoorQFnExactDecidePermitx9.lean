/- Contracts of Go functions that FnExactDecidePermit reaches: the call computes what the plain function says. No condition. -/
import Derived.Test.YtgeioccfjgpijaaDoorQFnExactDecidePermitx0
import Derived.Test.YtgeioccfjgpijaaDoorQFnExactDecidePermitx7
import Derived.Test.YtgeioccfjgpijaaDoorQFnExactDecidePermitx8
namespace Go.Proofs.YtgeioccfjgpijaaDoor.QFnExactDecidePermit
open Go.RowKit Go.Proofs.YtgeioccfjgpijaaDoorW.PrintWords Go.Proofs.YtgeioccfjgpijaaDoorW.PrintLast Go.Proofs.YtgeioccfjgpijaaDoorW.PrintMore
attribute [local go_sem] max2_int min2_int max_two min_two max_three min_three max_four min_four   -- for this text's walks alone
set_option linter.unusedVariables false
set_option linter.unusedSimpArgs false

/-! ### impl_xPermitId: function 141 -/
set_option maxHeartbeats 4000000 in
set_option maxRecDepth 100000 in
theorem IndexFunc_permitId (p : S26 → Bool) (V : Value) (A0 : Option Addr) (c0 : Nat) (l0 : List (S26)) (w : World) (hr0 : Kd.C k26 w A0 l0.length l0) (hc0 : l0.length ≤ c0)
    (hp : ∀ (x : S26) (W : World), x ∈ l0 → Below w.heap.size w W → Calls Tryd.prog 94 #[.agg #[.int .i64 x.f0, .string x.f1, .int .i64 x.f2, .int .i64 x.f3, .int .i64 x.f4, .int .i64 x.f5], V] W fun e W' => e = .returned (.bool (p x)) ∧ Below W.heap.size W W') :
    Calls Tryd.prog 92 #[.slice A0 l0.length c0, .func (.func 94) #[] #[V]] w fun e w' => e = .returned (.int .i64 (idxP26 p l0 0)) ∧ Below w.heap.size w w' := by
  have hu := Tryd.underlying26
  have hm := hr0.2.1
  go_enter Tryd.func92, Tryd.ntmps92
  go_wp2
  go_loopw [8] (fun v wr => ∃ i : Nat, i ≤ l0.length ∧ v = .int .i64 i ∧ idxP26 p l0 0 = idxP26 p (l0.drop i) i ∧ Below w.heap.size w wr) (fun v _ => l0.length - (intOf v).toNat)
  case atStart => exact ⟨0, by omega, rfl, by simp, Below.refl _ _⟩
  case round =>
    obtain ⟨i, hi, rfl, he, hb⟩ := hrel
    by_cases hlt : i < l0.length
    · obtain ⟨ad, rfl, h0, h1, h2, h3, h4, h5⟩ := at_T26 (Kd.C_below hr0 hb) (i : Int) (by omega) (by omega)
      have hx : rd_T26 l0 (i : Int) = l0.getD i z26 := by unfold rd_T26; rw [Int.toNat_natCast]
      have hmem := getD_mem' l0 i z26 hlt
      rw [hx] at h0 h1 h2 h3 h4 h5
      rw [getD_drop' l0 i z26 hlt] at he
      generalize l0.getD i z26 = x at h0 h1 h2 h3 h4 h5 he hx hmem
      clear hx
      rw [Int.toNat_natCast] at h0 h1 h2 h3 h4 h5
      cases hpx : p x with
      | true =>
        have hq := hp x wr hmem hb
        rw [hpx] at hq
        have he' := Aside0.mk he
        have hb' := Aside0.mk hb
        have hpx' := Aside0.mk hpx
        clear he hb hp hpx hmem
        go_wp2_with (go_at_call 94; refine hq.mono ?_; rintro e w1 ⟨rfl, hb1⟩)
        go_ret
        refine ⟨?_, hb'.out.trans (hb1.mono hb'.out.size)⟩
        rw [he'.out, idxP26, if_pos hpx'.out]
        rfl
      | false =>
        have hq := hp x wr hmem hb
        rw [hpx] at hq
        have he' := Aside0.mk he
        have hb' := Aside0.mk hb
        have hpx' := Aside0.mk hpx
        have hp' := Aside0.mk hp
        clear he hb hp hpx hmem
        go_wp2_with (go_at_call 94; refine hq.mono ?_; rintro e w1 ⟨rfl, hb1⟩)
        go_roundw
        case rel => exact ⟨i + 1, by omega, by go_num, by rw [he'.out, idxP26, hpx'.out]; rfl, hb'.out.trans (hb1.mono hb'.out.size)⟩
        case measure => simp [intOf]; omega
    · have hd : l0.drop i = [] := List.drop_eq_nil_of_le (by omega)
      rw [hd] at he
      have he' := Aside0.mk he
      have hb' := Aside0.mk hb
      clear he hb hp hd
      go_wp2
      go_ret
      exact ⟨by rw [he'.out, idxP26]; rfl, hb'.out⟩

theorem permitIdClosure (x : S26) (q : Int) (b : Nat) (W : World) (h : W.cell? ⟨b, 0, none⟩ = some (.int .i64 q)) :
    Calls Tryd.prog 94 #[.agg #[.int .i64 x.f0, .string x.f1, .int .i64 x.f2, .int .i64 x.f3, .int .i64 x.f4, .int .i64 x.f5], .pointer (some ⟨b, 0, none⟩)] W fun e W' => e = .returned (.bool (x.f0 == q)) ∧ Below W.heap.size W W' := by
  have hu := Tryd.underlying26
  have hl := World.block_lt_of_cell? W _ h
  go_enter Tryd.func94, Tryd.ntmps94
  go_wp2
  go_ret
  exact ⟨rfl, ((Below.refl _ W).alloc (Nat.le_refl _) _)⟩
def impl_xPermitId.f (l0 : List (S26)) (a1 : Int) : Option Int := some (idxP26 (fun x => x.f0 == a1) l0 0)
theorem impl_xPermitId.calls (A0 : Option Addr) (c0 : Nat) (l0 : List (S26)) (a1 : Int) (r : Int) (w : World) (hr0 : Kd.C k26 w A0 l0.length l0) (hc0 : l0.length ≤ c0) (h : impl_xPermitId.f l0 a1 = some r) {b : Nat} (hcell : w.cell? ⟨b, 0, none⟩ = some (.int .i64 a1) := by first | assumption | simp) :
    Calls Tryd.prog 92 #[.slice A0 l0.length c0, .func (.func 94) #[] #[.pointer (some ⟨b, 0, none⟩)]] w fun e w' => e = .returned (.int .i64 r) ∧ Below w.heap.size w w' := by
  obtain rfl := Option.some.inj h
  have hl := World.block_lt_of_cell? w _ hcell
  exact IndexFunc_permitId (fun x => x.f0 == a1) (.pointer (some ⟨b, 0, none⟩)) A0 c0 l0 w hr0 hc0 (fun x W _ hB => permitIdClosure x a1 b W ((hB.cell hl).trans hcell))

/-! ### impl_permitAt: function 74 -/
def impl_permitAt.f (k : Nat) (l0 : List (S26)) (a1 : Int) : Option (Int × Bool) := (impl_xPermitId.f l0 a1).bind fun t219 => (if t219 ≥ 0 then ((impl_ArePermits.f k l0).bind fun t220 => (some (t219, t220))) else (some (t219, false)))
theorem impl_permitAt.mono : ∀ a0 a1 k, LeO (impl_permitAt.f k a0 a1) (impl_permitAt.f (k + 1) a0 a1) := by
  intro a0 a1 k
  unfold impl_permitAt.f
  repeat' first
      | (with_reducible exact impl_ArePermits.mono _ _)
      | (with_reducible exact LeO.refl _)
      | (with_reducible exact LeO.none _)
      | (with_reducible refine LeO.ite ?_ ?_)
      | (with_reducible refine LeO.bind ?_ (fun _ => ?_))
      | exact impl_ArePermits.mono _ _
      | exact LeO.none _
      | refine LeO.ite ?_ ?_
      | refine LeO.bind ?_ (fun _ => ?_)
set_option maxHeartbeats 8000000 in
set_option maxRecDepth 100000 in
theorem impl_permitAt.calls (k : Nat) (A0 : Option Addr) (c0 : Nat) (l0 : List (S26)) (a1 : Int) (r1 : Int) (r2 : Bool) (w : World) (hr0 : Kd.C k26 w A0 l0.length l0) (hc0 : l0.length ≤ c0) (h : impl_permitAt.f k l0 a1 = some (r1, r2)) :
    Calls Tryd.prog 74 #[.slice A0 l0.length c0, .int .i64 a1] w fun e w' => e = .returned (.tuple #[.int .i64 r1, .bool r2]) ∧ Below w.heap.size w w' := by
  have HR0 := Aside0.mk hr0
  have HC0 := Aside0.mk hc0
  clear hr0 hc0
  have HB := Aside0.mk (Below.refl w.heap.size w)
  have H : ((impl_xPermitId.f l0 a1).bind fun t219 => (if t219 ≥ 0 then ((impl_ArePermits.f k l0).bind fun t220 => (some (t219, t220))) else (some (t219, false)))) = some (r1, r2) := h
  clear h
  replace H := Option.bind_eq_some_iff.mp H
  obtain ⟨t219, A30, H⟩ := H
  replace H : (if t219 ≥ 0 then ((impl_ArePermits.f k l0).bind fun t220 => (some (t219, t220))) else (some (t219, false))) = some (r1, r2) := H
  have A3 := Aside0.mk A30
  clear A30
  by_cases c4 : t219 ≥ 0
  · rw [if_pos c4] at H
    have c4b0 : decide (0 ≤ t219) = true := decide_eq_true c4
    clear c4
    replace H := Option.bind_eq_some_iff.mp H
    obtain ⟨t220, A50, H⟩ := H
    replace H : (some (t219, t220)) = some (r1, r2) := H
    have A5 := Aside0.mk A50
    clear A50
    simp only [Option.some.injEq, Prod.mk.injEq] at H
    obtain ⟨rfl, rfl⟩ := H
    go_enter Tryd.func74, Tryd.ntmps74
    go_wp2_with (first | ((with_reducible refine gate_callee (f := 92) rfl ?_); refine goesL_ (some 9) rfl rfl Tryd.func92 (by kernel_rfl) rfl #[.slice A0 l0.length c0, .func (.func 94) #[] #[.pointer (some ⟨w.heap.size, 0, none⟩)]] rfl argsB ?_; (with_reducible refine (impl_xPermitId.calls _ _ l0 a1 t219 _ ?side1 ?side2 A3.out).mono ?_); (case side1 => repeat (first | exact HR0.out | (with_reducible refine Kd.C_alloc ?_ _) | (with_reducible refine Kd.C_drewN ?_ _) | (with_reducible refine Kd.C_drew ?_))); (case side2 => exact HC0.out); rintro e w6 ⟨rfl, hb⟩; refine ⟨_, rfl, ?_⟩; have n0_ := Aside0.mk (below_step (upB HB.out) hb); clear HB; have HB := n0_; clear n0_; (try clear hb)) | (go_at_call 21; (with_reducible refine (impl_ArePermits.calls k _ _ l0 t220 _ ?side1 ?side2 A5.out).mono ?_); (case side1 => repeat (first | exact (Kd.C_below HR0.out HB.out) | (with_reducible refine Kd.C_alloc ?_ _) | (with_reducible refine Kd.C_drewN ?_ _) | (with_reducible refine Kd.C_drew ?_))); (case side2 => exact HC0.out); rintro e w7 ⟨rfl, hb⟩; have n0_ := Aside0.mk (below_step (upB HB.out) hb); clear HB; have HB := n0_; clear n0_; (try clear hb)))
    go_ret2
    exact ⟨by first | rfl | (simp [errW_none, errW_some] <;> rfl) | (simp [*, errW_none, errW_some] <;> rfl), (upB HB.out)⟩
  · rw [if_neg c4] at H
    have c4b0 : decide (0 ≤ t219) = false := decide_eq_false c4
    clear c4
    simp only [Option.some.injEq, Prod.mk.injEq] at H
    obtain ⟨rfl, rfl⟩ := H
    go_enter Tryd.func74, Tryd.ntmps74
    go_wp2_with (first | ((with_reducible refine gate_callee (f := 92) rfl ?_); refine goesL_ (some 9) rfl rfl Tryd.func92 (by kernel_rfl) rfl #[.slice A0 l0.length c0, .func (.func 94) #[] #[.pointer (some ⟨w.heap.size, 0, none⟩)]] rfl argsB ?_; (with_reducible refine (impl_xPermitId.calls _ _ l0 a1 t219 _ ?side1 ?side2 A3.out).mono ?_); (case side1 => repeat (first | exact HR0.out | (with_reducible refine Kd.C_alloc ?_ _) | (with_reducible refine Kd.C_drewN ?_ _) | (with_reducible refine Kd.C_drew ?_))); (case side2 => exact HC0.out); rintro e w8 ⟨rfl, hb⟩; refine ⟨_, rfl, ?_⟩; have n0_ := Aside0.mk (below_step (upB HB.out) hb); clear HB; have HB := n0_; clear n0_; (try clear hb)))
    go_ret2
    exact ⟨by first | rfl | (simp [errW_none, errW_some] <;> rfl) | (simp [*, errW_none, errW_some] <;> rfl), (upB HB.out)⟩

/-! ### impl_Permit_68: function 68 -/
def impl_Permit_68.f (l0 : List (S26)) : Option (List (S26)) := if l0.length * 56 ≤ 140737488351232 then some l0 else none
theorem infoC26 : (Tryd.prog.info? 26).map (fun i => (i.zero, i.size, i.bytes)) = some (some (.agg #[(.int .i64 0), (.string ByteArray.empty), (.int .i64 0), (.int .i64 0), (.int .i64 0), (.int .i64 0)]), 6, 56) := by kernel_rfl
set_option maxHeartbeats 4000000 in
set_option maxRecDepth 100000 in
theorem impl_Permit_68.calls (A0 : Option Addr) (c0 : Nat) (l0 : List (S26)) (r : List (S26)) (w : World) (hr0 : Kd.C k26 w A0 l0.length l0) (hc0 : l0.length ≤ c0) (h : impl_Permit_68.f l0 = some r) :
    Calls Tryd.prog 68 #[.slice A0 l0.length c0] w fun e w' => ∃ v0_ : Value, e = .returned (v0_) ∧ Kd.R k26 26 w' w.heap.size (fun _ => True) v0_ r ∧ Below w.heap.size w w' := by
  have q22 : ∀ (w : World) (a : Option Addr) (n c n' c' : Nat), (binOp .eql 32 (.slice a n c) (.slice none n' c')).run Tryd.prog w = .ok (.bool a.isNone) w := fun w a n c n' c' => Go.Lib.run_eql_slice_nil w _ _ a n c n' c' Tryd.underlying32
  unfold impl_Permit_68.f at h
  split at h
  · rename_i hb
    obtain rfl := Option.some.inj h
    cases A0 with
    | none =>
      have h0 : l0 = [] := by
        rcases Nat.eq_zero_or_pos l0.length with h0 | h0
        · exact List.eq_nil_of_length_eq_zero h0
        · obtain ⟨ad, he, _⟩ := hr0.2.2 h0
          cases he
      subst h0
      go_enter Tryd.func68, Tryd.ntmps68
      go_wp2
      go_ret
      exact ⟨_, rfl, Kd.R_nil _ _ _ _ _, Below.refl _ _⟩
    | some ad =>
      have HR := Aside0.mk hr0
      clear hr0
      go_enter Tryd.func68, Tryd.ntmps68
      go_wp2_with (first | ((with_reducible refine gate_dst (N := 5) rfl ?_); refine Kd.R_lit k26 _ 26 ?hg (N := 5) ?hd (xs := ([] : List (S26))) (inner := []) (ok := fun _ => True) (okp := fun _ => True) ?hr ?hp (fun _ hk => hk) trivial (Below.refl _ _) (Nat.le_refl _) (by simp) ?_; (case hd => rfl); (case hg => rfl); (case hr => first | (go_simp; done) | (go_simp; rfl)); (case hp => exact (Reps.none _ _)); intro v1 w1 ho hb1 _ _; have HO := Aside0.mk ho; have HB := Aside0.mk hb1; clear ho hb1) | ((with_reducible refine gate_builtin (b := .append) (xs := #[.tmp 5, .tmp 6]) rfl ?_); at_builtin; refine Kd.R_append_rows k26 (w0 := w) w.heap.size rfl (.tmp 5) (.tmp 6) 32 26 (.agg #[(.int .i64 0), (.string ByteArray.empty), (.int .i64 0), (.int .i64 0), (.int .i64 0), (.int .i64 0)]) 56 rfl Tryd.underlying32 infoC26 rfl (by decide) (by omega) _ ([] : List (S26)) l0 _ _ _ (fun _ => True) (fun _ => False) rfl rfl ?aO ?aR (fun _ _ h => h) (fun _ h => h.elim) ?aF ?aB ?aS ?aL ?_; (case aO => exact HO.out); (case aR => exact Kd.C_below HR.out HB.out); (case aF => exact fun _ _ => trivial); (case aB => exact HB.out); (case aS => exact below_size HB.out); (case aL => simp only [List.length_nil]; omega); intro v2 w2 ho2 hb2 _ _; have HO2 := Aside0.mk ho2; have HB2 := Aside0.mk hb2; clear ho2 hb2))
      go_ret
      refine ⟨_, rfl, ?_, HB2.out⟩
      have := HO2.out
      rwa [List.nil_append] at this
  · cases h


/-! ### impl_withState: function 75 -/
def impl_withState.f (k : Nat) (l0 : List (S26)) (a1 : Int) (a2 : Int) : Option ((List (S26)) × Bool) := (impl_Permit_68.f l0).bind fun t221 => (if 0 ≤ a1 then (if a1 < (t221.length : Int) then ((some (t221.set (a1 : Int).toNat (⟨(rd_T26 t221 a1).f0, (rd_T26 t221 a1).f1, (rd_T26 t221 a1).f2, (rd_T26 t221 a1).f3, (rd_T26 t221 a1).f4, a2⟩ : S26) : List (S26))).bind fun y224 => ((impl_ArePermits.f k y224).bind fun t225 => (if t225 = true then (some (y224, true)) else (some (([] : List (S26)), false))))) else (none)) else (none))
theorem impl_withState.mono : ∀ a0 a1 a2 k, LeO (impl_withState.f k a0 a1 a2) (impl_withState.f (k + 1) a0 a1 a2) := by
  intro a0 a1 a2 k
  unfold impl_withState.f
  repeat' first
      | (with_reducible exact impl_ArePermits.mono _ _)
      | (with_reducible exact LeO.refl _)
      | (with_reducible exact LeO.none _)
      | (with_reducible refine LeO.ite ?_ ?_)
      | (with_reducible refine LeO.bind ?_ (fun _ => ?_))
      | exact impl_ArePermits.mono _ _
      | exact LeO.none _
      | refine LeO.ite ?_ ?_
      | refine LeO.bind ?_ (fun _ => ?_)
set_option maxHeartbeats 8000000 in
set_option maxRecDepth 100000 in
theorem impl_withState.calls (k : Nat) (A0 : Option Addr) (c0 : Nat) (l0 : List (S26)) (a1 : Int) (a2 : Int) (r1 : List (S26)) (r2 : Bool) (w : World) (hr0 : Kd.C k26 w A0 l0.length l0) (hc0 : l0.length ≤ c0) (h : impl_withState.f k l0 a1 a2 = some (r1, r2)) :
    Calls Tryd.prog 75 #[.slice A0 l0.length c0, .int .i64 a1, .int .i64 a2] w fun e w' => ∃ v0_ : Value, e = .returned (.tuple #[v0_, .bool r2]) ∧ Kd.R k26 26 w' w.heap.size (fun _ => True) v0_ r1 ∧ Below w.heap.size w w' := by
  have HR0 := Aside0.mk hr0
  have HC0 := Aside0.mk hc0
  clear hr0 hc0
  have HB := Aside0.mk (Below.refl w.heap.size w)
  have H : ((impl_Permit_68.f l0).bind fun t221 => (if 0 ≤ a1 then (if a1 < (t221.length : Int) then ((some (t221.set (a1 : Int).toNat (⟨(rd_T26 t221 a1).f0, (rd_T26 t221 a1).f1, (rd_T26 t221 a1).f2, (rd_T26 t221 a1).f3, (rd_T26 t221 a1).f4, a2⟩ : S26) : List (S26))).bind fun y224 => ((impl_ArePermits.f k y224).bind fun t225 => (if t225 = true then (some (y224, true)) else (some (([] : List (S26)), false))))) else (none)) else (none))) = some (r1, r2) := h
  clear h
  replace H := Option.bind_eq_some_iff.mp H
  obtain ⟨t221, A40, H⟩ := H
  replace H : (if 0 ≤ a1 then (if a1 < (t221.length : Int) then ((some (t221.set (a1 : Int).toNat (⟨(rd_T26 t221 a1).f0, (rd_T26 t221 a1).f1, (rd_T26 t221 a1).f2, (rd_T26 t221 a1).f3, (rd_T26 t221 a1).f4, a2⟩ : S26) : List (S26))).bind fun y224 => ((impl_ArePermits.f k y224).bind fun t225 => (if t225 = true then (some (y224, true)) else (some (([] : List (S26)), false))))) else (none)) else (none)) = some (r1, r2) := H
  have A4 := Aside0.mk A40
  clear A40
  by_cases c5 : 0 ≤ a1
  · rw [if_pos c5] at H
    have c5b0 : decide (0 ≤ a1) = true := decide_eq_true c5
    clear c5
    by_cases c6 : a1 < (t221.length : Int)
    · rw [if_pos c6] at H
      have c6b0 : decide (a1 < (t221.length : Int)) = true := decide_eq_true c6
      clear c6
      obtain ⟨y224, hy224⟩ : ∃ y_ : List (S26), y_ = (t221.set (a1 : Int).toNat (⟨(rd_T26 t221 a1).f0, (rd_T26 t221 a1).f1, (rd_T26 t221 a1).f2, (rd_T26 t221 a1).f3, (rd_T26 t221 a1).f4, a2⟩ : S26)) := ⟨_, rfl⟩
      replace H : ((impl_ArePermits.f k y224).bind fun t225 => (if t225 = true then (some (y224, true)) else (some (([] : List (S26)), false)))) = some (r1, r2) := by first | (rw [hy224]; with_reducible exact H) | (have H2_ := (Option.bind_some _ _).symm.trans H; rw [hy224]; with_reducible exact H2_) | (have H2_ := (Option.bind_some _ _).symm.trans H; with_reducible exact H2_) | with_reducible exact H | (rw [hy224]; exact H) | exact H
      have Ny224 := Aside0.mk hy224
      clear hy224
      replace H := Option.bind_eq_some_iff.mp H
      obtain ⟨t225, A80, H⟩ := H
      replace H : (if t225 = true then (some (y224, true)) else (some (([] : List (S26)), false))) = some (r1, r2) := H
      have A8 := Aside0.mk A80
      clear A80
      by_cases c9 : t225 = true
      · subst c9
        have H1 : (some (y224, true)) = some (r1, r2) := by rw [if_pos rfl] at H; exact H
        clear H
        have H := H1
        clear H1
        simp only [Option.some.injEq, Prod.mk.injEq] at H
        obtain ⟨rfl, rfl⟩ := H
        go_enter Tryd.func75, Tryd.ntmps75
        go_wp2_with (first | ((with_reducible refine gate_callee (f := 68) rfl ?_); refine goesL_ (some 10) rfl rfl Tryd.func68 (by kernel_rfl) rfl #[.slice A0 l0.length c0] rfl argsB ?_; (with_reducible refine (impl_Permit_68.calls _ _ l0 t221 _ ?side1 ?side2 A4.out).mono ?_); (case side1 => repeat (first | exact HR0.out | (with_reducible refine Kd.C_alloc ?_ _) | (with_reducible refine Kd.C_drewN ?_ _) | (with_reducible refine Kd.C_drew ?_))); (case side2 => exact HC0.out); rintro e w10 ⟨v222, rfl, ho0, hb⟩; refine ⟨_, rfl, ?_⟩; have n0_ := Aside0.mk (Kd.R_lower ho0 (below_size (upB HB.out))); have n1_ := Aside0.mk (below_step (upB HB.out) hb); clear HB; have HO223 := n0_; have HB := n1_; clear n0_ n1_; (try clear hb); (try clear hk); (try clear ho0); have p7 : 0 ≤ (a1 : Int) := of_decide_eq_true asmB; have q7 : (a1 : Int) < ((t221.length : Int) : Int) := of_decide_eq_true asmB; obtain ⟨go7, co7, eo7, gb7, gl7, cl7, HG7⟩ := Kd.R_form HO223.out (by omega); (first | cases eo7 | (injection eo7 with ea_ en_ ec_; (first | subst ea_ | (injection ea_ with ea_; subst ea_)); subst ec_; clear en_)); have GB7 := Aside0.mk gb7; have GG7 := Aside0.mk HG7; clear gb7 gl7 HG7; obtain ⟨ce7, hcl7, hM7, hcc7, hfr7⟩ := Kd.R_elem HO223.out z26 (a1 : Int) p7 q7; obtain rfl := k26_openM hM7; have hx7_0 : w10.cell? ⟨go7, (a1 : Int).toNat * 6, none⟩ = some (.int .i64 ((rd_T26 t221 a1).f0)) := hcc7 0 _ rfl; have hx7_1 : w10.cell? ⟨go7, (a1 : Int).toNat * 6 + 1, none⟩ = some (.string ((rd_T26 t221 a1).f1)) := hcc7 1 _ rfl; have hx7_2 : w10.cell? ⟨go7, (a1 : Int).toNat * 6 + 2, none⟩ = some (.int .i64 ((rd_T26 t221 a1).f2)) := hcc7 2 _ rfl; have hx7_3 : w10.cell? ⟨go7, (a1 : Int).toNat * 6 + 3, none⟩ = some (.int .i64 ((rd_T26 t221 a1).f3)) := hcc7 3 _ rfl; have hx7_4 : w10.cell? ⟨go7, (a1 : Int).toNat * 6 + 4, none⟩ = some (.int .i64 ((rd_T26 t221 a1).f4)) := hcc7 4 _ rfl; have hx7_5 : w10.cell? ⟨go7, (a1 : Int).toNat * 6 + 5, none⟩ = some (.int .i64 ((rd_T26 t221 a1).f5)) := hcc7 5 _ rfl; have hf7_0 : w10.frozen? ⟨go7, (a1 : Int).toNat * 6, none⟩ = false := hfr7 0; have hf7_1 : w10.frozen? ⟨go7, (a1 : Int).toNat * 6 + 1, none⟩ = false := hfr7 1; have hf7_2 : w10.frozen? ⟨go7, (a1 : Int).toNat * 6 + 2, none⟩ = false := hfr7 2; have hf7_3 : w10.frozen? ⟨go7, (a1 : Int).toNat * 6 + 3, none⟩ = false := hfr7 3; have hf7_4 : w10.frozen? ⟨go7, (a1 : Int).toNat * 6 + 4, none⟩ = false := hfr7 4; have hf7_5 : w10.frozen? ⟨go7, (a1 : Int).toNat * 6 + 5, none⟩ = false := hfr7 5; clear hcl7 hcc7 hfr7 hM7; replace p7 := eq_true p7; replace q7 := eq_true q7; have HX11 := Aside0.mk (show Kd.R k26 26 w10 w.heap.size (fun _ => True) (.slice (some ⟨go7, 0, none⟩) t221.length co7) t221 from (upR HO223.out)); obtain ⟨ce11, hcl11, hM11, hcc11, hfr11⟩ := Kd.R_elem HX11.out z26 (a1 : Int) (of_decide_eq_true asmB) (by have h_ : (a1 : Int) < ((t221.length : Int) : Int) := of_decide_eq_true asmB; first | exact h_ | (have e_ := (Kd.R_reads' HO223.out).1; omega) | simpa using h_); obtain rfl := k26_openM hM11; have HP11 := Kd.R_seg HX11.out (a1 : Int) (of_decide_eq_true asmB) (by have h_ : (a1 : Int) < ((t221.length : Int) : Int) := of_decide_eq_true asmB; first | exact h_ | (have e_ := (Kd.R_reads' HO223.out).1; omega) | simpa using h_) (seg := [.int .i64 a2]) (j := 5) hcl11 hcc11 (show 6 ≤ 6 from by decide) (x' := (⟨(rd_T26 t221 a1).f0, (rd_T26 t221 a1).f1, (rd_T26 t221 a1).f2, (rd_T26 t221 a1).f3, (rd_T26 t221 a1).f4, a2⟩ : S26)) (k26_mkM _ _ _ (⟨(rd_T26 t221 a1).f0, (rd_T26 t221 a1).f1, (rd_T26 t221 a1).f2, (rd_T26 t221 a1).f3, (rd_T26 t221 a1).f4, a2⟩ : S26) ) (fun _ hk => hk); have hx11_5 := hcc11 5 _ rfl; (try simp only [show (k26).sz = 6 from rfl, Nat.mul_one, Nat.add_zero] at hx11_5); have hf11_5 := hfr11 5; (try simp only [show (k26).sz = 6 from rfl, Nat.mul_one, Nat.add_zero] at hf11_5); clear hcl11 hcc11 hfr11 hM11) | ((with_reducible refine gate_store (t := 3) (p := 15) rfl ?_); refine store_event (t := 3) (p := 15) (v := ?vo_w12) (w1 := (w10.setCell ⟨go7, (a1 : Int).toNat * 6 + 5, none⟩ (.int .i64 a2))) ?hg ?ho ?hn ?hr ?_; (case ho => rfl); (case hg => rfl); (case hn => rfl); (case hr => first | (go_simp; done) | (go_simp; rfl)); intro w12 hw; have hg : w10.grownBy w12 (some go7) := (by rw [hw]; exact HP11.2); have hp_ : Kd.R k26 26 w12 w.heap.size (fun _ => True) (.slice (some ⟨go7, 0, none⟩) t221.length co7) y224 := (by rw [hw, Ny224.out]; exact HP11.1); clear HP11; have n0_ := Aside0.mk (hp_); have n1_ := Aside0.mk ((by rw [hw]; exact below_set (HB.out) GB7.out : Below w.heap.size w w12)); clear HO223; clear HB; have HO223 := n0_; have HB := n1_; clear n0_ n1_; clear hg hw hp_) | ((with_reducible refine gate_callee (f := 21) rfl ?_); refine goesL_ (some 17) rfl rfl Tryd.func21 (by kernel_rfl) rfl #[.slice (some ⟨go7, 0, none⟩) y224.length co7] rfl (by (try simp only [List.map_toArray, List.map_cons, List.map_nil]); first | done | (rw [show y224.length = t221.length from (Kd.R_reads' HO223.out).1.symm] <;> rfl) | rfl | (simp only [List.length_drop, List.length_take]; rfl)) ?_; (with_reducible refine (impl_ArePermits.calls k _ _ y224 true _ ?side1 ?side2 A8.out).mono ?_); (case side1 => repeat (first | exact (Kd.R_reads' HO223.out).2.2 | (with_reducible refine Kd.C_alloc ?_ _) | (with_reducible refine Kd.C_drewN ?_ _) | (with_reducible refine Kd.C_drew ?_))); (case side2 => rw [show y224.length = t221.length from (Kd.R_reads' HO223.out).1.symm]; exact (Kd.R_reads' HO223.out).2.1); rintro e w13 ⟨rfl, hb⟩; refine ⟨_, rfl, ?_⟩; have n0_ := Aside0.mk (Kd.R_below (upR HO223.out) hb); have n1_ := Aside0.mk (below_step (upB HB.out) hb); clear HO223; clear HB; have HO223 := n0_; have HB := n1_; clear n0_ n1_; (try clear hb); (try clear hk)))
        go_ret2
        exact ⟨_, by first | rfl | (simp [errW_none, errW_some] <;> rfl) | (simp [*, errW_none, errW_some] <;> rfl), by (with_reducible repeat (first | apply Kd.R_alloc | apply Kd.R_drewN | apply Kd.R_drew)); exact HO223.out, (upB HB.out)⟩
      · replace c9 := Bool.eq_false_iff.mpr c9
        subst c9
        have H1 : (some (([] : List (S26)), false)) = some (r1, r2) := by rw [if_neg (show ¬ (false = true) by decide)] at H; exact H
        clear H
        have H := H1
        clear H1
        simp only [Option.some.injEq, Prod.mk.injEq] at H
        obtain ⟨rfl, rfl⟩ := H
        go_enter Tryd.func75, Tryd.ntmps75
        go_wp2_with (first | ((with_reducible refine gate_callee (f := 68) rfl ?_); refine goesL_ (some 10) rfl rfl Tryd.func68 (by kernel_rfl) rfl #[.slice A0 l0.length c0] rfl argsB ?_; (with_reducible refine (impl_Permit_68.calls _ _ l0 t221 _ ?side1 ?side2 A4.out).mono ?_); (case side1 => repeat (first | exact HR0.out | (with_reducible refine Kd.C_alloc ?_ _) | (with_reducible refine Kd.C_drewN ?_ _) | (with_reducible refine Kd.C_drew ?_))); (case side2 => exact HC0.out); rintro e w14 ⟨v222, rfl, ho0, hb⟩; refine ⟨_, rfl, ?_⟩; have n0_ := Aside0.mk (Kd.R_lower ho0 (below_size (upB HB.out))); have n1_ := Aside0.mk (below_step (upB HB.out) hb); clear HB; have HO223 := n0_; have HB := n1_; clear n0_ n1_; (try clear hb); (try clear hk); (try clear ho0); have p7 : 0 ≤ (a1 : Int) := of_decide_eq_true asmB; have q7 : (a1 : Int) < ((t221.length : Int) : Int) := of_decide_eq_true asmB; obtain ⟨go7, co7, eo7, gb7, gl7, cl7, HG7⟩ := Kd.R_form HO223.out (by omega); (first | cases eo7 | (injection eo7 with ea_ en_ ec_; (first | subst ea_ | (injection ea_ with ea_; subst ea_)); subst ec_; clear en_)); have GB7 := Aside0.mk gb7; have GG7 := Aside0.mk HG7; clear gb7 gl7 HG7; obtain ⟨ce7, hcl7, hM7, hcc7, hfr7⟩ := Kd.R_elem HO223.out z26 (a1 : Int) p7 q7; obtain rfl := k26_openM hM7; have hx7_0 : w14.cell? ⟨go7, (a1 : Int).toNat * 6, none⟩ = some (.int .i64 ((rd_T26 t221 a1).f0)) := hcc7 0 _ rfl; have hx7_1 : w14.cell? ⟨go7, (a1 : Int).toNat * 6 + 1, none⟩ = some (.string ((rd_T26 t221 a1).f1)) := hcc7 1 _ rfl; have hx7_2 : w14.cell? ⟨go7, (a1 : Int).toNat * 6 + 2, none⟩ = some (.int .i64 ((rd_T26 t221 a1).f2)) := hcc7 2 _ rfl; have hx7_3 : w14.cell? ⟨go7, (a1 : Int).toNat * 6 + 3, none⟩ = some (.int .i64 ((rd_T26 t221 a1).f3)) := hcc7 3 _ rfl; have hx7_4 : w14.cell? ⟨go7, (a1 : Int).toNat * 6 + 4, none⟩ = some (.int .i64 ((rd_T26 t221 a1).f4)) := hcc7 4 _ rfl; have hx7_5 : w14.cell? ⟨go7, (a1 : Int).toNat * 6 + 5, none⟩ = some (.int .i64 ((rd_T26 t221 a1).f5)) := hcc7 5 _ rfl; have hf7_0 : w14.frozen? ⟨go7, (a1 : Int).toNat * 6, none⟩ = false := hfr7 0; have hf7_1 : w14.frozen? ⟨go7, (a1 : Int).toNat * 6 + 1, none⟩ = false := hfr7 1; have hf7_2 : w14.frozen? ⟨go7, (a1 : Int).toNat * 6 + 2, none⟩ = false := hfr7 2; have hf7_3 : w14.frozen? ⟨go7, (a1 : Int).toNat * 6 + 3, none⟩ = false := hfr7 3; have hf7_4 : w14.frozen? ⟨go7, (a1 : Int).toNat * 6 + 4, none⟩ = false := hfr7 4; have hf7_5 : w14.frozen? ⟨go7, (a1 : Int).toNat * 6 + 5, none⟩ = false := hfr7 5; clear hcl7 hcc7 hfr7 hM7; replace p7 := eq_true p7; replace q7 := eq_true q7; have HX15 := Aside0.mk (show Kd.R k26 26 w14 w.heap.size (fun _ => True) (.slice (some ⟨go7, 0, none⟩) t221.length co7) t221 from (upR HO223.out)); obtain ⟨ce15, hcl15, hM15, hcc15, hfr15⟩ := Kd.R_elem HX15.out z26 (a1 : Int) (of_decide_eq_true asmB) (by have h_ : (a1 : Int) < ((t221.length : Int) : Int) := of_decide_eq_true asmB; first | exact h_ | (have e_ := (Kd.R_reads' HO223.out).1; omega) | simpa using h_); obtain rfl := k26_openM hM15; have HP15 := Kd.R_seg HX15.out (a1 : Int) (of_decide_eq_true asmB) (by have h_ : (a1 : Int) < ((t221.length : Int) : Int) := of_decide_eq_true asmB; first | exact h_ | (have e_ := (Kd.R_reads' HO223.out).1; omega) | simpa using h_) (seg := [.int .i64 a2]) (j := 5) hcl15 hcc15 (show 6 ≤ 6 from by decide) (x' := (⟨(rd_T26 t221 a1).f0, (rd_T26 t221 a1).f1, (rd_T26 t221 a1).f2, (rd_T26 t221 a1).f3, (rd_T26 t221 a1).f4, a2⟩ : S26)) (k26_mkM _ _ _ (⟨(rd_T26 t221 a1).f0, (rd_T26 t221 a1).f1, (rd_T26 t221 a1).f2, (rd_T26 t221 a1).f3, (rd_T26 t221 a1).f4, a2⟩ : S26) ) (fun _ hk => hk); have hx15_5 := hcc15 5 _ rfl; (try simp only [show (k26).sz = 6 from rfl, Nat.mul_one, Nat.add_zero] at hx15_5); have hf15_5 := hfr15 5; (try simp only [show (k26).sz = 6 from rfl, Nat.mul_one, Nat.add_zero] at hf15_5); clear hcl15 hcc15 hfr15 hM15) | ((with_reducible refine gate_store (t := 3) (p := 15) rfl ?_); refine store_event (t := 3) (p := 15) (v := ?vo_w16) (w1 := (w14.setCell ⟨go7, (a1 : Int).toNat * 6 + 5, none⟩ (.int .i64 a2))) ?hg ?ho ?hn ?hr ?_; (case ho => rfl); (case hg => rfl); (case hn => rfl); (case hr => first | (go_simp; done) | (go_simp; rfl)); intro w16 hw; have hg : w14.grownBy w16 (some go7) := (by rw [hw]; exact HP15.2); have hp_ : Kd.R k26 26 w16 w.heap.size (fun _ => True) (.slice (some ⟨go7, 0, none⟩) t221.length co7) y224 := (by rw [hw, Ny224.out]; exact HP15.1); clear HP15; have n0_ := Aside0.mk (hp_); have n1_ := Aside0.mk ((by rw [hw]; exact below_set (HB.out) GB7.out : Below w.heap.size w w16)); clear HO223; clear HB; have HO223 := n0_; have HB := n1_; clear n0_ n1_; clear hg hw hp_) | ((with_reducible refine gate_callee (f := 21) rfl ?_); refine goesL_ (some 17) rfl rfl Tryd.func21 (by kernel_rfl) rfl #[.slice (some ⟨go7, 0, none⟩) y224.length co7] rfl (by (try simp only [List.map_toArray, List.map_cons, List.map_nil]); first | done | (rw [show y224.length = t221.length from (Kd.R_reads' HO223.out).1.symm] <;> rfl) | rfl | (simp only [List.length_drop, List.length_take]; rfl)) ?_; (with_reducible refine (impl_ArePermits.calls k _ _ y224 false _ ?side1 ?side2 A8.out).mono ?_); (case side1 => repeat (first | exact (Kd.R_reads' HO223.out).2.2 | (with_reducible refine Kd.C_alloc ?_ _) | (with_reducible refine Kd.C_drewN ?_ _) | (with_reducible refine Kd.C_drew ?_))); (case side2 => rw [show y224.length = t221.length from (Kd.R_reads' HO223.out).1.symm]; exact (Kd.R_reads' HO223.out).2.1); rintro e w17 ⟨rfl, hb⟩; refine ⟨_, rfl, ?_⟩; have n0_ := Aside0.mk (Kd.R_below (upR HO223.out) hb); have n1_ := Aside0.mk (below_step (upB HB.out) hb); clear HO223; clear HB; have HO223 := n0_; have HB := n1_; clear n0_ n1_; (try clear hb); (try clear hk)))
        go_ret2
        exact ⟨_, by first | rfl | (simp [errW_none, errW_some] <;> rfl) | (simp [*, errW_none, errW_some] <;> rfl), by first | exact Kd.R_nil _ _ _ _ _ | exact Kd.N_nil _ _ _ _ _ | exact Kd.V_nil _ _ _ _ _ | exact Kd.Q_nil _ _ _ _ _ | exact Kd.S_nil _ _ _ _ _, (upB HB.out)⟩
    · rw [if_neg c6] at H
      exact absurd H (by simp)
  · rw [if_neg c5] at H
    exact absurd H (by simp)

/-! ### impl_DecidePermit: function 36 -/
def impl_DecidePermit.j0 : Nat → List (S26) → Bool → Int → Bool → Option ((List (S26)) × Bool)
  | 0, _, _, _, _ => none
  | k + 1, x0, x2, x8, x25 => if x25 = true then (some (([] : List (S26)), false)) else (if x2 = true then ((impl_withState.f k x0 x8 1).bind fun bt229 => (some (bt229.1, bt229.2))) else ((impl_withState.f k x0 x8 2).bind fun bt233 => (some (bt233.1, bt233.2))))
def impl_DecidePermit.f (k : Nat) (l0 : List (S26)) (a1 : Int) (a2 : Bool) : Option ((List (S26)) × Bool) := (impl_permitAt.f k l0 a1).bind fun bt226 => (if bt226.2 = true then (if 0 ≤ bt226.1 then (if bt226.1 < (l0.length : Int) then (impl_DecidePermit.j0 k l0 a2 bt226.1 (((rd_T26 l0 bt226.1).f5) != 0)) else (none)) else (none)) else (impl_DecidePermit.j0 k l0 a2 bt226.1 true))
theorem impl_DecidePermit.mono_l : ∀ k, (∀ y0 y1 y2 y3, LeO (impl_DecidePermit.j0 k y0 y1 y2 y3) (impl_DecidePermit.j0 (k + 1) y0 y1 y2 y3))
  | 0 => fun _ _ _ _ r h => by simp [impl_DecidePermit.j0] at h
  | k + 1 => by
    have ih0 := impl_DecidePermit.mono_l k
    · intro y0 y1 y2 y3
      unfold impl_DecidePermit.j0
      repeat' first
      | (with_reducible exact ih0 _ _ _ _)
      | (with_reducible exact impl_permitAt.mono _ _ _)
      | (with_reducible exact impl_withState.mono _ _ _ _)
      | (with_reducible exact LeO.refl _)
      | (with_reducible exact LeO.none _)
      | (with_reducible refine LeO.ite ?_ ?_)
      | (with_reducible refine LeO.bind ?_ (fun _ => ?_))
      | exact ih0 _ _ _ _
      | exact impl_permitAt.mono _ _ _
      | exact impl_withState.mono _ _ _ _
      | exact LeO.none _
      | refine LeO.ite ?_ ?_
      | refine LeO.bind ?_ (fun _ => ?_)
theorem impl_DecidePermit.mono : ∀ a0 a1 a2 k, LeO (impl_DecidePermit.f k a0 a1 a2) (impl_DecidePermit.f (k + 1) a0 a1 a2) := by
  intro a0 a1 a2 k
  have ih0 := impl_DecidePermit.mono_l k
  unfold impl_DecidePermit.f
  repeat' first
      | (with_reducible exact ih0 _ _ _ _)
      | (with_reducible exact impl_permitAt.mono _ _ _)
      | (with_reducible exact impl_withState.mono _ _ _ _)
      | (with_reducible exact LeO.refl _)
      | (with_reducible exact LeO.none _)
      | (with_reducible refine LeO.ite ?_ ?_)
      | (with_reducible refine LeO.bind ?_ (fun _ => ?_))
      | exact ih0 _ _ _ _
      | exact impl_permitAt.mono _ _ _
      | exact impl_withState.mono _ _ _ _
      | exact LeO.none _
      | refine LeO.ite ?_ ?_
      | refine LeO.bind ?_ (fun _ => ?_)
set_option maxHeartbeats 8000000 in
set_option maxRecDepth 100000 in
theorem impl_DecidePermit.calls (k : Nat) (A0 : Option Addr) (c0 : Nat) (l0 : List (S26)) (a1 : Int) (a2 : Bool) (r1 : List (S26)) (r2 : Bool) (w : World) (hr0 : Kd.C k26 w A0 l0.length l0) (hc0 : l0.length ≤ c0) (h : impl_DecidePermit.f k l0 a1 a2 = some (r1, r2)) :
    Calls Tryd.prog 36 #[.slice A0 l0.length c0, .int .i64 a1, .bool a2] w fun e w' => ∃ v0_ : Value, e = .returned (.tuple #[v0_, .bool r2]) ∧ Kd.R k26 26 w' w.heap.size (fun _ => True) v0_ r1 ∧ Below w.heap.size w w' := by
  have HR0 := Aside0.mk hr0
  have HC0 := Aside0.mk hc0
  clear hr0 hc0
  have HB := Aside0.mk (Below.refl w.heap.size w)
  have H : ((impl_permitAt.f k l0 a1).bind fun bt226 => (if bt226.2 = true then (if 0 ≤ bt226.1 then (if bt226.1 < (l0.length : Int) then (impl_DecidePermit.j0 k l0 a2 bt226.1 (((rd_T26 l0 bt226.1).f5) != 0)) else (none)) else (none)) else (impl_DecidePermit.j0 k l0 a2 bt226.1 true))) = some (r1, r2) := h
  clear h
  replace H := Option.bind_eq_some_iff.mp H
  obtain ⟨⟨t226, t227⟩, A40, H⟩ := H
  replace H : (if t227 = true then (if 0 ≤ t226 then (if t226 < (l0.length : Int) then (impl_DecidePermit.j0 k l0 a2 t226 (((rd_T26 l0 t226).f5) != 0)) else (none)) else (none)) else (impl_DecidePermit.j0 k l0 a2 t226 true)) = some (r1, r2) := H
  have A4 := Aside0.mk A40
  clear A40
  have HC5 := Aside0.mk H
  clear H
  go_enter Tryd.func36, Tryd.ntmps36
  go_upto_region 2 with (first | ((with_reducible refine gate_callee (f := 74) rfl ?_); refine goesL_ (some 13) rfl rfl Tryd.func74 (by kernel_rfl) rfl #[.slice A0 l0.length c0, .int .i64 a1] rfl argsB ?_; (with_reducible refine (impl_permitAt.calls k _ _ l0 a1 t226 t227 _ ?side1 ?side2 A4.out).mono ?_); (case side1 => repeat (first | exact HR0.out | (with_reducible refine Kd.C_alloc ?_ _) | (with_reducible refine Kd.C_drewN ?_ _) | (with_reducible refine Kd.C_drew ?_))); (case side2 => exact HC0.out); rintro e w6 ⟨rfl, hb⟩; refine ⟨_, rfl, ?_⟩; have n0_ := Aside0.mk (below_step (upB HB.out) hb); clear HB; have HB := n0_; clear n0_; (try clear hb)))
  (try simp only [Act.put, List.setIfInBounds_toArray, List.set_cons_zero, List.set_cons_succ])
  go_cut [25] (fun v25 wc => ∃ (kq : Nat) (x25_4 : Bool), v25 = .bool x25_4 ∧ Aside0 (impl_DecidePermit.j0 kq l0 a2 t226 x25_4 = some (r1, r2)) ∧ Aside0 (kq ≤ k) ∧ Aside0 (Below w.heap.size w wc))
  case first =>
    have H := HC5.out
    clear HC5
    by_cases c7 : t227 = true
    · subst c7
      have H1 : (if 0 ≤ t226 then (if t226 < (l0.length : Int) then (impl_DecidePermit.j0 k l0 a2 t226 (((rd_T26 l0 t226).f5) != 0)) else (none)) else (none)) = some (r1, r2) := by rw [if_pos rfl] at H; exact H
      clear H
      have H := H1
      clear H1
      by_cases c8 : 0 ≤ t226
      · rw [if_pos c8] at H
        have c8b0 : decide (0 ≤ t226) = true := decide_eq_true c8
        clear c8
        (first | rw [c8b0] | (simp only [i64_w, i32_w]; rw [c8b0]) | skip)
        by_cases c9 : t226 < (l0.length : Int)
        · rw [if_pos c9] at H
          have c9b0 : decide (t226 < (l0.length : Int)) = true := decide_eq_true c9
          clear c9
          have H' := Aside0.mk H
          clear H
          have p228 : 0 ≤ (t226 : Int) := of_decide_eq_true asmB
          have q228 : t226 < (l0.length : Int) := of_decide_eq_true asmB
          obtain ⟨ad228, e228, hx228_0, hx228_1, hx228_2, hx228_3, hx228_4, hx228_5⟩ := at_T26 HR0.out t226 p228 q228
          cases e228
          replace hx228_0 := bx HB.out hx228_0
          replace hx228_1 := bx HB.out hx228_1
          replace hx228_2 := bx HB.out hx228_2
          replace hx228_3 := bx HB.out hx228_3
          replace hx228_4 := bx HB.out hx228_4
          replace hx228_5 := bx HB.out hx228_5
          replace p228 := eq_true p228
          replace q228 := eq_true q228
          go_wp2
          go_meet
          case rel => exact ⟨_, ((((rd_T26 l0 t226).f5) != 0)), (by first | rfl | (simp; done) | (simp [*]; done)), H', ⟨by first | omega | exact Nat.le_refl _⟩, ⟨(upB HB.out)⟩⟩
        · rw [if_neg c9] at H
          exact absurd H (by simp)
      · rw [if_neg c8] at H
        exact absurd H (by simp)
    · replace c7 := Bool.eq_false_iff.mpr c7
      subst c7
      have H1 : (impl_DecidePermit.j0 k l0 a2 t226 true) = some (r1, r2) := by rw [if_neg (show ¬ (false = true) by decide)] at H; exact H
      clear H
      have H := H1
      clear H1
      have H' := Aside0.mk H
      clear H
      go_wp2
      go_meet
      case rel => exact ⟨_, (true), (by first | rfl | (simp; done) | (simp [*]; done)), H', ⟨by first | omega | exact Nat.le_refl _⟩, ⟨(upB HB.out)⟩⟩
  case rest =>
    clear HC5
    try clear c7
    try clear c8
    try clear c8b0
    try clear c9
    try clear c9b0
    try clear hx228_0
    try clear hx228_1
    try clear hx228_2
    try clear hx228_3
    try clear hx228_4
    try clear hx228_5
    try clear p228
    try clear q228
    obtain ⟨kq, x25_4, rfl, HA, HJ4, HB⟩ := hcut
    cases kq with
    | zero => exact absurd HA.out (by simp [impl_DecidePermit.j0])
    | succ kj4 =>
      have H := HA.out
      clear HA
      simp only [impl_DecidePermit.j0] at H
      by_cases c10 : x25_4 = true
      · subst c10
        have H1 : (some (([] : List (S26)), false)) = some (r1, r2) := by rw [if_pos rfl] at H; exact H
        clear H
        have H := H1
        clear H1
        simp only [Option.some.injEq, Prod.mk.injEq] at H
        obtain ⟨rfl, rfl⟩ := H
        go_wp2
        go_ret2
        exact ⟨_, by first | rfl | (simp [errW_none, errW_some] <;> rfl) | (simp [*, errW_none, errW_some] <;> rfl), by first | exact Kd.R_nil _ _ _ _ _ | exact Kd.N_nil _ _ _ _ _ | exact Kd.V_nil _ _ _ _ _ | exact Kd.Q_nil _ _ _ _ _ | exact Kd.S_nil _ _ _ _ _, (upB HB.out)⟩
      · replace c10 := Bool.eq_false_iff.mpr c10
        subst c10
        have H1 : (if a2 = true then ((impl_withState.f kj4 l0 t226 1).bind fun bt229 => (some (bt229.1, bt229.2))) else ((impl_withState.f kj4 l0 t226 2).bind fun bt233 => (some (bt233.1, bt233.2)))) = some (r1, r2) := by rw [if_neg (show ¬ (false = true) by decide)] at H; exact H
        clear H
        have H := H1
        clear H1
        by_cases c11 : a2 = true
        · subst c11
          have H1 : ((impl_withState.f kj4 l0 t226 1).bind fun bt229 => (some (bt229.1, bt229.2))) = some (r1, r2) := by rw [if_pos rfl] at H; exact H
          clear H
          have H := H1
          clear H1
          replace H := Option.bind_eq_some_iff.mp H
          obtain ⟨⟨t229, t230⟩, A120, H⟩ := H
          replace H : (some (t229, t230)) = some (r1, r2) := H
          have A12 := Aside0.mk A120
          clear A120
          simp only [Option.some.injEq, Prod.mk.injEq] at H
          obtain ⟨rfl, rfl⟩ := H
          go_wp2_with (first | ((with_reducible refine gate_callee (f := 75) rfl ?_); refine goesL_ (some 29) rfl rfl Tryd.func75 (by kernel_rfl) rfl #[.slice A0 l0.length c0, .int .i64 t226, .int .i64 1] rfl argsB ?_; (with_reducible refine (impl_withState.calls kj4 _ _ l0 t226 1 t229 t230 _ ?side1 ?side2 A12.out).mono ?_); (case side1 => repeat (first | exact (Kd.C_below HR0.out HB.out) | (with_reducible refine Kd.C_alloc ?_ _) | (with_reducible refine Kd.C_drewN ?_ _) | (with_reducible refine Kd.C_drew ?_))); (case side2 => exact HC0.out); rintro e w13 ⟨v231, rfl, ho0, hb⟩; refine ⟨_, rfl, ?_⟩; have n0_ := Aside0.mk (Kd.R_lower ho0 (below_size (upB HB.out))); have n1_ := Aside0.mk (below_step (upB HB.out) hb); clear HB; have HO232 := n0_; have HB := n1_; clear n0_ n1_; (try clear hb); (try clear ho0)))
          go_ret2
          exact ⟨_, by first | rfl | (simp [errW_none, errW_some] <;> rfl) | (simp [*, errW_none, errW_some] <;> rfl), by (with_reducible repeat (first | apply Kd.R_alloc | apply Kd.R_drewN | apply Kd.R_drew)); exact HO232.out, (upB HB.out)⟩
        · replace c11 := Bool.eq_false_iff.mpr c11
          subst c11
          have H1 : ((impl_withState.f kj4 l0 t226 2).bind fun bt233 => (some (bt233.1, bt233.2))) = some (r1, r2) := by rw [if_neg (show ¬ (false = true) by decide)] at H; exact H
          clear H
          have H := H1
          clear H1
          replace H := Option.bind_eq_some_iff.mp H
          obtain ⟨⟨t233, t234⟩, A140, H⟩ := H
          replace H : (some (t233, t234)) = some (r1, r2) := H
          have A14 := Aside0.mk A140
          clear A140
          simp only [Option.some.injEq, Prod.mk.injEq] at H
          obtain ⟨rfl, rfl⟩ := H
          go_wp2_with (first | ((with_reducible refine gate_callee (f := 75) rfl ?_); refine goesL_ (some 34) rfl rfl Tryd.func75 (by kernel_rfl) rfl #[.slice A0 l0.length c0, .int .i64 t226, .int .i64 2] rfl argsB ?_; (with_reducible refine (impl_withState.calls kj4 _ _ l0 t226 2 t233 t234 _ ?side1 ?side2 A14.out).mono ?_); (case side1 => repeat (first | exact (Kd.C_below HR0.out HB.out) | (with_reducible refine Kd.C_alloc ?_ _) | (with_reducible refine Kd.C_drewN ?_ _) | (with_reducible refine Kd.C_drew ?_))); (case side2 => exact HC0.out); rintro e w15 ⟨v235, rfl, ho0, hb⟩; refine ⟨_, rfl, ?_⟩; have n0_ := Aside0.mk (Kd.R_lower ho0 (below_size (upB HB.out))); have n1_ := Aside0.mk (below_step (upB HB.out) hb); clear HB; have HO236 := n0_; have HB := n1_; clear n0_ n1_; (try clear hb); (try clear ho0)))
          go_ret2
          exact ⟨_, by first | rfl | (simp [errW_none, errW_some] <;> rfl) | (simp [*, errW_none, errW_some] <;> rfl), by (with_reducible repeat (first | apply Kd.R_alloc | apply Kd.R_drewN | apply Kd.R_drew)); exact HO236.out, (upB HB.out)⟩

end Go.Proofs.YtgeioccfjgpijaaDoor.QFnExactDecidePermit
