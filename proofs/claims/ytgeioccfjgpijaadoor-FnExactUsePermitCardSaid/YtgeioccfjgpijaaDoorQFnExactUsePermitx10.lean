/- Contracts of Go functions that FnExactUsePermit reaches: the call computes what the plain function says. No condition. -/
import Derived.Test.YtgeioccfjgpijaaDoorQFnExactUsePermitx0
import Derived.Test.YtgeioccfjgpijaaDoorQFnExactUsePermitx8
import Derived.Test.YtgeioccfjgpijaaDoorQFnExactUsePermitx9
namespace Go.Proofs.YtgeioccfjgpijaaDoor.QFnExactUsePermit
open Go.RowKit Go.Proofs.YtgeioccfjgpijaaDoorW.PrintWords Go.Proofs.YtgeioccfjgpijaaDoorW.PrintLast Go.Proofs.YtgeioccfjgpijaaDoorW.PrintMore
attribute [local go_sem] max2_int min2_int max_two min_two max_three min_three max_four min_four   -- for this text's walks alone
set_option linter.unusedVariables false
set_option linter.unusedSimpArgs false

/-! ### impl_xPermitId: function 141 -/
set_option maxHeartbeats 4000000 in
set_option maxRecDepth 100000 in
theorem IndexFunc_permitId (p : S26 → Bool) (V : Value) (A0 : Option Addr) (c0 : Nat) (l0 : List (S26)) (w : World) (hr0 : Kd.C k26 w A0 l0.length l0) (hc0 : l0.length ≤ c0)
    (hp : ∀ (x : S26) (W : World), x ∈ l0 → Below w.heap.size w W → Calls Tryd.prog 94 #[.agg #[.int .i64 x.f0, .string x.f1, .int .i64 x.f2, .int .i64 x.f3, .int .i64 x.f4, .int .i64 x.f5], V] W fun e W' => e = .returned (.bool (p x)) ∧ Below W.heap.size W W') :
    Calls Tryd.prog 92 #[.slice A0 l0.length c0, .func (.func 94) #[] #[V]] w fun e w' => e = .returned (.int .i64 (idxP26 p l0 0)) ∧ Below w.heap.size w w' := by
  have hu := Tryd.underlying26
  have hm := hr0.2.1
  go_enter Tryd.func92, Tryd.ntmps92
  go_wp2
  go_loopw [8] (fun v wr => ∃ i : Nat, i ≤ l0.length ∧ v = .int .i64 i ∧ idxP26 p l0 0 = idxP26 p (l0.drop i) i ∧ Below w.heap.size w wr) (fun v _ => l0.length - (intOf v).toNat)
  case atStart => exact ⟨0, by omega, rfl, by simp, Below.refl _ _⟩
  case round =>
    obtain ⟨i, hi, rfl, he, hb⟩ := hrel
    by_cases hlt : i < l0.length
    · obtain ⟨ad, rfl, h0, h1, h2, h3, h4, h5⟩ := at_T26 (Kd.C_below hr0 hb) (i : Int) (by omega) (by omega)
      have hx : rd_T26 l0 (i : Int) = l0.getD i z26 := by unfold rd_T26; rw [Int.toNat_natCast]
      have hmem := getD_mem' l0 i z26 hlt
      rw [hx] at h0 h1 h2 h3 h4 h5
      rw [getD_drop' l0 i z26 hlt] at he
      generalize l0.getD i z26 = x at h0 h1 h2 h3 h4 h5 he hx hmem
      clear hx
      rw [Int.toNat_natCast] at h0 h1 h2 h3 h4 h5
      cases hpx : p x with
      | true =>
        have hq := hp x wr hmem hb
        rw [hpx] at hq
        have he' := Aside0.mk he
        have hb' := Aside0.mk hb
        have hpx' := Aside0.mk hpx
        clear he hb hp hpx hmem
        go_wp2_with (go_at_call 94; refine hq.mono ?_; rintro e w1 ⟨rfl, hb1⟩)
        go_ret
        refine ⟨?_, hb'.out.trans (hb1.mono hb'.out.size)⟩
        rw [he'.out, idxP26, if_pos hpx'.out]
        rfl
      | false =>
        have hq := hp x wr hmem hb
        rw [hpx] at hq
        have he' := Aside0.mk he
        have hb' := Aside0.mk hb
        have hpx' := Aside0.mk hpx
        have hp' := Aside0.mk hp
        clear he hb hp hpx hmem
        go_wp2_with (go_at_call 94; refine hq.mono ?_; rintro e w1 ⟨rfl, hb1⟩)
        go_roundw
        case rel => exact ⟨i + 1, by omega, by go_num, by rw [he'.out, idxP26, hpx'.out]; rfl, hb'.out.trans (hb1.mono hb'.out.size)⟩
        case measure => simp [intOf]; omega
    · have hd : l0.drop i = [] := List.drop_eq_nil_of_le (by omega)
      rw [hd] at he
      have he' := Aside0.mk he
      have hb' := Aside0.mk hb
      clear he hb hp hd
      go_wp2
      go_ret
      exact ⟨by rw [he'.out, idxP26]; rfl, hb'.out⟩

theorem permitIdClosure (x : S26) (q : Int) (b : Nat) (W : World) (h : W.cell? ⟨b, 0, none⟩ = some (.int .i64 q)) :
    Calls Tryd.prog 94 #[.agg #[.int .i64 x.f0, .string x.f1, .int .i64 x.f2, .int .i64 x.f3, .int .i64 x.f4, .int .i64 x.f5], .pointer (some ⟨b, 0, none⟩)] W fun e W' => e = .returned (.bool (x.f0 == q)) ∧ Below W.heap.size W W' := by
  have hu := Tryd.underlying26
  have hl := World.block_lt_of_cell? W _ h
  go_enter Tryd.func94, Tryd.ntmps94
  go_wp2
  go_ret
  exact ⟨rfl, ((Below.refl _ W).alloc (Nat.le_refl _) _)⟩
def impl_xPermitId.f (l0 : List (S26)) (a1 : Int) : Option Int := some (idxP26 (fun x => x.f0 == a1) l0 0)
theorem impl_xPermitId.calls (A0 : Option Addr) (c0 : Nat) (l0 : List (S26)) (a1 : Int) (r : Int) (w : World) (hr0 : Kd.C k26 w A0 l0.length l0) (hc0 : l0.length ≤ c0) (h : impl_xPermitId.f l0 a1 = some r) {b : Nat} (hcell : w.cell? ⟨b, 0, none⟩ = some (.int .i64 a1) := by first | assumption | simp) :
    Calls Tryd.prog 92 #[.slice A0 l0.length c0, .func (.func 94) #[] #[.pointer (some ⟨b, 0, none⟩)]] w fun e w' => e = .returned (.int .i64 r) ∧ Below w.heap.size w w' := by
  obtain rfl := Option.some.inj h
  have hl := World.block_lt_of_cell? w _ hcell
  exact IndexFunc_permitId (fun x => x.f0 == a1) (.pointer (some ⟨b, 0, none⟩)) A0 c0 l0 w hr0 hc0 (fun x W _ hB => permitIdClosure x a1 b W ((hB.cell hl).trans hcell))

/-! ### impl_permitAt: function 74 -/
def impl_permitAt.f (k : Nat) (l0 : List (S26)) (a1 : Int) : Option (Int × Bool) := (impl_xPermitId.f l0 a1).bind fun t226 => (if t226 ≥ 0 then ((impl_ArePermits.f k l0).bind fun t227 => (some (t226, t227))) else (some (t226, false)))
theorem impl_permitAt.mono : ∀ a0 a1 k, LeO (impl_permitAt.f k a0 a1) (impl_permitAt.f (k + 1) a0 a1) := by
  intro a0 a1 k
  unfold impl_permitAt.f
  repeat' first
      | (with_reducible exact impl_ArePermits.mono _ _)
      | (with_reducible exact LeO.refl _)
      | (with_reducible exact LeO.none _)
      | (with_reducible refine LeO.ite ?_ ?_)
      | (with_reducible refine LeO.bind ?_ (fun _ => ?_))
      | exact impl_ArePermits.mono _ _
      | exact LeO.none _
      | refine LeO.ite ?_ ?_
      | refine LeO.bind ?_ (fun _ => ?_)
set_option maxHeartbeats 8000000 in
set_option maxRecDepth 100000 in
theorem impl_permitAt.calls (k : Nat) (A0 : Option Addr) (c0 : Nat) (l0 : List (S26)) (a1 : Int) (r1 : Int) (r2 : Bool) (w : World) (hr0 : Kd.C k26 w A0 l0.length l0) (hc0 : l0.length ≤ c0) (h : impl_permitAt.f k l0 a1 = some (r1, r2)) :
    Calls Tryd.prog 74 #[.slice A0 l0.length c0, .int .i64 a1] w fun e w' => e = .returned (.tuple #[.int .i64 r1, .bool r2]) ∧ Below w.heap.size w w' := by
  have HR0 := Aside0.mk hr0
  have HC0 := Aside0.mk hc0
  clear hr0 hc0
  have HB := Aside0.mk (Below.refl w.heap.size w)
  have H : ((impl_xPermitId.f l0 a1).bind fun t226 => (if t226 ≥ 0 then ((impl_ArePermits.f k l0).bind fun t227 => (some (t226, t227))) else (some (t226, false)))) = some (r1, r2) := h
  clear h
  replace H := Option.bind_eq_some_iff.mp H
  obtain ⟨t226, A30, H⟩ := H
  replace H : (if t226 ≥ 0 then ((impl_ArePermits.f k l0).bind fun t227 => (some (t226, t227))) else (some (t226, false))) = some (r1, r2) := H
  have A3 := Aside0.mk A30
  clear A30
  by_cases c4 : t226 ≥ 0
  · rw [if_pos c4] at H
    have c4b0 : decide (0 ≤ t226) = true := decide_eq_true c4
    clear c4
    replace H := Option.bind_eq_some_iff.mp H
    obtain ⟨t227, A50, H⟩ := H
    replace H : (some (t226, t227)) = some (r1, r2) := H
    have A5 := Aside0.mk A50
    clear A50
    simp only [Option.some.injEq, Prod.mk.injEq] at H
    obtain ⟨rfl, rfl⟩ := H
    go_enter Tryd.func74, Tryd.ntmps74
    go_wp2_with (first | ((with_reducible refine gate_callee (f := 92) rfl ?_); refine goesL_ (some 9) rfl rfl Tryd.func92 (by kernel_rfl) rfl #[.slice A0 l0.length c0, .func (.func 94) #[] #[.pointer (some ⟨w.heap.size, 0, none⟩)]] rfl argsB ?_; (with_reducible refine (impl_xPermitId.calls _ _ l0 a1 t226 _ ?side1 ?side2 A3.out).mono ?_); (case side1 => repeat (first | exact HR0.out | (with_reducible refine Kd.C_alloc ?_ _) | (with_reducible refine Kd.C_drewN ?_ _) | (with_reducible refine Kd.C_drew ?_))); (case side2 => exact HC0.out); rintro e w6 ⟨rfl, hb⟩; refine ⟨_, rfl, ?_⟩; have n0_ := Aside0.mk (below_step (upB HB.out) hb); clear HB; have HB := n0_; clear n0_; (try clear hb)) | (go_at_call 21; (with_reducible refine (impl_ArePermits.calls k _ _ l0 t227 _ ?side1 ?side2 A5.out).mono ?_); (case side1 => repeat (first | exact (Kd.C_below HR0.out HB.out) | (with_reducible refine Kd.C_alloc ?_ _) | (with_reducible refine Kd.C_drewN ?_ _) | (with_reducible refine Kd.C_drew ?_))); (case side2 => exact HC0.out); rintro e w7 ⟨rfl, hb⟩; have n0_ := Aside0.mk (below_step (upB HB.out) hb); clear HB; have HB := n0_; clear n0_; (try clear hb)))
    go_ret2
    exact ⟨by first | rfl | (simp [errW_none, errW_some] <;> rfl) | (simp [*, errW_none, errW_some] <;> rfl), (upB HB.out)⟩
  · rw [if_neg c4] at H
    have c4b0 : decide (0 ≤ t226) = false := decide_eq_false c4
    clear c4
    simp only [Option.some.injEq, Prod.mk.injEq] at H
    obtain ⟨rfl, rfl⟩ := H
    go_enter Tryd.func74, Tryd.ntmps74
    go_wp2_with (first | ((with_reducible refine gate_callee (f := 92) rfl ?_); refine goesL_ (some 9) rfl rfl Tryd.func92 (by kernel_rfl) rfl #[.slice A0 l0.length c0, .func (.func 94) #[] #[.pointer (some ⟨w.heap.size, 0, none⟩)]] rfl argsB ?_; (with_reducible refine (impl_xPermitId.calls _ _ l0 a1 t226 _ ?side1 ?side2 A3.out).mono ?_); (case side1 => repeat (first | exact HR0.out | (with_reducible refine Kd.C_alloc ?_ _) | (with_reducible refine Kd.C_drewN ?_ _) | (with_reducible refine Kd.C_drew ?_))); (case side2 => exact HC0.out); rintro e w8 ⟨rfl, hb⟩; refine ⟨_, rfl, ?_⟩; have n0_ := Aside0.mk (below_step (upB HB.out) hb); clear HB; have HB := n0_; clear n0_; (try clear hb)))
    go_ret2
    exact ⟨by first | rfl | (simp [errW_none, errW_some] <;> rfl) | (simp [*, errW_none, errW_some] <;> rfl), (upB HB.out)⟩

/-! ### impl_Permit_68: function 68 -/
def impl_Permit_68.f (l0 : List (S26)) : Option (List (S26)) := if l0.length * 56 ≤ 140737488351232 then some l0 else none
theorem infoC26 : (Tryd.prog.info? 26).map (fun i => (i.zero, i.size, i.bytes)) = some (some (.agg #[(.int .i64 0), (.string ByteArray.empty), (.int .i64 0), (.int .i64 0), (.int .i64 0), (.int .i64 0)]), 6, 56) := by kernel_rfl
set_option maxHeartbeats 4000000 in
set_option maxRecDepth 100000 in
theorem impl_Permit_68.calls (A0 : Option Addr) (c0 : Nat) (l0 : List (S26)) (r : List (S26)) (w : World) (hr0 : Kd.C k26 w A0 l0.length l0) (hc0 : l0.length ≤ c0) (h : impl_Permit_68.f l0 = some r) :
    Calls Tryd.prog 68 #[.slice A0 l0.length c0] w fun e w' => ∃ v0_ : Value, e = .returned (v0_) ∧ Kd.R k26 26 w' w.heap.size (fun _ => True) v0_ r ∧ Below w.heap.size w w' := by
  have q22 : ∀ (w : World) (a : Option Addr) (n c n' c' : Nat), (binOp .eql 32 (.slice a n c) (.slice none n' c')).run Tryd.prog w = .ok (.bool a.isNone) w := fun w a n c n' c' => Go.Lib.run_eql_slice_nil w _ _ a n c n' c' Tryd.underlying32
  unfold impl_Permit_68.f at h
  split at h
  · rename_i hb
    obtain rfl := Option.some.inj h
    cases A0 with
    | none =>
      have h0 : l0 = [] := by
        rcases Nat.eq_zero_or_pos l0.length with h0 | h0
        · exact List.eq_nil_of_length_eq_zero h0
        · obtain ⟨ad, he, _⟩ := hr0.2.2 h0
          cases he
      subst h0
      go_enter Tryd.func68, Tryd.ntmps68
      go_wp2
      go_ret
      exact ⟨_, rfl, Kd.R_nil _ _ _ _ _, Below.refl _ _⟩
    | some ad =>
      have HR := Aside0.mk hr0
      clear hr0
      go_enter Tryd.func68, Tryd.ntmps68
      go_wp2_with (first | ((with_reducible refine gate_dst (N := 5) rfl ?_); refine Kd.R_lit k26 _ 26 ?hg (N := 5) ?hd (xs := ([] : List (S26))) (inner := []) (ok := fun _ => True) (okp := fun _ => True) ?hr ?hp (fun _ hk => hk) trivial (Below.refl _ _) (Nat.le_refl _) (by simp) ?_; (case hd => rfl); (case hg => rfl); (case hr => first | (go_simp; done) | (go_simp; rfl)); (case hp => exact (Reps.none _ _)); intro v1 w1 ho hb1 _ _; have HO := Aside0.mk ho; have HB := Aside0.mk hb1; clear ho hb1) | ((with_reducible refine gate_builtin (b := .append) (xs := #[.tmp 5, .tmp 6]) rfl ?_); at_builtin; refine Kd.R_append_rows k26 (w0 := w) w.heap.size rfl (.tmp 5) (.tmp 6) 32 26 (.agg #[(.int .i64 0), (.string ByteArray.empty), (.int .i64 0), (.int .i64 0), (.int .i64 0), (.int .i64 0)]) 56 rfl Tryd.underlying32 infoC26 rfl (by decide) (by omega) _ ([] : List (S26)) l0 _ _ _ (fun _ => True) (fun _ => False) rfl rfl ?aO ?aR (fun _ _ h => h) (fun _ h => h.elim) ?aF ?aB ?aS ?aL ?_; (case aO => exact HO.out); (case aR => exact Kd.C_below HR.out HB.out); (case aF => exact fun _ _ => trivial); (case aB => exact HB.out); (case aS => exact below_size HB.out); (case aL => simp only [List.length_nil]; omega); intro v2 w2 ho2 hb2 _ _; have HO2 := Aside0.mk ho2; have HB2 := Aside0.mk hb2; clear ho2 hb2))
      go_ret
      refine ⟨_, rfl, ?_, HB2.out⟩
      have := HO2.out
      rwa [List.nil_append] at this
  · cases h


/-! ### impl_withState: function 75 -/
def impl_withState.f (k : Nat) (l0 : List (S26)) (a1 : Int) (a2 : Int) : Option ((List (S26)) × Bool) := (impl_Permit_68.f l0).bind fun t228 => (if 0 ≤ a1 then (if a1 < (t228.length : Int) then ((some (t228.set (a1 : Int).toNat (⟨(rd_T26 t228 a1).f0, (rd_T26 t228 a1).f1, (rd_T26 t228 a1).f2, (rd_T26 t228 a1).f3, (rd_T26 t228 a1).f4, a2⟩ : S26) : List (S26))).bind fun y231 => ((impl_ArePermits.f k y231).bind fun t232 => (if t232 = true then (some (y231, true)) else (some (([] : List (S26)), false))))) else (none)) else (none))
theorem impl_withState.mono : ∀ a0 a1 a2 k, LeO (impl_withState.f k a0 a1 a2) (impl_withState.f (k + 1) a0 a1 a2) := by
  intro a0 a1 a2 k
  unfold impl_withState.f
  repeat' first
      | (with_reducible exact impl_ArePermits.mono _ _)
      | (with_reducible exact LeO.refl _)
      | (with_reducible exact LeO.none _)
      | (with_reducible refine LeO.ite ?_ ?_)
      | (with_reducible refine LeO.bind ?_ (fun _ => ?_))
      | exact impl_ArePermits.mono _ _
      | exact LeO.none _
      | refine LeO.ite ?_ ?_
      | refine LeO.bind ?_ (fun _ => ?_)
set_option maxHeartbeats 8000000 in
set_option maxRecDepth 100000 in
theorem impl_withState.calls (k : Nat) (A0 : Option Addr) (c0 : Nat) (l0 : List (S26)) (a1 : Int) (a2 : Int) (r1 : List (S26)) (r2 : Bool) (w : World) (hr0 : Kd.C k26 w A0 l0.length l0) (hc0 : l0.length ≤ c0) (h : impl_withState.f k l0 a1 a2 = some (r1, r2)) :
    Calls Tryd.prog 75 #[.slice A0 l0.length c0, .int .i64 a1, .int .i64 a2] w fun e w' => ∃ v0_ : Value, e = .returned (.tuple #[v0_, .bool r2]) ∧ Kd.R k26 26 w' w.heap.size (fun _ => True) v0_ r1 ∧ Below w.heap.size w w' := by
  have HR0 := Aside0.mk hr0
  have HC0 := Aside0.mk hc0
  clear hr0 hc0
  have HB := Aside0.mk (Below.refl w.heap.size w)
  have H : ((impl_Permit_68.f l0).bind fun t228 => (if 0 ≤ a1 then (if a1 < (t228.length : Int) then ((some (t228.set (a1 : Int).toNat (⟨(rd_T26 t228 a1).f0, (rd_T26 t228 a1).f1, (rd_T26 t228 a1).f2, (rd_T26 t228 a1).f3, (rd_T26 t228 a1).f4, a2⟩ : S26) : List (S26))).bind fun y231 => ((impl_ArePermits.f k y231).bind fun t232 => (if t232 = true then (some (y231, true)) else (some (([] : List (S26)), false))))) else (none)) else (none))) = some (r1, r2) := h
  clear h
  replace H := Option.bind_eq_some_iff.mp H
  obtain ⟨t228, A40, H⟩ := H
  replace H : (if 0 ≤ a1 then (if a1 < (t228.length : Int) then ((some (t228.set (a1 : Int).toNat (⟨(rd_T26 t228 a1).f0, (rd_T26 t228 a1).f1, (rd_T26 t228 a1).f2, (rd_T26 t228 a1).f3, (rd_T26 t228 a1).f4, a2⟩ : S26) : List (S26))).bind fun y231 => ((impl_ArePermits.f k y231).bind fun t232 => (if t232 = true then (some (y231, true)) else (some (([] : List (S26)), false))))) else (none)) else (none)) = some (r1, r2) := H
  have A4 := Aside0.mk A40
  clear A40
  by_cases c5 : 0 ≤ a1
  · rw [if_pos c5] at H
    have c5b0 : decide (0 ≤ a1) = true := decide_eq_true c5
    clear c5
    by_cases c6 : a1 < (t228.length : Int)
    · rw [if_pos c6] at H
      have c6b0 : decide (a1 < (t228.length : Int)) = true := decide_eq_true c6
      clear c6
      obtain ⟨y231, hy231⟩ : ∃ y_ : List (S26), y_ = (t228.set (a1 : Int).toNat (⟨(rd_T26 t228 a1).f0, (rd_T26 t228 a1).f1, (rd_T26 t228 a1).f2, (rd_T26 t228 a1).f3, (rd_T26 t228 a1).f4, a2⟩ : S26)) := ⟨_, rfl⟩
      replace H : ((impl_ArePermits.f k y231).bind fun t232 => (if t232 = true then (some (y231, true)) else (some (([] : List (S26)), false)))) = some (r1, r2) := by first | (rw [hy231]; with_reducible exact H) | (have H2_ := (Option.bind_some _ _).symm.trans H; rw [hy231]; with_reducible exact H2_) | (have H2_ := (Option.bind_some _ _).symm.trans H; with_reducible exact H2_) | with_reducible exact H | (rw [hy231]; exact H) | exact H
      have Ny231 := Aside0.mk hy231
      clear hy231
      replace H := Option.bind_eq_some_iff.mp H
      obtain ⟨t232, A80, H⟩ := H
      replace H : (if t232 = true then (some (y231, true)) else (some (([] : List (S26)), false))) = some (r1, r2) := H
      have A8 := Aside0.mk A80
      clear A80
      by_cases c9 : t232 = true
      · subst c9
        have H1 : (some (y231, true)) = some (r1, r2) := by rw [if_pos rfl] at H; exact H
        clear H
        have H := H1
        clear H1
        simp only [Option.some.injEq, Prod.mk.injEq] at H
        obtain ⟨rfl, rfl⟩ := H
        go_enter Tryd.func75, Tryd.ntmps75
        go_wp2_with (first | ((with_reducible refine gate_callee (f := 68) rfl ?_); refine goesL_ (some 10) rfl rfl Tryd.func68 (by kernel_rfl) rfl #[.slice A0 l0.length c0] rfl argsB ?_; (with_reducible refine (impl_Permit_68.calls _ _ l0 t228 _ ?side1 ?side2 A4.out).mono ?_); (case side1 => repeat (first | exact HR0.out | (with_reducible refine Kd.C_alloc ?_ _) | (with_reducible refine Kd.C_drewN ?_ _) | (with_reducible refine Kd.C_drew ?_))); (case side2 => exact HC0.out); rintro e w10 ⟨v229, rfl, ho0, hb⟩; refine ⟨_, rfl, ?_⟩; have n0_ := Aside0.mk (Kd.R_lower ho0 (below_size (upB HB.out))); have n1_ := Aside0.mk (below_step (upB HB.out) hb); clear HB; have HO230 := n0_; have HB := n1_; clear n0_ n1_; (try clear hb); (try clear hk); (try clear ho0); have p7 : 0 ≤ (a1 : Int) := of_decide_eq_true asmB; have q7 : (a1 : Int) < ((t228.length : Int) : Int) := of_decide_eq_true asmB; obtain ⟨go7, co7, eo7, gb7, gl7, cl7, HG7⟩ := Kd.R_form HO230.out (by omega); (first | cases eo7 | (injection eo7 with ea_ en_ ec_; (first | subst ea_ | (injection ea_ with ea_; subst ea_)); subst ec_; clear en_)); have GB7 := Aside0.mk gb7; have GG7 := Aside0.mk HG7; clear gb7 gl7 HG7; obtain ⟨ce7, hcl7, hM7, hcc7, hfr7⟩ := Kd.R_elem HO230.out z26 (a1 : Int) p7 q7; obtain rfl := k26_openM hM7; have hx7_0 : w10.cell? ⟨go7, (a1 : Int).toNat * 6, none⟩ = some (.int .i64 ((rd_T26 t228 a1).f0)) := hcc7 0 _ rfl; have hx7_1 : w10.cell? ⟨go7, (a1 : Int).toNat * 6 + 1, none⟩ = some (.string ((rd_T26 t228 a1).f1)) := hcc7 1 _ rfl; have hx7_2 : w10.cell? ⟨go7, (a1 : Int).toNat * 6 + 2, none⟩ = some (.int .i64 ((rd_T26 t228 a1).f2)) := hcc7 2 _ rfl; have hx7_3 : w10.cell? ⟨go7, (a1 : Int).toNat * 6 + 3, none⟩ = some (.int .i64 ((rd_T26 t228 a1).f3)) := hcc7 3 _ rfl; have hx7_4 : w10.cell? ⟨go7, (a1 : Int).toNat * 6 + 4, none⟩ = some (.int .i64 ((rd_T26 t228 a1).f4)) := hcc7 4 _ rfl; have hx7_5 : w10.cell? ⟨go7, (a1 : Int).toNat * 6 + 5, none⟩ = some (.int .i64 ((rd_T26 t228 a1).f5)) := hcc7 5 _ rfl; have hf7_0 : w10.frozen? ⟨go7, (a1 : Int).toNat * 6, none⟩ = false := hfr7 0; have hf7_1 : w10.frozen? ⟨go7, (a1 : Int).toNat * 6 + 1, none⟩ = false := hfr7 1; have hf7_2 : w10.frozen? ⟨go7, (a1 : Int).toNat * 6 + 2, none⟩ = false := hfr7 2; have hf7_3 : w10.frozen? ⟨go7, (a1 : Int).toNat * 6 + 3, none⟩ = false := hfr7 3; have hf7_4 : w10.frozen? ⟨go7, (a1 : Int).toNat * 6 + 4, none⟩ = false := hfr7 4; have hf7_5 : w10.frozen? ⟨go7, (a1 : Int).toNat * 6 + 5, none⟩ = false := hfr7 5; clear hcl7 hcc7 hfr7 hM7; replace p7 := eq_true p7; replace q7 := eq_true q7; have HX11 := Aside0.mk (show Kd.R k26 26 w10 w.heap.size (fun _ => True) (.slice (some ⟨go7, 0, none⟩) t228.length co7) t228 from (upR HO230.out)); obtain ⟨ce11, hcl11, hM11, hcc11, hfr11⟩ := Kd.R_elem HX11.out z26 (a1 : Int) (of_decide_eq_true asmB) (by have h_ : (a1 : Int) < ((t228.length : Int) : Int) := of_decide_eq_true asmB; first | exact h_ | (have e_ := (Kd.R_reads' HO230.out).1; omega) | simpa using h_); obtain rfl := k26_openM hM11; have HP11 := Kd.R_seg HX11.out (a1 : Int) (of_decide_eq_true asmB) (by have h_ : (a1 : Int) < ((t228.length : Int) : Int) := of_decide_eq_true asmB; first | exact h_ | (have e_ := (Kd.R_reads' HO230.out).1; omega) | simpa using h_) (seg := [.int .i64 a2]) (j := 5) hcl11 hcc11 (show 6 ≤ 6 from by decide) (x' := (⟨(rd_T26 t228 a1).f0, (rd_T26 t228 a1).f1, (rd_T26 t228 a1).f2, (rd_T26 t228 a1).f3, (rd_T26 t228 a1).f4, a2⟩ : S26)) (k26_mkM _ _ _ (⟨(rd_T26 t228 a1).f0, (rd_T26 t228 a1).f1, (rd_T26 t228 a1).f2, (rd_T26 t228 a1).f3, (rd_T26 t228 a1).f4, a2⟩ : S26) ) (fun _ hk => hk); have hx11_5 := hcc11 5 _ rfl; (try simp only [show (k26).sz = 6 from rfl, Nat.mul_one, Nat.add_zero] at hx11_5); have hf11_5 := hfr11 5; (try simp only [show (k26).sz = 6 from rfl, Nat.mul_one, Nat.add_zero] at hf11_5); clear hcl11 hcc11 hfr11 hM11) | ((with_reducible refine gate_store (t := 3) (p := 15) rfl ?_); refine store_event (t := 3) (p := 15) (v := ?vo_w12) (w1 := (w10.setCell ⟨go7, (a1 : Int).toNat * 6 + 5, none⟩ (.int .i64 a2))) ?hg ?ho ?hn ?hr ?_; (case ho => rfl); (case hg => rfl); (case hn => rfl); (case hr => first | (go_simp; done) | (go_simp; rfl)); intro w12 hw; have hg : w10.grownBy w12 (some go7) := (by rw [hw]; exact HP11.2); have hp_ : Kd.R k26 26 w12 w.heap.size (fun _ => True) (.slice (some ⟨go7, 0, none⟩) t228.length co7) y231 := (by rw [hw, Ny231.out]; exact HP11.1); clear HP11; have n0_ := Aside0.mk (hp_); have n1_ := Aside0.mk ((by rw [hw]; exact below_set (HB.out) GB7.out : Below w.heap.size w w12)); clear HO230; clear HB; have HO230 := n0_; have HB := n1_; clear n0_ n1_; clear hg hw hp_) | ((with_reducible refine gate_callee (f := 21) rfl ?_); refine goesL_ (some 17) rfl rfl Tryd.func21 (by kernel_rfl) rfl #[.slice (some ⟨go7, 0, none⟩) y231.length co7] rfl (by (try simp only [List.map_toArray, List.map_cons, List.map_nil]); first | done | (rw [show y231.length = t228.length from (Kd.R_reads' HO230.out).1.symm] <;> rfl) | rfl | (simp only [List.length_drop, List.length_take]; rfl)) ?_; (with_reducible refine (impl_ArePermits.calls k _ _ y231 true _ ?side1 ?side2 A8.out).mono ?_); (case side1 => repeat (first | exact (Kd.R_reads' HO230.out).2.2 | (with_reducible refine Kd.C_alloc ?_ _) | (with_reducible refine Kd.C_drewN ?_ _) | (with_reducible refine Kd.C_drew ?_))); (case side2 => rw [show y231.length = t228.length from (Kd.R_reads' HO230.out).1.symm]; exact (Kd.R_reads' HO230.out).2.1); rintro e w13 ⟨rfl, hb⟩; refine ⟨_, rfl, ?_⟩; have n0_ := Aside0.mk (Kd.R_below (upR HO230.out) hb); have n1_ := Aside0.mk (below_step (upB HB.out) hb); clear HO230; clear HB; have HO230 := n0_; have HB := n1_; clear n0_ n1_; (try clear hb); (try clear hk)))
        go_ret2
        exact ⟨_, by first | rfl | (simp [errW_none, errW_some] <;> rfl) | (simp [*, errW_none, errW_some] <;> rfl), by (with_reducible repeat (first | apply Kd.R_alloc | apply Kd.R_drewN | apply Kd.R_drew)); exact HO230.out, (upB HB.out)⟩
      · replace c9 := Bool.eq_false_iff.mpr c9
        subst c9
        have H1 : (some (([] : List (S26)), false)) = some (r1, r2) := by rw [if_neg (show ¬ (false = true) by decide)] at H; exact H
        clear H
        have H := H1
        clear H1
        simp only [Option.some.injEq, Prod.mk.injEq] at H
        obtain ⟨rfl, rfl⟩ := H
        go_enter Tryd.func75, Tryd.ntmps75
        go_wp2_with (first | ((with_reducible refine gate_callee (f := 68) rfl ?_); refine goesL_ (some 10) rfl rfl Tryd.func68 (by kernel_rfl) rfl #[.slice A0 l0.length c0] rfl argsB ?_; (with_reducible refine (impl_Permit_68.calls _ _ l0 t228 _ ?side1 ?side2 A4.out).mono ?_); (case side1 => repeat (first | exact HR0.out | (with_reducible refine Kd.C_alloc ?_ _) | (with_reducible refine Kd.C_drewN ?_ _) | (with_reducible refine Kd.C_drew ?_))); (case side2 => exact HC0.out); rintro e w14 ⟨v229, rfl, ho0, hb⟩; refine ⟨_, rfl, ?_⟩; have n0_ := Aside0.mk (Kd.R_lower ho0 (below_size (upB HB.out))); have n1_ := Aside0.mk (below_step (upB HB.out) hb); clear HB; have HO230 := n0_; have HB := n1_; clear n0_ n1_; (try clear hb); (try clear hk); (try clear ho0); have p7 : 0 ≤ (a1 : Int) := of_decide_eq_true asmB; have q7 : (a1 : Int) < ((t228.length : Int) : Int) := of_decide_eq_true asmB; obtain ⟨go7, co7, eo7, gb7, gl7, cl7, HG7⟩ := Kd.R_form HO230.out (by omega); (first | cases eo7 | (injection eo7 with ea_ en_ ec_; (first | subst ea_ | (injection ea_ with ea_; subst ea_)); subst ec_; clear en_)); have GB7 := Aside0.mk gb7; have GG7 := Aside0.mk HG7; clear gb7 gl7 HG7; obtain ⟨ce7, hcl7, hM7, hcc7, hfr7⟩ := Kd.R_elem HO230.out z26 (a1 : Int) p7 q7; obtain rfl := k26_openM hM7; have hx7_0 : w14.cell? ⟨go7, (a1 : Int).toNat * 6, none⟩ = some (.int .i64 ((rd_T26 t228 a1).f0)) := hcc7 0 _ rfl; have hx7_1 : w14.cell? ⟨go7, (a1 : Int).toNat * 6 + 1, none⟩ = some (.string ((rd_T26 t228 a1).f1)) := hcc7 1 _ rfl; have hx7_2 : w14.cell? ⟨go7, (a1 : Int).toNat * 6 + 2, none⟩ = some (.int .i64 ((rd_T26 t228 a1).f2)) := hcc7 2 _ rfl; have hx7_3 : w14.cell? ⟨go7, (a1 : Int).toNat * 6 + 3, none⟩ = some (.int .i64 ((rd_T26 t228 a1).f3)) := hcc7 3 _ rfl; have hx7_4 : w14.cell? ⟨go7, (a1 : Int).toNat * 6 + 4, none⟩ = some (.int .i64 ((rd_T26 t228 a1).f4)) := hcc7 4 _ rfl; have hx7_5 : w14.cell? ⟨go7, (a1 : Int).toNat * 6 + 5, none⟩ = some (.int .i64 ((rd_T26 t228 a1).f5)) := hcc7 5 _ rfl; have hf7_0 : w14.frozen? ⟨go7, (a1 : Int).toNat * 6, none⟩ = false := hfr7 0; have hf7_1 : w14.frozen? ⟨go7, (a1 : Int).toNat * 6 + 1, none⟩ = false := hfr7 1; have hf7_2 : w14.frozen? ⟨go7, (a1 : Int).toNat * 6 + 2, none⟩ = false := hfr7 2; have hf7_3 : w14.frozen? ⟨go7, (a1 : Int).toNat * 6 + 3, none⟩ = false := hfr7 3; have hf7_4 : w14.frozen? ⟨go7, (a1 : Int).toNat * 6 + 4, none⟩ = false := hfr7 4; have hf7_5 : w14.frozen? ⟨go7, (a1 : Int).toNat * 6 + 5, none⟩ = false := hfr7 5; clear hcl7 hcc7 hfr7 hM7; replace p7 := eq_true p7; replace q7 := eq_true q7; have HX15 := Aside0.mk (show Kd.R k26 26 w14 w.heap.size (fun _ => True) (.slice (some ⟨go7, 0, none⟩) t228.length co7) t228 from (upR HO230.out)); obtain ⟨ce15, hcl15, hM15, hcc15, hfr15⟩ := Kd.R_elem HX15.out z26 (a1 : Int) (of_decide_eq_true asmB) (by have h_ : (a1 : Int) < ((t228.length : Int) : Int) := of_decide_eq_true asmB; first | exact h_ | (have e_ := (Kd.R_reads' HO230.out).1; omega) | simpa using h_); obtain rfl := k26_openM hM15; have HP15 := Kd.R_seg HX15.out (a1 : Int) (of_decide_eq_true asmB) (by have h_ : (a1 : Int) < ((t228.length : Int) : Int) := of_decide_eq_true asmB; first | exact h_ | (have e_ := (Kd.R_reads' HO230.out).1; omega) | simpa using h_) (seg := [.int .i64 a2]) (j := 5) hcl15 hcc15 (show 6 ≤ 6 from by decide) (x' := (⟨(rd_T26 t228 a1).f0, (rd_T26 t228 a1).f1, (rd_T26 t228 a1).f2, (rd_T26 t228 a1).f3, (rd_T26 t228 a1).f4, a2⟩ : S26)) (k26_mkM _ _ _ (⟨(rd_T26 t228 a1).f0, (rd_T26 t228 a1).f1, (rd_T26 t228 a1).f2, (rd_T26 t228 a1).f3, (rd_T26 t228 a1).f4, a2⟩ : S26) ) (fun _ hk => hk); have hx15_5 := hcc15 5 _ rfl; (try simp only [show (k26).sz = 6 from rfl, Nat.mul_one, Nat.add_zero] at hx15_5); have hf15_5 := hfr15 5; (try simp only [show (k26).sz = 6 from rfl, Nat.mul_one, Nat.add_zero] at hf15_5); clear hcl15 hcc15 hfr15 hM15) | ((with_reducible refine gate_store (t := 3) (p := 15) rfl ?_); refine store_event (t := 3) (p := 15) (v := ?vo_w16) (w1 := (w14.setCell ⟨go7, (a1 : Int).toNat * 6 + 5, none⟩ (.int .i64 a2))) ?hg ?ho ?hn ?hr ?_; (case ho => rfl); (case hg => rfl); (case hn => rfl); (case hr => first | (go_simp; done) | (go_simp; rfl)); intro w16 hw; have hg : w14.grownBy w16 (some go7) := (by rw [hw]; exact HP15.2); have hp_ : Kd.R k26 26 w16 w.heap.size (fun _ => True) (.slice (some ⟨go7, 0, none⟩) t228.length co7) y231 := (by rw [hw, Ny231.out]; exact HP15.1); clear HP15; have n0_ := Aside0.mk (hp_); have n1_ := Aside0.mk ((by rw [hw]; exact below_set (HB.out) GB7.out : Below w.heap.size w w16)); clear HO230; clear HB; have HO230 := n0_; have HB := n1_; clear n0_ n1_; clear hg hw hp_) | ((with_reducible refine gate_callee (f := 21) rfl ?_); refine goesL_ (some 17) rfl rfl Tryd.func21 (by kernel_rfl) rfl #[.slice (some ⟨go7, 0, none⟩) y231.length co7] rfl (by (try simp only [List.map_toArray, List.map_cons, List.map_nil]); first | done | (rw [show y231.length = t228.length from (Kd.R_reads' HO230.out).1.symm] <;> rfl) | rfl | (simp only [List.length_drop, List.length_take]; rfl)) ?_; (with_reducible refine (impl_ArePermits.calls k _ _ y231 false _ ?side1 ?side2 A8.out).mono ?_); (case side1 => repeat (first | exact (Kd.R_reads' HO230.out).2.2 | (with_reducible refine Kd.C_alloc ?_ _) | (with_reducible refine Kd.C_drewN ?_ _) | (with_reducible refine Kd.C_drew ?_))); (case side2 => rw [show y231.length = t228.length from (Kd.R_reads' HO230.out).1.symm]; exact (Kd.R_reads' HO230.out).2.1); rintro e w17 ⟨rfl, hb⟩; refine ⟨_, rfl, ?_⟩; have n0_ := Aside0.mk (Kd.R_below (upR HO230.out) hb); have n1_ := Aside0.mk (below_step (upB HB.out) hb); clear HO230; clear HB; have HO230 := n0_; have HB := n1_; clear n0_ n1_; (try clear hb); (try clear hk)))
        go_ret2
        exact ⟨_, by first | rfl | (simp [errW_none, errW_some] <;> rfl) | (simp [*, errW_none, errW_some] <;> rfl), by first | exact Kd.R_nil _ _ _ _ _ | exact Kd.N_nil _ _ _ _ _ | exact Kd.V_nil _ _ _ _ _ | exact Kd.Q_nil _ _ _ _ _ | exact Kd.S_nil _ _ _ _ _, (upB HB.out)⟩
    · rw [if_neg c6] at H
      exact absurd H (by simp)
  · rw [if_neg c5] at H
    exact absurd H (by simp)

/-! ### impl_UsePermit: function 34 -/
def impl_UsePermit.j0 : Nat → List (S26) → Int → Int → Int → Bool → Option ((List (S26)) × Bool)
  | 0, _, _, _, _, _ => none
  | k + 1, x0, x2, x3, x10, x30 => if x30 = true then (some (([] : List (S26)), false)) else (if 0 ≤ x10 then (if x10 < (x0.length : Int) then ((impl_Permit_counts.f ((rd_T26 x0 x10).f0) ((rd_T26 x0 x10).f1) ((rd_T26 x0 x10).f2) ((rd_T26 x0 x10).f3) ((rd_T26 x0 x10).f4) ((rd_T26 x0 x10).f5)).bind fun t239 => (if t239 = true then ((impl_within.f x2 ((rd_T26 x0 x10).f2) ((rd_T26 x0 x10).f3)).bind fun t240 => (if t240 = true then (if x3 > ((rd_T26 x0 x10).f4) then (some (([] : List (S26)), false)) else ((impl_withState.f k x0 x10 3).bind fun bt241 => (some (bt241.1, bt241.2)))) else (some (([] : List (S26)), false)))) else (some (([] : List (S26)), false)))) else (none)) else (none))
def impl_UsePermit.f (k : Nat) (l0 : List (S26)) (a1 : Int) (a2 : Int) (a3 : Int) : Option ((List (S26)) × Bool) := (impl_permitAt.f k l0 a1).bind fun bt233 => (if bt233.2 = true then ((impl_isDay.f a2).bind fun t235 => (if t235 = true then ((impl_within.f a3 1 12).bind fun t236 => (impl_UsePermit.j0 k l0 a2 a3 bt233.1 (!t236))) else (impl_UsePermit.j0 k l0 a2 a3 bt233.1 true))) else (impl_UsePermit.j0 k l0 a2 a3 bt233.1 true))
theorem impl_UsePermit.mono_l : ∀ k, (∀ y0 y1 y2 y3 y4, LeO (impl_UsePermit.j0 k y0 y1 y2 y3 y4) (impl_UsePermit.j0 (k + 1) y0 y1 y2 y3 y4))
  | 0 => fun _ _ _ _ _ r h => by simp [impl_UsePermit.j0] at h
  | k + 1 => by
    have ih0 := impl_UsePermit.mono_l k
    · intro y0 y1 y2 y3 y4
      unfold impl_UsePermit.j0
      repeat' first
      | (with_reducible exact ih0 _ _ _ _ _)
      | (with_reducible exact impl_permitAt.mono _ _ _)
      | (with_reducible exact impl_withState.mono _ _ _ _)
      | (with_reducible exact LeO.refl _)
      | (with_reducible exact LeO.none _)
      | (with_reducible refine LeO.ite ?_ ?_)
      | (with_reducible refine LeO.bind ?_ (fun _ => ?_))
      | exact ih0 _ _ _ _ _
      | exact impl_permitAt.mono _ _ _
      | exact impl_withState.mono _ _ _ _
      | exact LeO.none _
      | refine LeO.ite ?_ ?_
      | refine LeO.bind ?_ (fun _ => ?_)
theorem impl_UsePermit.mono : ∀ a0 a1 a2 a3 k, LeO (impl_UsePermit.f k a0 a1 a2 a3) (impl_UsePermit.f (k + 1) a0 a1 a2 a3) := by
  intro a0 a1 a2 a3 k
  have ih0 := impl_UsePermit.mono_l k
  unfold impl_UsePermit.f
  repeat' first
      | (with_reducible exact ih0 _ _ _ _ _)
      | (with_reducible exact impl_permitAt.mono _ _ _)
      | (with_reducible exact impl_withState.mono _ _ _ _)
      | (with_reducible exact LeO.refl _)
      | (with_reducible exact LeO.none _)
      | (with_reducible refine LeO.ite ?_ ?_)
      | (with_reducible refine LeO.bind ?_ (fun _ => ?_))
      | exact ih0 _ _ _ _ _
      | exact impl_permitAt.mono _ _ _
      | exact impl_withState.mono _ _ _ _
      | exact LeO.none _
      | refine LeO.ite ?_ ?_
      | refine LeO.bind ?_ (fun _ => ?_)
set_option maxHeartbeats 8000000 in
set_option maxRecDepth 100000 in
theorem impl_UsePermit.calls (k : Nat) (A0 : Option Addr) (c0 : Nat) (l0 : List (S26)) (a1 : Int) (a2 : Int) (a3 : Int) (r1 : List (S26)) (r2 : Bool) (w : World) (hr0 : Kd.C k26 w A0 l0.length l0) (hc0 : l0.length ≤ c0) (h : impl_UsePermit.f k l0 a1 a2 a3 = some (r1, r2)) :
    Calls Tryd.prog 34 #[.slice A0 l0.length c0, .int .i64 a1, .int .i64 a2, .int .i64 a3] w fun e w' => ∃ v0_ : Value, e = .returned (.tuple #[v0_, .bool r2]) ∧ Kd.R k26 26 w' w.heap.size (fun _ => True) v0_ r1 ∧ Below w.heap.size w w' := by
  have hu26 := Tryd.underlying26
  have HR0 := Aside0.mk hr0
  have HC0 := Aside0.mk hc0
  clear hr0 hc0
  have HB := Aside0.mk (Below.refl w.heap.size w)
  have H : ((impl_permitAt.f k l0 a1).bind fun bt233 => (if bt233.2 = true then ((impl_isDay.f a2).bind fun t235 => (if t235 = true then ((impl_within.f a3 1 12).bind fun t236 => (impl_UsePermit.j0 k l0 a2 a3 bt233.1 (!t236))) else (impl_UsePermit.j0 k l0 a2 a3 bt233.1 true))) else (impl_UsePermit.j0 k l0 a2 a3 bt233.1 true))) = some (r1, r2) := h
  clear h
  replace H := Option.bind_eq_some_iff.mp H
  obtain ⟨⟨t233, t234⟩, A50, H⟩ := H
  replace H : (if t234 = true then ((impl_isDay.f a2).bind fun t235 => (if t235 = true then ((impl_within.f a3 1 12).bind fun t236 => (impl_UsePermit.j0 k l0 a2 a3 t233 (!t236))) else (impl_UsePermit.j0 k l0 a2 a3 t233 true))) else (impl_UsePermit.j0 k l0 a2 a3 t233 true)) = some (r1, r2) := H
  have A5 := Aside0.mk A50
  clear A50
  have HC6 := Aside0.mk H
  clear H
  go_enter Tryd.func34, Tryd.ntmps34
  go_upto_region 2 with (first | ((with_reducible refine gate_callee (f := 74) rfl ?_); refine goesL_ (some 16) rfl rfl Tryd.func74 (by kernel_rfl) rfl #[.slice A0 l0.length c0, .int .i64 a1] rfl argsB ?_; (with_reducible refine (impl_permitAt.calls k _ _ l0 a1 t233 t234 _ ?side1 ?side2 A5.out).mono ?_); (case side1 => repeat (first | exact HR0.out | (with_reducible refine Kd.C_alloc ?_ _) | (with_reducible refine Kd.C_drewN ?_ _) | (with_reducible refine Kd.C_drew ?_))); (case side2 => exact HC0.out); rintro e w7 ⟨rfl, hb⟩; refine ⟨_, rfl, ?_⟩; have n0_ := Aside0.mk (below_step (upB HB.out) hb); clear HB; have HB := n0_; clear n0_; (try clear hb); (try clear hk)))
  (try simp only [Act.put, List.setIfInBounds_toArray, List.set_cons_zero, List.set_cons_succ])
  go_cut [30] (fun v30 wc => ∃ (kq : Nat) (x30_5 : Bool), v30 = .bool x30_5 ∧ Aside0 (impl_UsePermit.j0 kq l0 a2 a3 t233 x30_5 = some (r1, r2)) ∧ Aside0 (kq ≤ k) ∧ Aside0 (Below w.heap.size w wc))
  case first =>
    have H := HC6.out
    clear HC6
    by_cases c8 : t234 = true
    · subst c8
      have H1 : ((impl_isDay.f a2).bind fun t235 => (if t235 = true then ((impl_within.f a3 1 12).bind fun t236 => (impl_UsePermit.j0 k l0 a2 a3 t233 (!t236))) else (impl_UsePermit.j0 k l0 a2 a3 t233 true))) = some (r1, r2) := by rw [if_pos rfl] at H; exact H
      clear H
      have H := H1
      clear H1
      replace H := Option.bind_eq_some_iff.mp H
      obtain ⟨t235, A90, H⟩ := H
      replace H : (if t235 = true then ((impl_within.f a3 1 12).bind fun t236 => (impl_UsePermit.j0 k l0 a2 a3 t233 (!t236))) else (impl_UsePermit.j0 k l0 a2 a3 t233 true)) = some (r1, r2) := H
      have A9 := Aside0.mk A90
      clear A90
      by_cases c10 : t235 = true
      · subst c10
        have H1 : ((impl_within.f a3 1 12).bind fun t236 => (impl_UsePermit.j0 k l0 a2 a3 t233 (!t236))) = some (r1, r2) := by rw [if_pos rfl] at H; exact H
        clear H
        have H := H1
        clear H1
        replace H := Option.bind_eq_some_iff.mp H
        obtain ⟨t236, A110, H⟩ := H
        replace H : (impl_UsePermit.j0 k l0 a2 a3 t233 (!t236)) = some (r1, r2) := H
        have A11 := Aside0.mk A110
        clear A110
        have H' := Aside0.mk H
        clear H
        go_wp2_with (first | (go_at_call 56; (with_reducible refine (impl_isDay.calls a2 true _ A9.out).mono ?_); rintro e w' ⟨rfl, ⟨nd, rfl⟩⟩) | (go_at_call 57; (with_reducible refine (impl_within.calls a3 1 12 t236 _ A11.out).mono ?_); rintro e w' ⟨rfl, ⟨nd, rfl⟩⟩))
        go_meet
        case rel => exact ⟨_, (!t236), (by first | rfl | (simp; done) | (simp [*]; done)), H', ⟨by first | omega | exact Nat.le_refl _⟩, ⟨(upB HB.out)⟩⟩
      · replace c10 := Bool.eq_false_iff.mpr c10
        subst c10
        have H1 : (impl_UsePermit.j0 k l0 a2 a3 t233 true) = some (r1, r2) := by rw [if_neg (show ¬ (false = true) by decide)] at H; exact H
        clear H
        have H := H1
        clear H1
        have H' := Aside0.mk H
        clear H
        go_wp2_with (first | (go_at_call 56; (with_reducible refine (impl_isDay.calls a2 false _ A9.out).mono ?_); rintro e w' ⟨rfl, ⟨nd, rfl⟩⟩))
        go_meet
        case rel => exact ⟨_, (true), (by first | rfl | (simp; done) | (simp [*]; done)), H', ⟨by first | omega | exact Nat.le_refl _⟩, ⟨(upB HB.out)⟩⟩
    · replace c8 := Bool.eq_false_iff.mpr c8
      subst c8
      have H1 : (impl_UsePermit.j0 k l0 a2 a3 t233 true) = some (r1, r2) := by rw [if_neg (show ¬ (false = true) by decide)] at H; exact H
      clear H
      have H := H1
      clear H1
      have H' := Aside0.mk H
      clear H
      go_wp2
      go_meet
      case rel => exact ⟨_, (true), (by first | rfl | (simp; done) | (simp [*]; done)), H', ⟨by first | omega | exact Nat.le_refl _⟩, ⟨(upB HB.out)⟩⟩
  case rest =>
    clear HC6
    try clear c8
    try clear c10
    obtain ⟨kq, x30_5, rfl, HA, HJ5, HB⟩ := hcut
    cases kq with
    | zero => exact absurd HA.out (by simp [impl_UsePermit.j0])
    | succ kj5 =>
      have H := HA.out
      clear HA
      simp only [impl_UsePermit.j0] at H
      by_cases c12 : x30_5 = true
      · subst c12
        have H1 : (some (([] : List (S26)), false)) = some (r1, r2) := by rw [if_pos rfl] at H; exact H
        clear H
        have H := H1
        clear H1
        simp only [Option.some.injEq, Prod.mk.injEq] at H
        obtain ⟨rfl, rfl⟩ := H
        go_wp2
        go_ret2
        exact ⟨_, by first | rfl | (simp [errW_none, errW_some] <;> rfl) | (simp [*, errW_none, errW_some] <;> rfl), by first | exact Kd.R_nil _ _ _ _ _ | exact Kd.N_nil _ _ _ _ _ | exact Kd.V_nil _ _ _ _ _ | exact Kd.Q_nil _ _ _ _ _ | exact Kd.S_nil _ _ _ _ _, (upB HB.out)⟩
      · replace c12 := Bool.eq_false_iff.mpr c12
        subst c12
        have H1 : (if 0 ≤ t233 then (if t233 < (l0.length : Int) then ((impl_Permit_counts.f ((rd_T26 l0 t233).f0) ((rd_T26 l0 t233).f1) ((rd_T26 l0 t233).f2) ((rd_T26 l0 t233).f3) ((rd_T26 l0 t233).f4) ((rd_T26 l0 t233).f5)).bind fun t239 => (if t239 = true then ((impl_within.f a2 ((rd_T26 l0 t233).f2) ((rd_T26 l0 t233).f3)).bind fun t240 => (if t240 = true then (if a3 > ((rd_T26 l0 t233).f4) then (some (([] : List (S26)), false)) else ((impl_withState.f kj5 l0 t233 3).bind fun bt241 => (some (bt241.1, bt241.2)))) else (some (([] : List (S26)), false)))) else (some (([] : List (S26)), false)))) else (none)) else (none)) = some (r1, r2) := by rw [if_neg (show ¬ (false = true) by decide)] at H; exact H
        clear H
        have H := H1
        clear H1
        by_cases c13 : 0 ≤ t233
        · rw [if_pos c13] at H
          have c13b0 : decide (0 ≤ t233) = true := decide_eq_true c13
          clear c13
          by_cases c14 : t233 < (l0.length : Int)
          · rw [if_pos c14] at H
            have c14b0 : decide (t233 < (l0.length : Int)) = true := decide_eq_true c14
            clear c14
            replace H := Option.bind_eq_some_iff.mp H
            obtain ⟨t239, A150, H⟩ := H
            replace H : (if t239 = true then ((impl_within.f a2 ((rd_T26 l0 t233).f2) ((rd_T26 l0 t233).f3)).bind fun t240 => (if t240 = true then (if a3 > ((rd_T26 l0 t233).f4) then (some (([] : List (S26)), false)) else ((impl_withState.f kj5 l0 t233 3).bind fun bt241 => (some (bt241.1, bt241.2)))) else (some (([] : List (S26)), false)))) else (some (([] : List (S26)), false))) = some (r1, r2) := H
            have A15 := Aside0.mk A150
            clear A150
            by_cases c16 : t239 = true
            · subst c16
              have H1 : ((impl_within.f a2 ((rd_T26 l0 t233).f2) ((rd_T26 l0 t233).f3)).bind fun t240 => (if t240 = true then (if a3 > ((rd_T26 l0 t233).f4) then (some (([] : List (S26)), false)) else ((impl_withState.f kj5 l0 t233 3).bind fun bt241 => (some (bt241.1, bt241.2)))) else (some (([] : List (S26)), false)))) = some (r1, r2) := by rw [if_pos rfl] at H; exact H
              clear H
              have H := H1
              clear H1
              replace H := Option.bind_eq_some_iff.mp H
              obtain ⟨t240, A170, H⟩ := H
              replace H : (if t240 = true then (if a3 > ((rd_T26 l0 t233).f4) then (some (([] : List (S26)), false)) else ((impl_withState.f kj5 l0 t233 3).bind fun bt241 => (some (bt241.1, bt241.2)))) else (some (([] : List (S26)), false))) = some (r1, r2) := H
              have A17 := Aside0.mk A170
              clear A170
              by_cases c18 : t240 = true
              · subst c18
                have H1 : (if a3 > ((rd_T26 l0 t233).f4) then (some (([] : List (S26)), false)) else ((impl_withState.f kj5 l0 t233 3).bind fun bt241 => (some (bt241.1, bt241.2)))) = some (r1, r2) := by rw [if_pos rfl] at H; exact H
                clear H
                have H := H1
                clear H1
                by_cases c19 : a3 > ((rd_T26 l0 t233).f4)
                · rw [if_pos c19] at H
                  have c19b0 : decide (((rd_T26 l0 t233).f4) < a3) = true := decide_eq_true c19
                  clear c19
                  simp only [Option.some.injEq, Prod.mk.injEq] at H
                  obtain ⟨rfl, rfl⟩ := H
                  have p237 : 0 ≤ (t233 : Int) := of_decide_eq_true asmB
                  have q237 : t233 < (l0.length : Int) := of_decide_eq_true asmB
                  obtain ⟨ad237, e237, hx237_0, hx237_1, hx237_2, hx237_3, hx237_4, hx237_5⟩ := at_T26 HR0.out t233 p237 q237
                  cases e237
                  replace hx237_0 := bx HB.out hx237_0
                  replace hx237_1 := bx HB.out hx237_1
                  replace hx237_2 := bx HB.out hx237_2
                  replace hx237_3 := bx HB.out hx237_3
                  replace hx237_4 := bx HB.out hx237_4
                  replace hx237_5 := bx HB.out hx237_5
                  replace p237 := eq_true p237
                  replace q237 := eq_true q237
                  go_wp2_with (first | ((with_reducible refine gate_dst (N := 12) rfl ?_); refine box_event ?hg (N := 12) ?hd (cs := #[.int .i64 0, .string (⟨#[]⟩ : ByteArray), .int .i64 0, .int .i64 0, .int .i64 0, .int .i64 0]) (t := 26) ?hr ?_; (case hd => rfl); (case hg => rfl); (case hr => first | (go_simp; done) | (go_simp; rfl)); intro gb238 hg w20 hbox hb; have n0_ := Aside0.mk (below_step (upB HB.out) hb); have n1_ := Aside0.mk (hbox); have n2_ := Aside0.mk ((by rw [hg]; exact (below_size (upB HB.out)) : w.heap.size ≤ gb238)); have n3_ := Aside0.mk ((by rw [hg]; exact (below_size (upB HB.out)) : w.heap.size ≤ gb238)); clear HB; have HB := n0_; have BK238 := n1_; have GW238 := n2_; have GE238 := n3_; clear n0_ n1_ n2_ n3_; clear hb hbox hg; have hcz21_0 := ci BK238.out 0 0 rfl; have hcz21_1 : w20.cell? ⟨gb238, 1, none⟩ = some (.string (⟨#[]⟩ : ByteArray)) := (blk_cell BK238.out 1).trans rfl; have hcz21_2 := ci BK238.out 2 0 rfl; have hcz21_3 := ci BK238.out 3 0 rfl; have hcz21_4 := ci BK238.out 4 0 rfl; have hcz21_5 := ci BK238.out 5 0 rfl; have hfz21_0 := fun j_ : Nat => blk_frozen BK238.out j_) | ((with_reducible refine gate_callee (f := 72) rfl ?_); refine goesL_ (some 36) rfl rfl Tryd.func72 (by kernel_rfl) rfl #[.agg #[.int .i64 ((rd_T26 l0 t233).f0), .string ((rd_T26 l0 t233).f1), .int .i64 ((rd_T26 l0 t233).f2), .int .i64 ((rd_T26 l0 t233).f3), .int .i64 ((rd_T26 l0 t233).f4), .int .i64 ((rd_T26 l0 t233).f5)]] rfl argsB ?_; (with_reducible refine (impl_Permit_counts.calls ((rd_T26 l0 t233).f0) ((rd_T26 l0 t233).f1) ((rd_T26 l0 t233).f2) ((rd_T26 l0 t233).f3) ((rd_T26 l0 t233).f4) ((rd_T26 l0 t233).f5) true _ A15.out).mono ?_); rintro e w22 ⟨rfl, hb⟩; refine ⟨_, rfl, ?_⟩; have n0_ := Aside0.mk (blk_below (g := gb238) (o := .cells #[.int .i64 ((rd_T26 l0 t233).f0), .string ((rd_T26 l0 t233).f1), .int .i64 ((rd_T26 l0 t233).f2), .int .i64 ((rd_T26 l0 t233).f3), .int .i64 ((rd_T26 l0 t233).f4), .int .i64 ((rd_T26 l0 t233).f5)] 26 (0, 0)) (by (with_reducible repeat (first | refine blk_drewN ?_ _ | refine blk_drew ?_ | refine blk_alloc ?_ _)); refine blk_put (cs := #[.int .i64 ((rd_T26 l0 t233).f0), .string ((rd_T26 l0 t233).f1), .int .i64 ((rd_T26 l0 t233).f2), .int .i64 ((rd_T26 l0 t233).f3), .int .i64 ((rd_T26 l0 t233).f4), .int .i64 0]) ?_ 5 _ rfl; (with_reducible repeat (first | refine blk_drewN ?_ _ | refine blk_drew ?_ | refine blk_alloc ?_ _)); refine blk_put (cs := #[.int .i64 ((rd_T26 l0 t233).f0), .string ((rd_T26 l0 t233).f1), .int .i64 ((rd_T26 l0 t233).f2), .int .i64 ((rd_T26 l0 t233).f3), .int .i64 0, .int .i64 0]) ?_ 4 _ rfl; (with_reducible repeat (first | refine blk_drewN ?_ _ | refine blk_drew ?_ | refine blk_alloc ?_ _)); refine blk_put (cs := #[.int .i64 ((rd_T26 l0 t233).f0), .string ((rd_T26 l0 t233).f1), .int .i64 ((rd_T26 l0 t233).f2), .int .i64 0, .int .i64 0, .int .i64 0]) ?_ 3 _ rfl; (with_reducible repeat (first | refine blk_drewN ?_ _ | refine blk_drew ?_ | refine blk_alloc ?_ _)); refine blk_put (cs := #[.int .i64 ((rd_T26 l0 t233).f0), .string ((rd_T26 l0 t233).f1), .int .i64 0, .int .i64 0, .int .i64 0, .int .i64 0]) ?_ 2 _ rfl; (with_reducible repeat (first | refine blk_drewN ?_ _ | refine blk_drew ?_ | refine blk_alloc ?_ _)); refine blk_put (cs := #[.int .i64 ((rd_T26 l0 t233).f0), .string (⟨#[]⟩ : ByteArray), .int .i64 0, .int .i64 0, .int .i64 0, .int .i64 0]) ?_ 1 _ rfl; (with_reducible repeat (first | refine blk_drewN ?_ _ | refine blk_drew ?_ | refine blk_alloc ?_ _)); refine blk_put (cs := #[.int .i64 0, .string (⟨#[]⟩ : ByteArray), .int .i64 0, .int .i64 0, .int .i64 0, .int .i64 0]) ?_ 0 _ rfl; (with_reducible repeat (first | refine blk_drewN ?_ _ | refine blk_drew ?_ | refine blk_alloc ?_ _)); exact BK238.out) hb); have n1_ := Aside0.mk (below_step (upB1 HB.out GE238.out) hb); clear BK238; clear HB; have BK238 := n0_; have HB := n1_; clear n0_ n1_; (try clear hb); (try clear hk); have hcz23_0 := ci BK238.out 0 ((rd_T26 l0 t233).f0) rfl; have hcz23_1 : w22.cell? ⟨gb238, 1, none⟩ = some (.string ((rd_T26 l0 t233).f1)) := (blk_cell BK238.out 1).trans rfl; have hcz23_2 := ci BK238.out 2 ((rd_T26 l0 t233).f2) rfl; have hcz23_3 := ci BK238.out 3 ((rd_T26 l0 t233).f3) rfl; have hcz23_4 := ci BK238.out 4 ((rd_T26 l0 t233).f4) rfl; have hcz23_5 := ci BK238.out 5 ((rd_T26 l0 t233).f5) rfl; have hfz23_0 := fun j_ : Nat => blk_frozen BK238.out j_) | (go_at_call 57; (with_reducible refine (impl_within.calls a2 ((rd_T26 l0 t233).f2) ((rd_T26 l0 t233).f3) true _ A17.out).mono ?_); rintro e w' ⟨rfl, ⟨nd, rfl⟩⟩))
                  go_ret2
                  exact ⟨_, by first | rfl | (simp [errW_none, errW_some] <;> rfl) | (simp [*, errW_none, errW_some] <;> rfl), by first | exact Kd.R_nil _ _ _ _ _ | exact Kd.N_nil _ _ _ _ _ | exact Kd.V_nil _ _ _ _ _ | exact Kd.Q_nil _ _ _ _ _ | exact Kd.S_nil _ _ _ _ _, (upB1 HB.out GE238.out)⟩
                · rw [if_neg c19] at H
                  have c19b0 : decide (((rd_T26 l0 t233).f4) < a3) = false := decide_eq_false c19
                  clear c19
                  replace H := Option.bind_eq_some_iff.mp H
                  obtain ⟨⟨t241, t242⟩, A240, H⟩ := H
                  replace H : (some (t241, t242)) = some (r1, r2) := H
                  have A24 := Aside0.mk A240
                  clear A240
                  simp only [Option.some.injEq, Prod.mk.injEq] at H
                  obtain ⟨rfl, rfl⟩ := H
                  have p237 : 0 ≤ (t233 : Int) := of_decide_eq_true asmB
                  have q237 : t233 < (l0.length : Int) := of_decide_eq_true asmB
                  obtain ⟨ad237, e237, hx237_0, hx237_1, hx237_2, hx237_3, hx237_4, hx237_5⟩ := at_T26 HR0.out t233 p237 q237
                  cases e237
                  replace hx237_0 := bx HB.out hx237_0
                  replace hx237_1 := bx HB.out hx237_1
                  replace hx237_2 := bx HB.out hx237_2
                  replace hx237_3 := bx HB.out hx237_3
                  replace hx237_4 := bx HB.out hx237_4
                  replace hx237_5 := bx HB.out hx237_5
                  replace p237 := eq_true p237
                  replace q237 := eq_true q237
                  go_wp2_with (first | ((with_reducible refine gate_dst (N := 12) rfl ?_); refine box_event ?hg (N := 12) ?hd (cs := #[.int .i64 0, .string (⟨#[]⟩ : ByteArray), .int .i64 0, .int .i64 0, .int .i64 0, .int .i64 0]) (t := 26) ?hr ?_; (case hd => rfl); (case hg => rfl); (case hr => first | (go_simp; done) | (go_simp; rfl)); intro gb238 hg w25 hbox hb; have n0_ := Aside0.mk (below_step (upB HB.out) hb); have n1_ := Aside0.mk (hbox); have n2_ := Aside0.mk ((by rw [hg]; exact (below_size (upB HB.out)) : w.heap.size ≤ gb238)); have n3_ := Aside0.mk ((by rw [hg]; exact (below_size (upB HB.out)) : w.heap.size ≤ gb238)); clear HB; have HB := n0_; have BK238 := n1_; have GW238 := n2_; have GE238 := n3_; clear n0_ n1_ n2_ n3_; clear hb hbox hg; have hcz26_0 := ci BK238.out 0 0 rfl; have hcz26_1 : w25.cell? ⟨gb238, 1, none⟩ = some (.string (⟨#[]⟩ : ByteArray)) := (blk_cell BK238.out 1).trans rfl; have hcz26_2 := ci BK238.out 2 0 rfl; have hcz26_3 := ci BK238.out 3 0 rfl; have hcz26_4 := ci BK238.out 4 0 rfl; have hcz26_5 := ci BK238.out 5 0 rfl; have hfz26_0 := fun j_ : Nat => blk_frozen BK238.out j_) | ((with_reducible refine gate_callee (f := 72) rfl ?_); refine goesL_ (some 36) rfl rfl Tryd.func72 (by kernel_rfl) rfl #[.agg #[.int .i64 ((rd_T26 l0 t233).f0), .string ((rd_T26 l0 t233).f1), .int .i64 ((rd_T26 l0 t233).f2), .int .i64 ((rd_T26 l0 t233).f3), .int .i64 ((rd_T26 l0 t233).f4), .int .i64 ((rd_T26 l0 t233).f5)]] rfl argsB ?_; (with_reducible refine (impl_Permit_counts.calls ((rd_T26 l0 t233).f0) ((rd_T26 l0 t233).f1) ((rd_T26 l0 t233).f2) ((rd_T26 l0 t233).f3) ((rd_T26 l0 t233).f4) ((rd_T26 l0 t233).f5) true _ A15.out).mono ?_); rintro e w27 ⟨rfl, hb⟩; refine ⟨_, rfl, ?_⟩; have n0_ := Aside0.mk (blk_below (g := gb238) (o := .cells #[.int .i64 ((rd_T26 l0 t233).f0), .string ((rd_T26 l0 t233).f1), .int .i64 ((rd_T26 l0 t233).f2), .int .i64 ((rd_T26 l0 t233).f3), .int .i64 ((rd_T26 l0 t233).f4), .int .i64 ((rd_T26 l0 t233).f5)] 26 (0, 0)) (by (with_reducible repeat (first | refine blk_drewN ?_ _ | refine blk_drew ?_ | refine blk_alloc ?_ _)); refine blk_put (cs := #[.int .i64 ((rd_T26 l0 t233).f0), .string ((rd_T26 l0 t233).f1), .int .i64 ((rd_T26 l0 t233).f2), .int .i64 ((rd_T26 l0 t233).f3), .int .i64 ((rd_T26 l0 t233).f4), .int .i64 0]) ?_ 5 _ rfl; (with_reducible repeat (first | refine blk_drewN ?_ _ | refine blk_drew ?_ | refine blk_alloc ?_ _)); refine blk_put (cs := #[.int .i64 ((rd_T26 l0 t233).f0), .string ((rd_T26 l0 t233).f1), .int .i64 ((rd_T26 l0 t233).f2), .int .i64 ((rd_T26 l0 t233).f3), .int .i64 0, .int .i64 0]) ?_ 4 _ rfl; (with_reducible repeat (first | refine blk_drewN ?_ _ | refine blk_drew ?_ | refine blk_alloc ?_ _)); refine blk_put (cs := #[.int .i64 ((rd_T26 l0 t233).f0), .string ((rd_T26 l0 t233).f1), .int .i64 ((rd_T26 l0 t233).f2), .int .i64 0, .int .i64 0, .int .i64 0]) ?_ 3 _ rfl; (with_reducible repeat (first | refine blk_drewN ?_ _ | refine blk_drew ?_ | refine blk_alloc ?_ _)); refine blk_put (cs := #[.int .i64 ((rd_T26 l0 t233).f0), .string ((rd_T26 l0 t233).f1), .int .i64 0, .int .i64 0, .int .i64 0, .int .i64 0]) ?_ 2 _ rfl; (with_reducible repeat (first | refine blk_drewN ?_ _ | refine blk_drew ?_ | refine blk_alloc ?_ _)); refine blk_put (cs := #[.int .i64 ((rd_T26 l0 t233).f0), .string (⟨#[]⟩ : ByteArray), .int .i64 0, .int .i64 0, .int .i64 0, .int .i64 0]) ?_ 1 _ rfl; (with_reducible repeat (first | refine blk_drewN ?_ _ | refine blk_drew ?_ | refine blk_alloc ?_ _)); refine blk_put (cs := #[.int .i64 0, .string (⟨#[]⟩ : ByteArray), .int .i64 0, .int .i64 0, .int .i64 0, .int .i64 0]) ?_ 0 _ rfl; (with_reducible repeat (first | refine blk_drewN ?_ _ | refine blk_drew ?_ | refine blk_alloc ?_ _)); exact BK238.out) hb); have n1_ := Aside0.mk (below_step (upB1 HB.out GE238.out) hb); clear BK238; clear HB; have BK238 := n0_; have HB := n1_; clear n0_ n1_; (try clear hb); (try clear hk); have hcz28_0 := ci BK238.out 0 ((rd_T26 l0 t233).f0) rfl; have hcz28_1 : w27.cell? ⟨gb238, 1, none⟩ = some (.string ((rd_T26 l0 t233).f1)) := (blk_cell BK238.out 1).trans rfl; have hcz28_2 := ci BK238.out 2 ((rd_T26 l0 t233).f2) rfl; have hcz28_3 := ci BK238.out 3 ((rd_T26 l0 t233).f3) rfl; have hcz28_4 := ci BK238.out 4 ((rd_T26 l0 t233).f4) rfl; have hcz28_5 := ci BK238.out 5 ((rd_T26 l0 t233).f5) rfl; have hfz28_0 := fun j_ : Nat => blk_frozen BK238.out j_) | (go_at_call 57; (with_reducible refine (impl_within.calls a2 ((rd_T26 l0 t233).f2) ((rd_T26 l0 t233).f3) true _ A17.out).mono ?_); rintro e w' ⟨rfl, ⟨nd, rfl⟩⟩) | ((with_reducible refine gate_callee (f := 75) rfl ?_); refine goesL_ (some 55) rfl rfl Tryd.func75 (by kernel_rfl) rfl #[.slice (some ad237) l0.length c0, .int .i64 t233, .int .i64 3] rfl argsB ?_; (with_reducible refine (impl_withState.calls kj5 _ _ l0 t233 3 t241 t242 _ ?side1 ?side2 A24.out).mono ?_); (case side1 => repeat (first | exact (Kd.C_below HR0.out (upB1 HB.out GE238.out)) | (with_reducible refine Kd.C_alloc ?_ _) | (with_reducible refine Kd.C_drewN ?_ _) | (with_reducible refine Kd.C_drew ?_))); (case side2 => exact HC0.out); rintro e w29 ⟨v243, rfl, ho0, hb⟩; refine ⟨_, rfl, ?_⟩; have n0_ := Aside0.mk (Kd.R_lower (Kd.R_newB ho0 (g := gb238) (o := .cells #[.int .i64 ((rd_T26 l0 t233).f0), .string ((rd_T26 l0 t233).f1), .int .i64 ((rd_T26 l0 t233).f2), .int .i64 ((rd_T26 l0 t233).f3), .int .i64 ((rd_T26 l0 t233).f4), .int .i64 ((rd_T26 l0 t233).f5)] 26 (0, 0)) (upK BK238.out)) (below_size (upB1 HB.out GE238.out))); have n1_ := Aside0.mk (blk_below (g := gb238) (o := .cells #[.int .i64 ((rd_T26 l0 t233).f0), .string ((rd_T26 l0 t233).f1), .int .i64 ((rd_T26 l0 t233).f2), .int .i64 ((rd_T26 l0 t233).f3), .int .i64 ((rd_T26 l0 t233).f4), .int .i64 ((rd_T26 l0 t233).f5)] 26 (0, 0)) (upK BK238.out) hb); have n2_ := Aside0.mk (below_step (upB1 HB.out GE238.out) hb); clear BK238; clear HB; have HO244 := n0_; have BK238 := n1_; have HB := n2_; clear n0_ n1_ n2_; (try clear hb); (try clear hk); (try clear ho0)))
                  go_ret2
                  exact ⟨_, by first | rfl | (simp [errW_none, errW_some] <;> rfl) | (simp [*, errW_none, errW_some] <;> rfl), by (with_reducible repeat (first | apply Kd.R_alloc | apply Kd.R_drewN | apply Kd.R_drew)); exact Kd.R_mono HO244.out (fun _ hk => trivial), (upB1 HB.out GE238.out)⟩
              · replace c18 := Bool.eq_false_iff.mpr c18
                subst c18
                have H1 : (some (([] : List (S26)), false)) = some (r1, r2) := by rw [if_neg (show ¬ (false = true) by decide)] at H; exact H
                clear H
                have H := H1
                clear H1
                simp only [Option.some.injEq, Prod.mk.injEq] at H
                obtain ⟨rfl, rfl⟩ := H
                have p237 : 0 ≤ (t233 : Int) := of_decide_eq_true asmB
                have q237 : t233 < (l0.length : Int) := of_decide_eq_true asmB
                obtain ⟨ad237, e237, hx237_0, hx237_1, hx237_2, hx237_3, hx237_4, hx237_5⟩ := at_T26 HR0.out t233 p237 q237
                cases e237
                replace hx237_0 := bx HB.out hx237_0
                replace hx237_1 := bx HB.out hx237_1
                replace hx237_2 := bx HB.out hx237_2
                replace hx237_3 := bx HB.out hx237_3
                replace hx237_4 := bx HB.out hx237_4
                replace hx237_5 := bx HB.out hx237_5
                replace p237 := eq_true p237
                replace q237 := eq_true q237
                go_wp2_with (first | ((with_reducible refine gate_dst (N := 12) rfl ?_); refine box_event ?hg (N := 12) ?hd (cs := #[.int .i64 0, .string (⟨#[]⟩ : ByteArray), .int .i64 0, .int .i64 0, .int .i64 0, .int .i64 0]) (t := 26) ?hr ?_; (case hd => rfl); (case hg => rfl); (case hr => first | (go_simp; done) | (go_simp; rfl)); intro gb238 hg w30 hbox hb; have n0_ := Aside0.mk (below_step (upB HB.out) hb); have n1_ := Aside0.mk (hbox); have n2_ := Aside0.mk ((by rw [hg]; exact (below_size (upB HB.out)) : w.heap.size ≤ gb238)); have n3_ := Aside0.mk ((by rw [hg]; exact (below_size (upB HB.out)) : w.heap.size ≤ gb238)); clear HB; have HB := n0_; have BK238 := n1_; have GW238 := n2_; have GE238 := n3_; clear n0_ n1_ n2_ n3_; clear hb hbox hg; have hcz31_0 := ci BK238.out 0 0 rfl; have hcz31_1 : w30.cell? ⟨gb238, 1, none⟩ = some (.string (⟨#[]⟩ : ByteArray)) := (blk_cell BK238.out 1).trans rfl; have hcz31_2 := ci BK238.out 2 0 rfl; have hcz31_3 := ci BK238.out 3 0 rfl; have hcz31_4 := ci BK238.out 4 0 rfl; have hcz31_5 := ci BK238.out 5 0 rfl; have hfz31_0 := fun j_ : Nat => blk_frozen BK238.out j_) | ((with_reducible refine gate_callee (f := 72) rfl ?_); refine goesL_ (some 36) rfl rfl Tryd.func72 (by kernel_rfl) rfl #[.agg #[.int .i64 ((rd_T26 l0 t233).f0), .string ((rd_T26 l0 t233).f1), .int .i64 ((rd_T26 l0 t233).f2), .int .i64 ((rd_T26 l0 t233).f3), .int .i64 ((rd_T26 l0 t233).f4), .int .i64 ((rd_T26 l0 t233).f5)]] rfl argsB ?_; (with_reducible refine (impl_Permit_counts.calls ((rd_T26 l0 t233).f0) ((rd_T26 l0 t233).f1) ((rd_T26 l0 t233).f2) ((rd_T26 l0 t233).f3) ((rd_T26 l0 t233).f4) ((rd_T26 l0 t233).f5) true _ A15.out).mono ?_); rintro e w32 ⟨rfl, hb⟩; refine ⟨_, rfl, ?_⟩; have n0_ := Aside0.mk (blk_below (g := gb238) (o := .cells #[.int .i64 ((rd_T26 l0 t233).f0), .string ((rd_T26 l0 t233).f1), .int .i64 ((rd_T26 l0 t233).f2), .int .i64 ((rd_T26 l0 t233).f3), .int .i64 ((rd_T26 l0 t233).f4), .int .i64 ((rd_T26 l0 t233).f5)] 26 (0, 0)) (by (with_reducible repeat (first | refine blk_drewN ?_ _ | refine blk_drew ?_ | refine blk_alloc ?_ _)); refine blk_put (cs := #[.int .i64 ((rd_T26 l0 t233).f0), .string ((rd_T26 l0 t233).f1), .int .i64 ((rd_T26 l0 t233).f2), .int .i64 ((rd_T26 l0 t233).f3), .int .i64 ((rd_T26 l0 t233).f4), .int .i64 0]) ?_ 5 _ rfl; (with_reducible repeat (first | refine blk_drewN ?_ _ | refine blk_drew ?_ | refine blk_alloc ?_ _)); refine blk_put (cs := #[.int .i64 ((rd_T26 l0 t233).f0), .string ((rd_T26 l0 t233).f1), .int .i64 ((rd_T26 l0 t233).f2), .int .i64 ((rd_T26 l0 t233).f3), .int .i64 0, .int .i64 0]) ?_ 4 _ rfl; (with_reducible repeat (first | refine blk_drewN ?_ _ | refine blk_drew ?_ | refine blk_alloc ?_ _)); refine blk_put (cs := #[.int .i64 ((rd_T26 l0 t233).f0), .string ((rd_T26 l0 t233).f1), .int .i64 ((rd_T26 l0 t233).f2), .int .i64 0, .int .i64 0, .int .i64 0]) ?_ 3 _ rfl; (with_reducible repeat (first | refine blk_drewN ?_ _ | refine blk_drew ?_ | refine blk_alloc ?_ _)); refine blk_put (cs := #[.int .i64 ((rd_T26 l0 t233).f0), .string ((rd_T26 l0 t233).f1), .int .i64 0, .int .i64 0, .int .i64 0, .int .i64 0]) ?_ 2 _ rfl; (with_reducible repeat (first | refine blk_drewN ?_ _ | refine blk_drew ?_ | refine blk_alloc ?_ _)); refine blk_put (cs := #[.int .i64 ((rd_T26 l0 t233).f0), .string (⟨#[]⟩ : ByteArray), .int .i64 0, .int .i64 0, .int .i64 0, .int .i64 0]) ?_ 1 _ rfl; (with_reducible repeat (first | refine blk_drewN ?_ _ | refine blk_drew ?_ | refine blk_alloc ?_ _)); refine blk_put (cs := #[.int .i64 0, .string (⟨#[]⟩ : ByteArray), .int .i64 0, .int .i64 0, .int .i64 0, .int .i64 0]) ?_ 0 _ rfl; (with_reducible repeat (first | refine blk_drewN ?_ _ | refine blk_drew ?_ | refine blk_alloc ?_ _)); exact BK238.out) hb); have n1_ := Aside0.mk (below_step (upB1 HB.out GE238.out) hb); clear BK238; clear HB; have BK238 := n0_; have HB := n1_; clear n0_ n1_; (try clear hb); (try clear hk); have hcz33_0 := ci BK238.out 0 ((rd_T26 l0 t233).f0) rfl; have hcz33_1 : w32.cell? ⟨gb238, 1, none⟩ = some (.string ((rd_T26 l0 t233).f1)) := (blk_cell BK238.out 1).trans rfl; have hcz33_2 := ci BK238.out 2 ((rd_T26 l0 t233).f2) rfl; have hcz33_3 := ci BK238.out 3 ((rd_T26 l0 t233).f3) rfl; have hcz33_4 := ci BK238.out 4 ((rd_T26 l0 t233).f4) rfl; have hcz33_5 := ci BK238.out 5 ((rd_T26 l0 t233).f5) rfl; have hfz33_0 := fun j_ : Nat => blk_frozen BK238.out j_) | (go_at_call 57; (with_reducible refine (impl_within.calls a2 ((rd_T26 l0 t233).f2) ((rd_T26 l0 t233).f3) false _ A17.out).mono ?_); rintro e w' ⟨rfl, ⟨nd, rfl⟩⟩))
                go_ret2
                exact ⟨_, by first | rfl | (simp [errW_none, errW_some] <;> rfl) | (simp [*, errW_none, errW_some] <;> rfl), by first | exact Kd.R_nil _ _ _ _ _ | exact Kd.N_nil _ _ _ _ _ | exact Kd.V_nil _ _ _ _ _ | exact Kd.Q_nil _ _ _ _ _ | exact Kd.S_nil _ _ _ _ _, (upB1 HB.out GE238.out)⟩
            · replace c16 := Bool.eq_false_iff.mpr c16
              subst c16
              have H1 : (some (([] : List (S26)), false)) = some (r1, r2) := by rw [if_neg (show ¬ (false = true) by decide)] at H; exact H
              clear H
              have H := H1
              clear H1
              simp only [Option.some.injEq, Prod.mk.injEq] at H
              obtain ⟨rfl, rfl⟩ := H
              have p237 : 0 ≤ (t233 : Int) := of_decide_eq_true asmB
              have q237 : t233 < (l0.length : Int) := of_decide_eq_true asmB
              obtain ⟨ad237, e237, hx237_0, hx237_1, hx237_2, hx237_3, hx237_4, hx237_5⟩ := at_T26 HR0.out t233 p237 q237
              cases e237
              replace hx237_0 := bx HB.out hx237_0
              replace hx237_1 := bx HB.out hx237_1
              replace hx237_2 := bx HB.out hx237_2
              replace hx237_3 := bx HB.out hx237_3
              replace hx237_4 := bx HB.out hx237_4
              replace hx237_5 := bx HB.out hx237_5
              replace p237 := eq_true p237
              replace q237 := eq_true q237
              go_wp2_with (first | ((with_reducible refine gate_dst (N := 12) rfl ?_); refine box_event ?hg (N := 12) ?hd (cs := #[.int .i64 0, .string (⟨#[]⟩ : ByteArray), .int .i64 0, .int .i64 0, .int .i64 0, .int .i64 0]) (t := 26) ?hr ?_; (case hd => rfl); (case hg => rfl); (case hr => first | (go_simp; done) | (go_simp; rfl)); intro gb238 hg w34 hbox hb; have n0_ := Aside0.mk (below_step (upB HB.out) hb); have n1_ := Aside0.mk (hbox); have n2_ := Aside0.mk ((by rw [hg]; exact (below_size (upB HB.out)) : w.heap.size ≤ gb238)); have n3_ := Aside0.mk ((by rw [hg]; exact (below_size (upB HB.out)) : w.heap.size ≤ gb238)); clear HB; have HB := n0_; have BK238 := n1_; have GW238 := n2_; have GE238 := n3_; clear n0_ n1_ n2_ n3_; clear hb hbox hg; have hcz35_0 := ci BK238.out 0 0 rfl; have hcz35_1 : w34.cell? ⟨gb238, 1, none⟩ = some (.string (⟨#[]⟩ : ByteArray)) := (blk_cell BK238.out 1).trans rfl; have hcz35_2 := ci BK238.out 2 0 rfl; have hcz35_3 := ci BK238.out 3 0 rfl; have hcz35_4 := ci BK238.out 4 0 rfl; have hcz35_5 := ci BK238.out 5 0 rfl; have hfz35_0 := fun j_ : Nat => blk_frozen BK238.out j_) | ((with_reducible refine gate_callee (f := 72) rfl ?_); refine goesL_ (some 36) rfl rfl Tryd.func72 (by kernel_rfl) rfl #[.agg #[.int .i64 ((rd_T26 l0 t233).f0), .string ((rd_T26 l0 t233).f1), .int .i64 ((rd_T26 l0 t233).f2), .int .i64 ((rd_T26 l0 t233).f3), .int .i64 ((rd_T26 l0 t233).f4), .int .i64 ((rd_T26 l0 t233).f5)]] rfl argsB ?_; (with_reducible refine (impl_Permit_counts.calls ((rd_T26 l0 t233).f0) ((rd_T26 l0 t233).f1) ((rd_T26 l0 t233).f2) ((rd_T26 l0 t233).f3) ((rd_T26 l0 t233).f4) ((rd_T26 l0 t233).f5) false _ A15.out).mono ?_); rintro e w36 ⟨rfl, hb⟩; refine ⟨_, rfl, ?_⟩; have n0_ := Aside0.mk (blk_below (g := gb238) (o := .cells #[.int .i64 ((rd_T26 l0 t233).f0), .string ((rd_T26 l0 t233).f1), .int .i64 ((rd_T26 l0 t233).f2), .int .i64 ((rd_T26 l0 t233).f3), .int .i64 ((rd_T26 l0 t233).f4), .int .i64 ((rd_T26 l0 t233).f5)] 26 (0, 0)) (by (with_reducible repeat (first | refine blk_drewN ?_ _ | refine blk_drew ?_ | refine blk_alloc ?_ _)); refine blk_put (cs := #[.int .i64 ((rd_T26 l0 t233).f0), .string ((rd_T26 l0 t233).f1), .int .i64 ((rd_T26 l0 t233).f2), .int .i64 ((rd_T26 l0 t233).f3), .int .i64 ((rd_T26 l0 t233).f4), .int .i64 0]) ?_ 5 _ rfl; (with_reducible repeat (first | refine blk_drewN ?_ _ | refine blk_drew ?_ | refine blk_alloc ?_ _)); refine blk_put (cs := #[.int .i64 ((rd_T26 l0 t233).f0), .string ((rd_T26 l0 t233).f1), .int .i64 ((rd_T26 l0 t233).f2), .int .i64 ((rd_T26 l0 t233).f3), .int .i64 0, .int .i64 0]) ?_ 4 _ rfl; (with_reducible repeat (first | refine blk_drewN ?_ _ | refine blk_drew ?_ | refine blk_alloc ?_ _)); refine blk_put (cs := #[.int .i64 ((rd_T26 l0 t233).f0), .string ((rd_T26 l0 t233).f1), .int .i64 ((rd_T26 l0 t233).f2), .int .i64 0, .int .i64 0, .int .i64 0]) ?_ 3 _ rfl; (with_reducible repeat (first | refine blk_drewN ?_ _ | refine blk_drew ?_ | refine blk_alloc ?_ _)); refine blk_put (cs := #[.int .i64 ((rd_T26 l0 t233).f0), .string ((rd_T26 l0 t233).f1), .int .i64 0, .int .i64 0, .int .i64 0, .int .i64 0]) ?_ 2 _ rfl; (with_reducible repeat (first | refine blk_drewN ?_ _ | refine blk_drew ?_ | refine blk_alloc ?_ _)); refine blk_put (cs := #[.int .i64 ((rd_T26 l0 t233).f0), .string (⟨#[]⟩ : ByteArray), .int .i64 0, .int .i64 0, .int .i64 0, .int .i64 0]) ?_ 1 _ rfl; (with_reducible repeat (first | refine blk_drewN ?_ _ | refine blk_drew ?_ | refine blk_alloc ?_ _)); refine blk_put (cs := #[.int .i64 0, .string (⟨#[]⟩ : ByteArray), .int .i64 0, .int .i64 0, .int .i64 0, .int .i64 0]) ?_ 0 _ rfl; (with_reducible repeat (first | refine blk_drewN ?_ _ | refine blk_drew ?_ | refine blk_alloc ?_ _)); exact BK238.out) hb); have n1_ := Aside0.mk (below_step (upB1 HB.out GE238.out) hb); clear BK238; clear HB; have BK238 := n0_; have HB := n1_; clear n0_ n1_; (try clear hb); (try clear hk)))
              go_ret2
              exact ⟨_, by first | rfl | (simp [errW_none, errW_some] <;> rfl) | (simp [*, errW_none, errW_some] <;> rfl), by first | exact Kd.R_nil _ _ _ _ _ | exact Kd.N_nil _ _ _ _ _ | exact Kd.V_nil _ _ _ _ _ | exact Kd.Q_nil _ _ _ _ _ | exact Kd.S_nil _ _ _ _ _, (upB1 HB.out GE238.out)⟩
          · rw [if_neg c14] at H
            exact absurd H (by simp)
        · rw [if_neg c13] at H
          exact absurd H (by simp)

end Go.Proofs.YtgeioccfjgpijaaDoor.QFnExactUsePermit
