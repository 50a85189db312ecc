/- Contracts of Go functions that FnExactFirstSlot reaches: the call computes what the plain function says. No condition. -/
import Derived.Test.YtgeioccfjgpijaaDoorQFnExactFirstSlotx0
import Derived.Test.YtgeioccfjgpijaaDoorQFnExactFirstSlotx4
namespace Go.Proofs.YtgeioccfjgpijaaDoor.QFnExactFirstSlot
open Go.RowKit Go.Proofs.YtgeioccfjgpijaaDoorW.PrintWords Go.Proofs.YtgeioccfjgpijaaDoorW.PrintLast Go.Proofs.YtgeioccfjgpijaaDoorW.PrintMore
attribute [local go_sem] max2_int min2_int max_two min_two max_three min_three max_four min_four   -- for this text's walks alone
set_option linter.unusedVariables false
set_option linter.unusedSimpArgs false

/-! ### impl_xConflicts: function 140 -/
-- reaches: impl.conflict
theorem cells6 {W : World} {b : Nat} {t : TypeId} {u0 u1 u2 u3 u4 u5 v0 v1 v2 v3 v4 v5 : Value} (h : W.heap[b]? = some (.cells #[u0, u1, u2, u3, u4, u5] t (0, 0))) : ((((((W.setCell ⟨b, 0, none⟩ v0).setCell ⟨b, 1, none⟩ v1).setCell ⟨b, 2, none⟩ v2).setCell ⟨b, 3, none⟩ v3).setCell ⟨b, 4, none⟩ v4).setCell ⟨b, 5, none⟩ v5).heap[b]? = some (.cells #[v0, v1, v2, v3, v4, v5] t (0, 0)) :=
  blk_put (cs := #[v0, v1, v2, v3, v4, u5]) (blk_put (cs := #[v0, v1, v2, v3, u4, u5]) (blk_put (cs := #[v0, v1, v2, u3, u4, u5]) (blk_put (cs := #[v0, v1, u2, u3, u4, u5]) (blk_put (cs := #[v0, u1, u2, u3, u4, u5]) (blk_put (cs := #[u0, u1, u2, u3, u4, u5]) h 0 v0 rfl) 1 v1 rfl) 2 v2 rfl) 3 v3 rfl) 4 v4 rfl) 5 v5 rfl

theorem getD_drop' {α : Type} (xs : List α) (i : Nat) (d : α) (h : i < xs.length) : xs.drop i = xs.getD i d :: xs.drop (i + 1) := by
  rw [List.drop_eq_getElem_cons h]
  simp [List.getD, List.getElem?_eq_getElem h]
theorem getD_mem' {α : Type} (xs : List α) (i : Nat) (d : α) (h : i < xs.length) : xs.getD i d ∈ xs := by
  rw [List.getD_eq_getElem?_getD, List.getElem?_eq_getElem h]
  exact List.getElem_mem h
def idxP26 (p : S26 → Bool) : List (S26) → Int → Int
  | [], _ => -1
  | x :: l, i => if p x = true then i else idxP26 p l (i + 1)
theorem idxP26_any (p : S26 → Bool) : ∀ (l : List (S26)) (i : Int), 0 ≤ i → decide (0 ≤ idxP26 p l i) = l.any p := by
  intro l
  induction l with
  | nil => intro i h; rfl
  | cons x l ih =>
    intro i h
    rw [idxP26, List.any_cons]
    by_cases c : p x = true
    · rw [if_pos c, c, Bool.true_or]; exact decide_eq_true h
    · rw [if_neg c, Bool.eq_false_iff.mpr c, Bool.false_or]; exact ih (i + 1) (by omega)

set_option maxHeartbeats 4000000 in
set_option maxRecDepth 100000 in
theorem IndexFunc_conflicts (p : S26 → Bool) (V : Value) (A0 : Option Addr) (c0 : Nat) (l0 : List (S26)) (w : World) (hr0 : Kd.C k26 w A0 l0.length l0) (hc0 : l0.length ≤ c0)
    (hp : ∀ (x : S26) (W : World), x ∈ l0 → Below w.heap.size w W → Calls Tryd.prog 60 #[.agg #[.int .i64 x.f0, .string x.f1, .int .i64 x.f2, .int .i64 x.f3, .int .i64 x.f4, .int .i64 x.f5], V] W fun e W' => e = .returned (.bool (p x)) ∧ Below W.heap.size W W') :
    Calls Tryd.prog 92 #[.slice A0 l0.length c0, .func (.func 60) #[] #[V]] w fun e w' => e = .returned (.int .i64 (idxP26 p l0 0)) ∧ Below w.heap.size w w' := by
  have hu := Tryd.underlying26
  have hm := hr0.2.1
  go_enter Tryd.func92, Tryd.ntmps92
  go_wp2
  go_loopw [8] (fun v wr => ∃ i : Nat, i ≤ l0.length ∧ v = .int .i64 i ∧ idxP26 p l0 0 = idxP26 p (l0.drop i) i ∧ Below w.heap.size w wr) (fun v _ => l0.length - (intOf v).toNat)
  case atStart => exact ⟨0, by omega, rfl, by simp, Below.refl _ _⟩
  case round =>
    obtain ⟨i, hi, rfl, he, hb⟩ := hrel
    by_cases hlt : i < l0.length
    · obtain ⟨ad, rfl, h0, h1, h2, h3, h4, h5⟩ := at_T26 (Kd.C_below hr0 hb) (i : Int) (by omega) (by omega)
      have hx : rd_T26 l0 (i : Int) = l0.getD i z26 := by unfold rd_T26; rw [Int.toNat_natCast]
      have hmem := getD_mem' l0 i z26 hlt
      rw [hx] at h0 h1 h2 h3 h4 h5
      rw [getD_drop' l0 i z26 hlt] at he
      generalize l0.getD i z26 = x at h0 h1 h2 h3 h4 h5 he hx hmem
      clear hx
      rw [Int.toNat_natCast] at h0 h1 h2 h3 h4 h5
      cases hpx : p x with
      | true =>
        have hq := hp x wr hmem hb
        rw [hpx] at hq
        have he' := Aside0.mk he
        have hb' := Aside0.mk hb
        have hpx' := Aside0.mk hpx
        clear he hb hp hpx hmem
        go_wp2_with (go_at_call 60; refine hq.mono ?_; rintro e w1 ⟨rfl, hb1⟩)
        go_ret
        refine ⟨?_, hb'.out.trans (hb1.mono hb'.out.size)⟩
        rw [he'.out, idxP26, if_pos hpx'.out]
        rfl
      | false =>
        have hq := hp x wr hmem hb
        rw [hpx] at hq
        have he' := Aside0.mk he
        have hb' := Aside0.mk hb
        have hpx' := Aside0.mk hpx
        have hp' := Aside0.mk hp
        clear he hb hp hpx hmem
        go_wp2_with (go_at_call 60; refine hq.mono ?_; rintro e w1 ⟨rfl, hb1⟩)
        go_roundw
        case rel => exact ⟨i + 1, by omega, by go_num, by rw [he'.out, idxP26, hpx'.out]; rfl, hb'.out.trans (hb1.mono hb'.out.size)⟩
        case measure => simp [intOf]; omega
    · have hd : l0.drop i = [] := List.drop_eq_nil_of_le (by omega)
      rw [hd] at he
      have he' := Aside0.mk he
      have hb' := Aside0.mk hb
      clear he hb hp hd
      go_wp2
      go_ret
      exact ⟨by rw [he'.out, idxP26]; rfl, hb'.out⟩

set_option maxHeartbeats 4000000 in
theorem ContainsFunc_conflicts (p : S26 → Bool) (V : Value) (A0 : Option Addr) (c0 : Nat) (l0 : List (S26)) (w : World) (hr0 : Kd.C k26 w A0 l0.length l0) (hc0 : l0.length ≤ c0)
    (hp : ∀ (x : S26) (W : World), x ∈ l0 → Below w.heap.size w W → Calls Tryd.prog 60 #[.agg #[.int .i64 x.f0, .string x.f1, .int .i64 x.f2, .int .i64 x.f3, .int .i64 x.f4, .int .i64 x.f5], V] W fun e W' => e = .returned (.bool (p x)) ∧ Below W.heap.size W W') :
    Calls Tryd.prog 59 #[.slice A0 l0.length c0, .func (.func 60) #[] #[V]] w fun e w' => e = .returned (.bool (l0.any p)) ∧ Below w.heap.size w w' := by
  have hcon := IndexFunc_conflicts p V A0 c0 l0 w hr0 hc0 hp
  have ha := idxP26_any p l0 0 (by omega)
  generalize idxP26 p l0 0 = q at hcon ha
  generalize l0.any p = b at ha ⊢
  clear hp
  go_enter Tryd.func59, Tryd.ntmps59
  go_wp2_with (go_at_call 92; refine hcon.mono ?_; rintro e w1 ⟨rfl, hb1⟩)
  go_ret
  exact ⟨rfl, hb1⟩

theorem conflict_tot (y0 : Int) (y1 : ByteArray) (y2 y3 y4 y5 : Int) (x0 : Int) (x1 : ByteArray) (x2 x3 x4 x5 : Int) : ∃ r, impl_conflict.f y0 y1 y2 y3 y4 y5 x0 x1 x2 x3 x4 x5 = some r := by
  have e : ∀ (a : Int) (b : ByteArray) (c d e f : Int), impl_Permit_counts.f a b c d e f = some (f == 1 || f == 3) := by
    intro a b c d e f
    unfold impl_Permit_counts.f
    by_cases h : f = 1 <;> simp [h]
  unfold impl_conflict.f
  simp only [e, Option.bind_some]
  repeat' split
  all_goals exact ⟨_, rfl⟩
theorem conflictsClosure (x : S26) (y0 : Int) (y1 : ByteArray) (y2 y3 y4 y5 : Int) (r : Bool) (b : Nat) (W : World) (hb : W.heap[b]? = some (.cells #[.int .i64 y0, .string y1, .int .i64 y2, .int .i64 y3, .int .i64 y4, .int .i64 y5] 26 (0, 0))) (h : impl_conflict.f y0 y1 y2 y3 y4 y5 x.f0 x.f1 x.f2 x.f3 x.f4 x.f5 = some r) :
    Calls Tryd.prog 60 #[.agg #[.int .i64 x.f0, .string x.f1, .int .i64 x.f2, .int .i64 x.f3, .int .i64 x.f4, .int .i64 x.f5], .pointer (some ⟨b, 0, none⟩)] W fun e W' => e = .returned (.bool r) ∧ Below W.heap.size W W' := by
  have hu := Tryd.underlying26
  have h0 := (blk_cell hb 0).trans rfl
  have h1 := (blk_cell hb 1).trans rfl
  have h2 := (blk_cell hb 2).trans rfl
  have h3 := (blk_cell hb 3).trans rfl
  have h4 := (blk_cell hb 4).trans rfl
  have h5 := (blk_cell hb 5).trans rfl
  have hl := World.block_lt_of_cell? W _ h0
  have hcon := fun V => impl_conflict.calls y0 y1 y2 y3 y4 y5 x.f0 x.f1 x.f2 x.f3 x.f4 x.f5 r V h
  clear h hb
  go_enter Tryd.func60, Tryd.ntmps60
  go_wp2_with (go_at_call 61; refine (hcon _).mono ?_; rintro e w1 ⟨rfl, hb1⟩)
  go_ret
  exact ⟨rfl, ((Below.refl _ W).alloc (Nat.le_refl _) _).trans (hb1.mono (by simp))⟩
def impl_xConflicts.f (l0 : List (S26)) (a1_0 : Int) (a1_1 : ByteArray) (a1_2 a1_3 a1_4 a1_5 : Int) : Option Bool := some (l0.any fun x => impl_conflict.f a1_0 a1_1 a1_2 a1_3 a1_4 a1_5 x.f0 x.f1 x.f2 x.f3 x.f4 x.f5 == some true)
theorem impl_xConflicts.calls (A0 : Option Addr) (c0 : Nat) (l0 : List (S26)) (a1_0 : Int) (a1_1 : ByteArray) (a1_2 a1_3 a1_4 a1_5 : Int) (r : Bool) (w : World) (hr0 : Kd.C k26 w A0 l0.length l0) (hc0 : l0.length ≤ c0) (h : impl_xConflicts.f l0 a1_0 a1_1 a1_2 a1_3 a1_4 a1_5 = some r) {b : Nat} (hcell : w.heap[b]? = some (.cells #[.int .i64 a1_0, .string a1_1, .int .i64 a1_2, .int .i64 a1_3, .int .i64 a1_4, .int .i64 a1_5] 26 (0, 0)) := by first | assumption | (refine Aside0.out ?_; assumption) | (apply cells6; refine Aside0.out ?_; assumption)) :
    Calls Tryd.prog 59 #[.slice A0 l0.length c0, .func (.func 60) #[] #[.pointer (some ⟨b, 0, none⟩)]] w fun e w' => e = .returned (.bool r) ∧ Below w.heap.size w w' := by
  obtain rfl := Option.some.inj h
  refine ContainsFunc_conflicts (fun x => impl_conflict.f a1_0 a1_1 a1_2 a1_3 a1_4 a1_5 x.f0 x.f1 x.f2 x.f3 x.f4 x.f5 == some true) (.pointer (some ⟨b, 0, none⟩)) A0 c0 l0 w hr0 hc0 (fun x W _ hB => ?_)
  obtain ⟨r, hr⟩ := conflict_tot a1_0 a1_1 a1_2 a1_3 a1_4 a1_5 x.f0 x.f1 x.f2 x.f3 x.f4 x.f5
  have := conflictsClosure x a1_0 a1_1 a1_2 a1_3 a1_4 a1_5 r b W (blk_below hcell hB) hr
  simp only [hr]
  cases r <;> exact this

end Go.Proofs.YtgeioccfjgpijaaDoor.QFnExactFirstSlot
