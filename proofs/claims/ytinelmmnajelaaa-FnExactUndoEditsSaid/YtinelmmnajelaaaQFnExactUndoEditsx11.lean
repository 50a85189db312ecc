/- Contracts of Go functions that FnExactUndoEdits reaches: the call computes what the plain function says. No condition. -/
import Derived.Test.YtinelmmnajelaaaQFnExactUndoEditsx0
import Derived.Test.YtinelmmnajelaaaQFnExactUndoEditsx7
import Derived.Test.YtinelmmnajelaaaQFnExactUndoEditsx10
namespace Go.Proofs.Ytinelmmnajelaaa.QFnExactUndoEdits
open Go.RowKit Go.Proofs.YtinelmmnajelaaaW.PrintWords Go.Proofs.YtinelmmnajelaaaW.PrintLast Go.Proofs.YtinelmmnajelaaaW.PrintMore
attribute [local go_sem] max2_int min2_int max_two min_two max_three min_three max_four min_four   -- for this text's walks alone
set_option linter.unusedVariables false
set_option linter.unusedSimpArgs false

/-! ### impl_UndoEdits: function 46 -/
-- reaches: impl.IsHistory
-- reaches: impl.within
-- reaches: (impl.Edit).inverse
-- calls: none
def invE (x : S28) : S28 := if x.f0 = 1 then ⟨2, x.f1, x.f3, x.f2⟩ else if x.f0 = 2 then ⟨1, x.f1, x.f3, x.f2⟩ else ⟨x.f0, x.f1, x.f3, x.f2⟩
theorem invE_f (x : S28) : impl_Edit_inverse.f x.f0 x.f1 x.f2.f0 x.f2.f1 x.f2.f2 x.f2.f3 x.f2.f4 x.f3.f0 x.f3.f1 x.f3.f2 x.f3.f3 x.f3.f4 = some ((invE x).f0, (invE x).f1, (invE x).f2.f0, (invE x).f2.f1, (invE x).f2.f2, (invE x).f2.f3, (invE x).f2.f4, (invE x).f3.f0, (invE x).f3.f1, (invE x).f3.f2, (invE x).f3.f3, (invE x).f3.f4) := by
 unfold impl_Edit_inverse.f invE
 by_cases h1 : x.f0 = 1
 ·rw [if_pos h1, if_pos h1]
 ·rw [if_neg h1, if_neg h1]
  by_cases h2 : x.f0 = 2
  ·rw [if_pos h2, if_pos h2]
  ·rw [if_neg h2, if_neg h2]
def cellsE (x : S28) : List Value := [.int .i64 x.f0, .int .i64 x.f1, .int .i64 x.f2.f0, .int .i64 x.f2.f1, .int .i64 x.f2.f2, .int .i64 x.f2.f3, .int .i64 x.f2.f4, .int .i64 x.f3.f0, .int .i64 x.f3.f1, .int .i64 x.f3.f2, .int .i64 x.f3.f3, .int .i64 x.f3.f4]
def edV (x : S28) : Value := .agg #[.int .i64 x.f0, .int .i64 x.f1, .int .i64 x.f2.f0, .int .i64 x.f2.f1, .int .i64 x.f2.f2, .int .i64 x.f2.f3, .int .i64 x.f2.f4, .int .i64 x.f3.f0, .int .i64 x.f3.f1, .int .i64 x.f3.f2, .int .i64 x.f3.f3, .int .i64 x.f3.f4]
def impl_UndoEdits.f (k : Nat) (l0 : List (S26)) (l1 : List (S28)) (a2 : Int) : Option ((List (S28)) × Bool) := (impl_IsHistory.f k l0 l1).bind fun t1 => (if t1 = true then ((impl_within.f a2 0 (l1.length : Int)).bind fun t2 => (if t2 = true then (if 0 ≤ a2 ∧ a2 ≤ (l1.length : Int) ∧ l1.length ≤ 4194304 then (some (((l1.drop (l1.length - a2.toNat)).reverse).map invE, true)) else none) else (some (([] : List (S28)), false)))) else (some (([] : List (S28)), false)))
theorem impl_UndoEdits.mono : ∀ a0 a1 a2 k, LeO (impl_UndoEdits.f k a0 a1 a2) (impl_UndoEdits.f (k + 1) a0 a1 a2) := by
 intro a0 a1 a2 k
 unfold impl_UndoEdits.f
 exact LeO.bind (impl_IsHistory.mono _ _ _) (fun _ => LeO.refl _)
/-! The cells of a row of edits. -/
def flatE (xs : List (S28)) : List Value := xs.flatMap cellsE
theorem flatE_len : ∀ xs : List (S28), (flatE xs).length = xs.length * 12
 | [] => rfl
 | x :: xs => by
  show (cellsE x ++ flatE xs).length = _
  rw [List.length_append, flatE_len xs, List.length_cons]
  show 12 + _ = _
  omega
theorem flatE_snoc (xs : List (S28)) (x : S28) : flatE (xs ++ [x]) = flatE xs ++ cellsE x := by
 unfold flatE
 rw [List.flatMap_append]
 simp
theorem flatE_reps (w : World) (base : Nat) (ok : Nat → Prop) : ∀ xs : List (S28), Reps (k28.M w base ok) 12 xs (flatE xs)
 | [] => Reps.none _ _
 | x :: xs => by
  have hl : (cellsE x).length = 12 := rfl
  refine ⟨flatE_len _, fun j p hp => ?_⟩
  cases j with
  | zero =>
   obtain rfl : x = p := by simpa using hp
   exact k28_mkM w base ok x
  | succ j =>
   have h := (flatE_reps w base ok xs).2 j p (by simpa using hp)
   show k28.M w base ok p (((cellsE x ++ flatE xs).drop ((j + 1) * 12)).take 12)
   rw [List.drop_append, hl, List.drop_eq_nil_of_le (show (cellsE x).length ≤ (j + 1) * 12 by rw [hl]; omega), List.nil_append, show (j + 1) * 12 - 12 = j * 12 by omega]
   exact h
theorem infoE : (Try.prog.info? 28).map (fun i => (i.zero, i.size, i.bytes)) = some (some (.agg #[.int .i64 0, .int .i64 0, .int .i64 0, .int .i64 0, .int .i64 0, .int .i64 0, .int .i64 0, .int .i64 0, .int .i64 0, .int .i64 0, .int .i64 0, .int .i64 0]), 12, 96) := by kernel_rfl
/-! A box of an edit. -/
def BoxE (W : World) (B : Nat) (x : S28) : Prop := W.heap[B]? = some (.cells #[.int .i64 x.f0, .int .i64 x.f1, .int .i64 x.f2.f0, .int .i64 x.f2.f1, .int .i64 x.f2.f2, .int .i64 x.f2.f3, .int .i64 x.f2.f4, .int .i64 x.f3.f0, .int .i64 x.f3.f1, .int .i64 x.f3.f2, .int .i64 x.f3.f3, .int .i64 x.f3.f4] 28 (0, 0))
theorem BoxE.cells {W : World} {B : Nat} {x : S28} (h : BoxE W B x) : W.cell? ⟨B, 0, none⟩ = some (.int .i64 x.f0) ∧ W.cell? ⟨B, 1, none⟩ = some (.int .i64 x.f1) ∧ W.cell? ⟨B, 2, none⟩ = some (.int .i64 x.f2.f0) ∧ W.cell? ⟨B, 3, none⟩ = some (.int .i64 x.f2.f1) ∧ W.cell? ⟨B, 4, none⟩ = some (.int .i64 x.f2.f2) ∧ W.cell? ⟨B, 5, none⟩ = some (.int .i64 x.f2.f3) ∧ W.cell? ⟨B, 6, none⟩ = some (.int .i64 x.f2.f4) ∧ W.cell? ⟨B, 7, none⟩ = some (.int .i64 x.f3.f0) ∧ W.cell? ⟨B, 8, none⟩ = some (.int .i64 x.f3.f1) ∧ W.cell? ⟨B, 9, none⟩ = some (.int .i64 x.f3.f2) ∧ W.cell? ⟨B, 10, none⟩ = some (.int .i64 x.f3.f3) ∧ W.cell? ⟨B, 11, none⟩ = some (.int .i64 x.f3.f4) := by
 have h' : W.heap[B]? = some (.cells #[.int .i64 x.f0, .int .i64 x.f1, .int .i64 x.f2.f0, .int .i64 x.f2.f1, .int .i64 x.f2.f2, .int .i64 x.f2.f3, .int .i64 x.f2.f4, .int .i64 x.f3.f0, .int .i64 x.f3.f1, .int .i64 x.f3.f2, .int .i64 x.f3.f3, .int .i64 x.f3.f4] 28 (0, 0)) := h
 exact ⟨(blk_cell h' 0).trans rfl, (blk_cell h' 1).trans rfl, (blk_cell h' 2).trans rfl, (blk_cell h' 3).trans rfl, (blk_cell h' 4).trans rfl, (blk_cell h' 5).trans rfl, (blk_cell h' 6).trans rfl, (blk_cell h' 7).trans rfl, (blk_cell h' 8).trans rfl, (blk_cell h' 9).trans rfl, (blk_cell h' 10).trans rfl, (blk_cell h' 11).trans rfl⟩
theorem boxE_own (B : Nat) (f : S28) : Own (fun (_ : Unit) W => BoxE W B f) := by
 intro s X Y row hs hg hr
 have hs' : X.heap[B]? = some (.cells #[.int .i64 f.f0, .int .i64 f.f1, .int .i64 f.f2.f0, .int .i64 f.f2.f1, .int .i64 f.f2.f2, .int .i64 f.f2.f3, .int .i64 f.f2.f4, .int .i64 f.f3.f0, .int .i64 f.f3.f1, .int .i64 f.f3.f2, .int .i64 f.f3.f3, .int .i64 f.f3.f4] 28 (0, 0)) := hs
 refine (hg.block B (Array.getElem?_eq_some_iff.1 hs').1 (fun e => ?_)).trans hs'
 obtain ⟨o, ho, hc⟩ := hr B e.symm
 rw [hs'] at ho
 cases ho
 cases hc
theorem snoc_rev (xs : List (S28)) (pre : List (Int × S28)) (i : Int) (hm : pre.map Prod.snd = xs.reverse.take pre.length) (hi : i = (xs.length : Int) - 1 - (pre.length : Int)) (hl : pre.length < xs.length) : (pre ++ [(i, rd_T28 xs i)]).map Prod.snd = xs.reverse.take (pre ++ [(i, rd_T28 xs i)]).length := by
 have hj : pre.length < xs.reverse.length := by rw [List.length_reverse]; exact hl
 rw [List.map_append, List.length_append, List.length_singleton, List.take_add_one, hm, List.getElem?_eq_getElem hj, List.getElem_reverse]
 have e : i.toNat = xs.length - 1 - pre.length := by omega
 simp [rd_T28, e, List.getElem?_eq_getElem (show xs.length - 1 - pre.length < xs.length by omega)]
/-- What the iterator wants kept between two rounds: what lay below n₀, and the box of its slice. -/
def KpE (n₀ Bs : Nat) (W W' : World) : Prop := Below n₀ W W' ∧ ∀ v, Boxed W Bs 36 v → Boxed W' Bs 36 v
theorem KpE.refl (n₀ Bs : Nat) (W : World) : KpE n₀ Bs W W := ⟨Below.refl _ _, fun _ h => h⟩
theorem KpE.trans {n₀ Bs : Nat} {X Y Z : World} (h : KpE n₀ Bs X Y) (k : KpE n₀ Bs Y Z) : KpE n₀ Bs X Z := ⟨h.1.trans k.1, fun v hv => k.2 v (h.2 v hv)⟩
theorem KpE.turn {n₀ Bs : Nat} {w : World} (hn : n₀ ≤ w.heap.size) (hb : Bs < w.heap.size) (W : World) (l : Nat) (o o' : Obj) (hl : w.heap.size ≤ l) (h : W.heap[l]? = some o) (h1 : o.isCells = false) (h2 : o.isWalk = false) : KpE n₀ Bs W (W.putObj l o') :=
 ⟨belowK_b hn W l o o' hl h h1 h2, fun v hv => hv.kept (grownBy_putObj' W l o') (fun e => by cases e; omega)⟩
set_option maxRecDepth 100000 in
set_option maxHeartbeats 4000000 in
/-- slices.Backward's closure, for every loop body that keeps what lay below n₀. -/
theorem bwd1_in (F : Fence) (n : Nat) (h8 : F.fn 93) (hro : F.round = none) (hn : 1 ≤ n) (l Bs n₀ : Nat) (A : Option Addr) (c : Nat) (xs : List (S28)) (w0 : World) (hn0 : w0.heap.size = n₀) (hR : Kd.C k28 w0 A xs.length xs) (hlen : xs.length ≤ 4194304) (J Jx : List (Int × S28) → World → Prop)
  (hY : ∀ pre x W, J pre W → pre.length < xs.length → YieldAt F (n - 1) Try.prog l #[.int .i64 x.1, edV x.2] W fun e W' =>
   (e = .returned (.bool true) ∧ J (pre ++ [x]) W' ∧ KpE n₀ Bs W W') ∨ (e = .returned (.bool false) ∧ Jx (pre ++ [x]) W'))
  (W : World) (hW : Below n₀ w0 W) (hBs : Boxed W Bs 36 (.slice A xs.length c)) (h0 : J [] W) :
  CallsIn F n Try.prog 93 #[.func (.yield l) #[] #[], .pointer (some ⟨Bs, 0, none⟩)] W fun e W' => (∃ v, e = .returned v) ∧
   ((∃ ys : List (Int × S28), ys.map Prod.snd = xs.reverse ∧ J ys W') ∨ (∃ pre, True ∧ Jx pre W')) := by
 have hc0 := hBs.cell
 subst hn0
 refine callsIn_of_wp Try.func93 rfl h8 ?_ hro
 simp only [Try.ntmps93, List.size_toArray, List.length_cons, List.length_nil, Nat.reduceAdd, Nat.reduceSub, Array.replicate_succ, Array.replicate_zero, List.push_toArray, List.append_toArray, List.nil_append, List.cons_append]
 gi_wp2
 gi_loopw [3] (fun v wr => ∃ (i : Int) (pre : List (Int × S28)), v = .int .i64 i ∧ Aside0 (i = (xs.length : Int) - 1 - (pre.length : Int)) ∧ Aside0 (pre.map Prod.snd = xs.reverse.take pre.length) ∧ Aside0 (pre.length ≤ xs.length) ∧ J pre wr ∧ Aside0 (KpE w0.heap.size Bs W wr)) (fun v _ => (intOf v + 1).toNat)
 case atStart => exact ⟨(xs.length : Int) - 1, [], rfl, ⟨by simp⟩, ⟨by simp⟩, ⟨by simp⟩, h0, ⟨KpE.refl _ _ _⟩⟩
 case round =>
  obtain ⟨i, pre, rfl, hi, hm, hk, hJs, hnx⟩ := hrel
  have hb0 := (hnx.out.2 _ hBs).cell
  clear hc0
  by_cases hlt : 0 ≤ i
  ·have h1 : i < (xs.length : Int) := by have := hi.out; omega
   have hpl : pre.length < xs.length := by have := hi.out; omega
   obtain ⟨ad, e, g0, g1, g2, g3, g4, g5, g6, g7, g8, g9, g10, g11⟩ := at_T28 (Kd.C_below hR (hW.trans hnx.out.1)) i hlt h1
   subst e
   obtain ⟨fn, tmps, assign, body, hy, hR'⟩ := hY pre (i, rd_T28 xs i) wr hJs hpl
   dsimp only [edV] at hy
   gi_wp2
   refine hR'.mono ?_
   rintro e W3 (⟨rfl, hJ3, hk3⟩ | ⟨rfl, hJx3⟩)
   ·gi_wp2
    go_roundw
    case rel => exact ⟨i - 1, pre ++ [(i, rd_T28 xs i)], rfl, ⟨by have := hi.out; rw [List.length_append, List.length_singleton]; omega⟩, ⟨snoc_rev xs pre i hm.out hi.out hpl⟩, ⟨by rw [List.length_append, List.length_singleton]; omega⟩, hJ3, ⟨hnx.out.trans hk3⟩⟩
    case measure => simp [intOf]; omega
   ·gi_wp2
    refine bodyPost_ret (results_none rfl _ _ _) rfl ?_
    exact ⟨⟨_, rfl⟩, .inr ⟨_, trivial, hJx3⟩⟩
  ·gi_wp2
   go_end0
   have hl : pre.length = xs.length := by have := hi.out; have := hk.out; omega
   exact ⟨⟨_, rfl⟩, .inl ⟨pre, by rw [hm.out, hl, ← List.length_reverse, List.take_length], hJs⟩⟩
set_option maxHeartbeats 1000000 in
/-- slices.Backward(s): the slice value is boxed; the function value captures the box. -/
theorem bwd_in (F : Fence) (n : Nat) (h5 : F.fn 80) (hro : F.round = none) (A : Option Addr) (len cap : Nat) (w : World) :
  CallsIn F n Try.prog 80 #[.slice A len cap] w fun e w' => e = .returned (.func (.func 93) #[] #[.pointer (some ⟨w.heap.size, 0, none⟩)]) ∧ w' = w.alloc (.cells #[.slice A len cap] 36) := by
 refine callsIn_of_wp Try.func80 rfl h5 ?_ hro
 simp only [Try.ntmps80, List.size_toArray, List.length_cons, List.length_nil, Nat.reduceAdd, Nat.reduceSub, Array.replicate_succ, Array.replicate_zero, List.push_toArray, List.append_toArray, List.nil_append, List.cons_append]
 gi_wp2
 go_ret
 exact ⟨rfl, rfl⟩
theorem bwd_stops (F : Fence) (n : Nat) (h8 : F.fn 93) (hro : F.round = none) (hn : 1 ≤ n) (Bs n₀ : Nat) (A : Option Addr) (c : Nat) (xs : List (S28)) (w0 w : World) (hn0 : w0.heap.size = n₀) (hR : Kd.C k28 w0 A xs.length xs) (hlen : xs.length ≤ 4194304) (hW0 : Below n₀ w0 w) (hBs : Boxed w Bs 36 (.slice A xs.length c)) :
  SeqStopsK F n Try.prog 93 #[.pointer (some ⟨Bs, 0, none⟩)] (fun x : Int × S28 => #[Value.int .i64 x.1, edV x.2]) (KpE n₀ Bs) (fun ys => ys.map Prod.snd = xs.reverse) (fun _ => True) xs.length w := fun l J Jx W hW _ _ hY h0 => by
 refine bwd1_in F n h8 hro hn l Bs n₀ A c xs w0 hn0 hR hlen J Jx hY W (hW0.trans (hW.mono (by rw [← hn0]; exact hW0.size))) ?_ h0
 exact (hW.block Bs hBs.lt).trans hBs
def appO (ats : Array TypeId) (ty : TypeId) (args : Array Value) : Sem Value := Builtin.append_ ats ty args
theorem bi_append (ats : Array TypeId) (ty : TypeId) (cs : Array Bool) (args : Array Value) : builtin .append ats ty cs args = (do pure (.value (← appO ats ty args))) := rfl
theorem row_below {W W' : World} {base : Nat} {e : TypeId} {size : Nat} {v : Value} {k : Nat} {xs : List Value} (h : W.ownsRow base e size v k xs) (hb : Below W.heap.size W W') : W'.ownsRow base e size v k xs := by
 refine ⟨h.1, ?_⟩
 rcases h.2 with h0 | ⟨g, cap, cur, e1, e2, hg, r⟩
 ·exact .inl h0
 ·exact .inr ⟨g, cap, cur, e1, e2, blk_below hg hb, r⟩
/-- One round: what the append of the inverse does. -/
theorem undo_step {W w3 : World} {B Bs n0 k : Nat} {xs : List Value} {x : S28} {v : Value} (hv : Boxed W B 36 v) (hrow : W.ownsRow n0 28 12 v k xs) (hn0 : n0 ≤ W.heap.size) (hB : n0 ≤ B) (hne : Bs ≠ B) (hb3 : Below W.heap.size W w3) (hk : k ≤ 4194304) :
  w3.cell? ⟨B, 0, none⟩ = some v ∧ (w3.alloc (.cells #[.int .i64 x.f0, .int .i64 x.f1, .int .i64 x.f2.f0, .int .i64 x.f2.f1, .int .i64 x.f2.f2, .int .i64 x.f2.f3, .int .i64 x.f2.f4, .int .i64 x.f3.f0, .int .i64 x.f3.f1, .int .i64 x.f3.f2, .int .i64 x.f3.f3, .int .i64 x.f3.f4] 28)).cell? ⟨B, 0, none⟩ = some v ∧ ∃ g' cap' w4, (appO #[36, 36] 36 #[v, .slice (some ⟨w3.heap.size, 0, none⟩) 1 1]).run Try.prog (w3.alloc (.cells #[.int .i64 x.f0, .int .i64 x.f1, .int .i64 x.f2.f0, .int .i64 x.f2.f1, .int .i64 x.f2.f2, .int .i64 x.f2.f3, .int .i64 x.f2.f4, .int .i64 x.f3.f0, .int .i64 x.f3.f1, .int .i64 x.f3.f2, .int .i64 x.f3.f3, .int .i64 x.f3.f4] 28)) = .ok (.slice (some ⟨g', 0, none⟩) (k + 1) cap') w4 ∧ w4.cell? ⟨B, 0, none⟩ = some v ∧ w4.frozen? ⟨B, 0, none⟩ = false ∧
   Aside0 (Boxed (w4.setCell ⟨B, 0, none⟩ (.slice (some ⟨g', 0, none⟩) (k + 1) cap')) B 36 (.slice (some ⟨g', 0, none⟩) (k + 1) cap') ∧ (w4.setCell ⟨B, 0, none⟩ (.slice (some ⟨g', 0, none⟩) (k + 1) cap')).ownsRow n0 28 12 (.slice (some ⟨g', 0, none⟩) (k + 1) cap') (k + 1) (xs ++ cellsE x) ∧ KeepsOthers W (w4.setCell ⟨B, 0, none⟩ (.slice (some ⟨g', 0, none⟩) (k + 1) cap')) ∧ Below n0 W (w4.setCell ⟨B, 0, none⟩ (.slice (some ⟨g', 0, none⟩) (k + 1) cap')) ∧
    ∀ u, Boxed W Bs 36 u → Boxed (w4.setCell ⟨B, 0, none⟩ (.slice (some ⟨g', 0, none⟩) (k + 1) cap')) Bs 36 u) := by
 obtain ⟨i0, hi, hz0, hz1, hz2⟩ := info_parts infoE
 have hv3 : Boxed w3 B 36 v := blk_below hv hb3
 have hrow3 := row_below hrow hb3
 have hn3 : n0 ≤ w3.heap.size := Nat.le_trans hn0 hb3.size
 obtain ⟨v', w4, hrun, hown, hgrow, _⟩ := run_append_own (P := Try.prog) (w3.alloc (.cells #[.int .i64 x.f0, .int .i64 x.f1, .int .i64 x.f2.f0, .int .i64 x.f2.f1, .int .i64 x.f2.f2, .int .i64 x.f2.f3, .int .i64 x.f2.f4, .int .i64 x.f3.f0, .int .i64 x.f3.f1, .int .i64 x.f3.f2, .int .i64 x.f3.f3, .int .i64 x.f3.f4] 28)) n0 36 36 28 i0 (.agg #[.int .i64 0, .int .i64 0, .int .i64 0, .int .i64 0, .int .i64 0, .int .i64 0, .int .i64 0, .int .i64 0, .int .i64 0, .int .i64 0, .int .i64 0, .int .i64 0]) 12 96 Try.underlying36 hi hz0 hz1 hz2 rfl (by decide) v k xs (hrow3.alloc _) ⟨w3.heap.size, 0, none⟩ 1 1 (cellsE x) rfl
  (fun j u hj => by
   have h := blk_cell (blk_new w3 (.cells #[.int .i64 x.f0, .int .i64 x.f1, .int .i64 x.f2.f0, .int .i64 x.f2.f1, .int .i64 x.f2.f2, .int .i64 x.f2.f3, .int .i64 x.f2.f4, .int .i64 x.f3.f0, .int .i64 x.f3.f1, .int .i64 x.f3.f2, .int .i64 x.f3.f3, .int .i64 x.f3.f4] 28)) j
   have e : (⟨w3.heap.size, 0, none⟩ : Addr).add j = ⟨w3.heap.size, j, none⟩ := by
    unfold Addr.add
    by_cases h0 : j = 0 <;> simp [h0]
   rw [e, h]
   simpa [cellsE] using hj)
  (fun u hu => by simp only [cellsE, List.mem_cons, List.not_mem_nil, or_false] at hu; rcases hu with rfl | rfl | rfl | rfl | rfl | rfl | rfl | rfl | rfl | rfl | rfl | rfl <;> rfl)
  (by unfold maxLen; omega) (by omega) (by rw [World.size_alloc]; omega)
 obtain ⟨g', cap', rfl⟩ := ownsRow_succ hown
 obtain ⟨h1, h2, h3, h4, h5⟩ := hv3.appended (by decide) hrow3 hn3 hB hown hgrow
 refine ⟨hv3.cell, (hv3.alloc _).cell, g', cap', w4, hrun, h1.cell, h1.frozen, ⟨h2, h3, (⟨hb3.size, fun q o hq _ => blk_below hq hb3⟩ : KeepsOthers W w3).trans h4, (hb3.mono hn0).trans h5, fun u hu => ?_⟩⟩
 have hu3 : Boxed w3 Bs 36 u := blk_below hu hb3
 exact ((hu3.alloc _).kept hgrow (hu3.not_row (by decide) hrow3)).other hne _
section
attribute [local go_sem ↓ high] bi_append
attribute [local go_sem] Oper.semAt_some
set_option maxRecDepth 100000 in
set_option maxHeartbeats 8000000 in
theorem undo_main (k : Nat) (A0 : Option Addr) (c0 : Nat) (l0 : List (S26)) (A1 : Option Addr) (c1 : Nat) (l1 : List (S28)) (a2 : Int) (w : World) (hr0 : Kd.C k26 w A0 l0.length l0) (hc0 : l0.length ≤ c0) (hr1 : Kd.C k28 w A1 l1.length l1) (hc1 : l1.length ≤ c1) (ht1 : impl_IsHistory.f k l0 l1 = some true) (ht2 : impl_within.f a2 0 (l1.length : Int) = some true) (ha : 0 ≤ a2) (hb : a2 ≤ (l1.length : Int)) (hm : l1.length ≤ 4194304) :
  Calls Try.prog 46 #[.slice A0 l0.length c0, .slice A1 l1.length c1, .int .i64 a2] w fun e w' => ∃ v0_ : Value, e = .returned (.tuple #[v0_, .bool true]) ∧ Kd.R k28 28 w' w.heap.size (fun _ => True) v0_ (((l1.drop (l1.length - a2.toNat)).reverse).map invE) ∧ Below w.heap.size w w' := by
 obtain ⟨i0, hi, hz0, hz1, hz2⟩ := info_parts infoE
 have hcut := cut_from (P := Try.prog) 36 28 .i64 Try.underlying36 hi 12 hz1 A1 l1.length c1 ((l1.length : Int) - a2) (by omega) (by omega)
 have hD := Kd.C_drop (m := l1.length - a2.toNat) (c := c1) hr1 (by omega) hc1
 rw [show ((l1.length : Int) - a2).toNat = l1.length - a2.toNat by omega] at hcut
 have hlen : (l1.drop (l1.length - a2.toNat)).length ≤ 4194304 := by rw [List.length_drop]; omega
 rw [show k28.sz = 12 from rfl] at hD
 generalize (if c1 = l1.length - a2.toNat then A1 else A1.map (·.add ((l1.length - a2.toNat) * 12))) = A' at hcut hD
 rw [show l1.length - (l1.length - a2.toNat) = (l1.drop (l1.length - a2.toNat)).length by rw [List.length_drop]] at hcut
 generalize c1 - (l1.length - a2.toNat) = c' at hcut
 generalize l1.drop (l1.length - a2.toNat) = L at hcut hD hlen ⊢
 have hmx : Try.prog.follows .mixedOrders = true := by kernel_rfl
 have HR0 := Aside0.mk hr0
 have HR1 := Aside0.mk hr1
 have HD := Aside0.mk hD
 have HL := Aside0.mk hlen
 clear hr0 hr1 hD hlen
 refine (callsIn_wide (n := 3)).1 ?_
 refine callsIn_of_wp_marks Try.func46 rfl trivial ?_ rfl
 simp only [Try.ntmps46, List.size_toArray, List.length_cons, List.length_nil, Nat.reduceAdd, Nat.reduceSub, Array.replicate_succ, Array.replicate_zero, List.push_toArray, List.append_toArray, List.nil_append, List.cons_append]
 gi_wp2_with (first | (refine ⟨trivial, ?_⟩; gi_at_call 32; refine (callsIn_wide.2 (impl_IsHistory.calls k _ _ l0 _ _ l1 true _ HR0.out hc0 HR1.out hc1 ht1)).mono ?_; rintro e w1 ⟨rfl, hb1⟩; have B1 := Aside0.mk hb1; clear hb1) | (refine ⟨trivial, ?_⟩; gi_at_call 72; refine (callsIn_wide.2 (impl_within.calls a2 0 (l1.length : Int) true _ ht2)).mono ?_; rintro e w2 ⟨rfl, hd⟩; have B2 := Aside0.mk (below_step B1.out hd.below); clear hd) | (refine ⟨trivial, ?_⟩; gi_at_call 80; refine (bwd_in Fence.wide (3 - 1) trivial rfl _ _ _ _).mono ?_; rintro e w' ⟨rfl, rfl⟩))
 have hz := B2.out.size
 have bO := (Boxed.new w2 36 (.slice none 0 0)).alloc (.cells #[.slice A' L.length c'] 36)
 have bN := Boxed.new (w2.alloc (.cells #[.slice none 0 0] 36)) 36 (.slice A' L.length c')
 rw [World.size_alloc] at bN
 have hB0 : Below w.heap.size w ((w2.alloc (.cells #[.slice none 0 0] 36)).alloc (.cells #[.slice A' L.length c'] 36)) := (B2.out.alloc hz _).alloc (by simp; omega) _
 refine wpIn_rangeFunc_ownH rfl (by decide) (gf := 93) (lb := #[.pointer (some ⟨w2.heap.size + 1, 0, none⟩)]) rfl trivial (enters_of Try.func93 (by kernel_rfl) rfl)
  (bwd_stops Fence.wide (3 - 1) trivial rfl (by decide) (w2.heap.size + 1) w.heap.size A' c' L w _ rfl HD.out HL.out hB0 bN)
  (fun h k => h.trans k) (KpE.turn (by simp; omega) (by simp)) (Below.refl _ _) (fun _ => rfl)
  (fun pre W => (∃ v, Boxed W w2.heap.size 36 v ∧ W.ownsRow w.heap.size 28 12 v pre.length (flatE (pre.map fun p => invE p.2)) ∧ True) ∧ Below w.heap.size w W)
  (fun _ _ _ => False)
  (OwnFrom.and (Own.from (holdsRow_own w.heap.size w2.heap.size 36 28 12 (fun (pre : List (Int × S28)) => pre.length) (fun pre => flatE (pre.map fun p => invE p.2)) (fun _ _ => True)) _) (ownFrom_below (Nat.le_refl _) (by simp; omega)))
  (fun _ _ _ _ _ hs _ _ => hs)
  ⟨⟨_, bO, World.ownsRow_nil _ _ _ _, trivial⟩, hB0⟩
  (fun x a' W => ∃ Bx, BoxE W Bx x.2 ∧ a' = { tmps := #[.slice A0 l0.length c0, .slice A1 l1.length c1, .int .i64 a2, undef, undef, undef, .slice none 0 0, .bool false, .pointer (some ⟨w2.heap.size, 0, none⟩), undef, .pointer (some ⟨Bx, 0, none⟩), .slice A0 l0.length c0, .slice A1 l1.length c1, .bool true, .bool false, .bool false, .int .i64 a2, .slice A1 l1.length c1, .int .i64 (l1.length : Int), .bool true, .bool false, .bool false, .slice A1 l1.length c1, .slice A1 l1.length c1, .int .i64 (l1.length : Int), .int .i64 a2, .int .i64 ((l1.length : Int) - a2), .slice A' L.length c', .func (.func 93) #[] #[.pointer (some ⟨w2.heap.size + 1, 0, none⟩)], .int .i64 x.1, edV x.2, undef, undef, undef, undef, undef, undef], defers := [] })
  (fun x a' _ X Y row => by
   rintro ⟨Bx, h2, h3⟩ hg hr
   exact ⟨Bx, boxE_own Bx x.2 () X Y row h2 hg (fun r e => (hr r e).2), h3⟩) ?assign ?body ?done ?stop
 case assign =>
  rintro l pre x W K ⟨⟨v, hv, hrow, _⟩, hBl⟩ hK
  have hu28 := Try.underlying28
  dsimp only [edV]
  gi_wp2
  exact hK _ _ ((KeepsOthers.alloc W _).from _) ⟨(Below.refl _ W).alloc hBl.size _, fun v hv => hv.alloc _⟩ ⟨⟨v, hv.alloc _, hrow.alloc _, trivial⟩, hBl.alloc hBl.size _⟩ ⟨W.heap.size, blk_new W _, rfl⟩
 case body =>
  rintro l pre x a' W hl _ ⟨⟨v, hv, hrow, _⟩, hBl⟩ ⟨Bx, bX, rfl⟩ hlt
  obtain ⟨g0, g1, g2, g3, g4, g5, g6, g7, g8, g9, g10, g11⟩ := bX.cells
  have hc := hv.cell
  have hf := hv.frozen
  have hu28 := Try.underlying28
  gi_wp2
  have hpl : pre.length ≤ 4194304 := by have := HL.out; omega
  have st := fun w3 h3 => undo_step (x := invE x.2) (w3 := w3) (Bs := w2.heap.size + 1) hv hrow hBl.size hz (by omega) h3 hpl
  gi_region_with_o (first | (refine ⟨trivial, ?_⟩; gi_at_call 62; refine (CallsIn.inRound l (callsIn_wide.2 (impl_Edit_inverse.calls _ _ _ _ _ _ _ _ _ _ _ _ _ _ _ _ _ _ _ _ _ _ _ _ _ (invE_f x.2)))).mono ?_; rintro e w3 ⟨rfl, hb3⟩; obtain ⟨hc3, hc3a, g', cap', w4, hrun, hc4, hf4, R4⟩ := st w3 (below_step (Below.refl _ W).drew hb3); clear st))
  all_goals gi_wp2
  all_goals
   obtain ⟨q1, q2, q3, q4, q5⟩ := R4.out
   exact ⟨q3.from _, ⟨q4, q5⟩, ⟨_, q1, by rw [List.length_append, List.length_singleton, List.map_append, List.map_cons, List.map_nil, flatE_snoc]; exact q2, trivial⟩, hBl.trans q4⟩
 case done =>
  rintro D ys W hD hS ⟨⟨v, hv, hrow, _⟩, hB⟩ hK
  have hc := hv.cell
  gi_wp2
  refine ⟨by simp, .inl ⟨_, _, rfl, run_takeDeferred hK, ?_⟩⟩
  have hr2 := ownsRow_putObj hrow (.deferred none) hK rfl
  refine ⟨_, results_tmp2 rfl _ _ _, v, rfl, ?_, hB.trans (belowK_b (w := w) (Nat.le_refl _) W D _ _ (by simp at hD; omega) hK rfl rfl)⟩
  rw [← hS, List.map_map]
  exact ⟨fun _ _ => trivial, flatE (ys.map fun p => invE p.2), by rw [List.length_map]; exact hr2, flatE_reps _ _ _ _⟩
 case stop =>
  rintro D c pre W _ _ h _
  exact h.elim
end
set_option maxHeartbeats 8000000 in
set_option maxRecDepth 100000 in
theorem impl_UndoEdits.calls (k : Nat) (A0 : Option Addr) (c0 : Nat) (l0 : List (S26)) (A1 : Option Addr) (c1 : Nat) (l1 : List (S28)) (a2 : Int) (r1 : List (S28)) (r2 : Bool) (w : World) (hr0 : Kd.C k26 w A0 l0.length l0) (hc0 : l0.length ≤ c0) (hr1 : Kd.C k28 w A1 l1.length l1) (hc1 : l1.length ≤ c1) (h : impl_UndoEdits.f k l0 l1 a2 = some (r1, r2)) :
  Calls Try.prog 46 #[.slice A0 l0.length c0, .slice A1 l1.length c1, .int .i64 a2] w fun e w' => ∃ v0_ : Value, e = .returned (.tuple #[v0_, .bool r2]) ∧ Kd.R k28 28 w' w.heap.size (fun _ => True) v0_ r1 ∧ Below w.heap.size w w' := by
 unfold impl_UndoEdits.f at h
 obtain ⟨t1, ht1, h⟩ := Option.bind_eq_some_iff.1 h
 cases t1 with
 | false =>
  rw [if_neg (by decide)] at h
  simp only [Option.some.injEq, Prod.mk.injEq] at h
  obtain ⟨rfl, rfl⟩ := h
  have HR0 := Aside0.mk hr0
  have HR1 := Aside0.mk hr1
  clear hr0 hr1
  go_enter Try.func46, Try.ntmps46
  go_wp2_with (first | (go_at_call 32; with_reducible refine (impl_IsHistory.calls k _ _ l0 _ _ l1 false _ HR0.out hc0 HR1.out hc1 ht1).mono ?_; rintro e w1 ⟨rfl, hb⟩; have HB1 := Aside0.mk hb; clear hb))
  go_ret2
  exact ⟨_, rfl, Kd.R_nil _ _ _ _ _, HB1.out⟩
 | true =>
  rw [if_pos rfl] at h
  obtain ⟨t2, ht2, h⟩ := Option.bind_eq_some_iff.1 h
  cases t2 with
  | false =>
   rw [if_neg (by decide)] at h
   simp only [Option.some.injEq, Prod.mk.injEq] at h
   obtain ⟨rfl, rfl⟩ := h
   have HR0 := Aside0.mk hr0
   have HR1 := Aside0.mk hr1
   clear hr0 hr1
   go_enter Try.func46, Try.ntmps46
   go_wp2_with (first | (go_at_call 32; with_reducible refine (impl_IsHistory.calls k _ _ l0 _ _ l1 true _ HR0.out hc0 HR1.out hc1 ht1).mono ?_; rintro e w1 ⟨rfl, hb⟩; have HB1 := Aside0.mk hb; clear hb) | (go_at_call 72; with_reducible refine (impl_within.calls a2 0 (l1.length : Int) false _ ht2).mono ?_; rintro e w2 ⟨rfl, hd⟩; have HB2 := Aside0.mk (below_step HB1.out hd.below); clear hd))
   go_ret2
   exact ⟨_, rfl, Kd.R_nil _ _ _ _ _, HB2.out⟩
  | true =>
   rw [if_pos rfl] at h
   split at h
   ·rename_i hg
    simp only [Option.some.injEq, Prod.mk.injEq] at h
    obtain ⟨rfl, rfl⟩ := h
    exact undo_main k A0 c0 l0 A1 c1 l1 a2 w hr0 hc0 hr1 hc1 ht1 ht2 hg.1 hg.2.1 hg.2.2
   ·cases h

end Go.Proofs.Ytinelmmnajelaaa.QFnExactUndoEdits
