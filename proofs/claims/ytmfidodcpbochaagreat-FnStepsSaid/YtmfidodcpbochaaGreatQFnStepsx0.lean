/- Contracts of Go functions that FnSteps reaches: the call computes what the plain function says. No condition. -/
import Derived.Test.YtmfidodcpbochaaGreatProg
import Derived.Below
import Derived.Deep.Draws
import Derived.Deep.AppendLies
import Derived.Maps.AppendAt
import Derived.OwnWalk
import Derived.Laws.BytesArg
import Derived.Laws.MakeOwn
import Derived.Laws.OwnMore
import Derived.Deep.OwnRows
import Derived.Tactics
import Derived.Lib.ConvBytes
import Derived.Laws.Slices
import Derived.WalkKit
import Derived.KernelRfl
import Derived.RowKit3
import Derived.Deep.LoopGhost
import Derived.Deep.QuietTactic
import Derived.BigQuiet
import Derived.WideLaws
import Derived.Deep.DeepCutAuto
import Derived.Deep.CutBlock
import Derived.Deep.RegionHeld3
import Derived.Laws.Rows
import Derived.Lib.AppendStr
import Derived.ArgAppend
import Derived.Laws.IdiomCopy
import Derived.OrdersHeld
import Derived.Laws.BitsLemmas
import Derived.RowKit
import Derived.Lib.SliceRun
import Derived.LoopTactic
import Derived.LoopN
import Derived.Test.YtmfidodcpbochaaGreatShelf
import Derived.Test.YtmfidodcpbochaaGreatVSWords
import Derived.Test.YtmfidodcpbochaaGreatVSLast
import Derived.Test.YtmfidodcpbochaaGreatVSTab
import Derived.Test.YtmfidodcpbochaaGreatVSFour
import Derived.Test.YtmfidodcpbochaaGreatVSQPut
import Derived.Test.YtmfidodcpbochaaGreatVSApart
import Derived.Test.YtmfidodcpbochaaGreatVSArr
import Derived.Test.YtmfidodcpbochaaGreatVSZeros
import Derived.Test.YtmfidodcpbochaaGreatVSFoot
import Derived.Test.YtmfidodcpbochaaGreatVSKept
import Derived.Test.YtmfidodcpbochaaGreatVSShare
import Derived.Test.YtmfidodcpbochaaGreatVSN
import Derived.Test.YtmfidodcpbochaaGreatVSFootNe
import Derived.Test.YtmfidodcpbochaaGreatVSAt
import Derived.Test.YtmfidodcpbochaaGreatVSEqStruct
import Derived.Test.YtmfidodcpbochaaGreatVSRepsOne
import Derived.Test.YtmfidodcpbochaaGreatVSInv
import Derived.Test.YtmfidodcpbochaaGreatVSInvWords
import Derived.Test.YtmfidodcpbochaaGreatVSGuard
import Derived.Test.YtmfidodcpbochaaGreatVSNEv
import Derived.Test.YtmfidodcpbochaaGreatVSMore
namespace Go.Proofs.YtmfidodcpbochaaGreat.QFnSteps
open Go.RowKit Go.Proofs.YtmfidodcpbochaaGreatW.PrintWords Go.Proofs.YtmfidodcpbochaaGreatW.PrintLast Go.Proofs.YtmfidodcpbochaaGreatW.PrintMore
attribute [local go_sem] max2_int min2_int max_two min_two max_three min_three max_four min_four   -- for this text's walks alone
set_option linter.unusedVariables false
set_option linter.unusedSimpArgs false

/-! Shorter words for what the texts say again and again. -/
theorem upB {n : Nat} {w W0 W : World} (h : Below n w W0) (hh : Below n w W0 → Below n w W := by (intro h_; repeat (first | (with_reducible first | exact h_ | apply below_alloc | apply pw_below_drewN | apply below_drew1) | exact h_))) : Below n w W := hh h
theorem upB1 {n g : Nat} {w W0 W : World} (h : Below n w W0) (ge : n ≤ g) (hh : Below n w W0 → n ≤ g → Below n w W := by (intro h_ g_; repeat (first | (with_reducible first | exact h_ | apply below_alloc | apply pw_below_drewN | apply below_drew1 | refine below_set ?_ g_) | exact h_))) : Below n w W := hh h ge
theorem upK {W0 W : World} {b : Nat} {o : Obj} (h : W0.heap[b]? = some o) (hh : W0.heap[b]? = some o → W.heap[b]? = some o := by (intro h_; (with_reducible repeat (first | refine blk_drewN ?_ _ | refine blk_drew ?_ | refine blk_alloc ?_ _)); exact h_)) : W.heap[b]? = some o := hh h
theorem upR {α : Type} {d : Kd α} {e : Nat} {W0 W : World} {n : Nat} {ok : Nat → Prop} {v : Value} {xs : List α} (h : Kd.R d e W0 n ok v xs) (hh : Kd.R d e W0 n ok v xs → Kd.R d e W n ok v xs := by (intro h_; (with_reducible repeat (first | apply Kd.R_alloc | apply Kd.R_drewN | apply Kd.R_drew)); exact h_)) : Kd.R d e W n ok v xs := hh h
theorem argsB {p : Prop} (h : p := by (try simp only [List.map_toArray, List.map_cons, List.map_nil]); first | done | rfl | (simp only [List.length_drop, List.length_take]; rfl)) : p := h
theorem ci {W : World} {b : Nat} {cs : Array Value} {t : TypeId} (h : W.heap[b]? = some (.cells cs t (0, 0))) (j : Nat) (x : Int) (hx : cs[j]? = some (.int .i64 x)) : W.cell? ⟨b, j, none⟩ = some (.int .i64 x) := (blk_cell h j).trans hx
theorem bx {w W : World} {a : Addr} {v : Value} (hb : Below w.heap.size w W) (h : w.cell? a = some v) : W.cell? a = some v := (hb.cell (World.block_lt_of_cell? w _ h)).trans h

theorem bW {n : Nat} {w W0 W : World} (h : Aside0 (Below n w W0)) (hh : Below n w W0 → Below n w W := by (intro h_; repeat (first | (with_reducible first | exact h_ | apply below_alloc | apply pw_below_drewN | apply below_drew1 | refine below_set ?_ (Aside0.out (by assumption))) | exact h_))) : Below n w W := hh h.out
theorem uB {w W0 W W2 : World} (h : Aside0 (Below w.heap.size w W0)) (hb : Below W.heap.size W W2) (hh : Below w.heap.size w W0 → Below w.heap.size w W := by (intro h_; repeat (first | (with_reducible first | exact h_ | apply below_alloc | apply pw_below_drewN | apply below_drew1 | refine below_set ?_ (Aside0.out (by assumption))) | exact h_))) : Aside0 (Below w.heap.size w W2) := ⟨below_step (hh h.out) hb⟩
theorem aB {n : Nat} {w W0 W : World} (h : Aside0 (Below n w W0)) (hh : Below n w W0 → Below n w W := by (intro h_; repeat (first | (with_reducible first | exact h_ | apply below_alloc | apply pw_below_drewN | apply below_drew1 | refine below_set ?_ (Aside0.out (by assumption))) | exact h_))) : Aside0 (Below n w W) := ⟨hh h.out⟩
theorem gB {w W0 W : World} {g : Nat} (h : Aside0 (Below w.heap.size w W0)) (hg : g = W.heap.size) (hh : Below w.heap.size w W0 → Below w.heap.size w W := by (intro h_; repeat (first | (with_reducible first | exact h_ | apply below_alloc | apply pw_below_drewN | apply below_drew1 | refine below_set ?_ (Aside0.out (by assumption))) | exact h_))) : Aside0 (w.heap.size ≤ g) := ⟨by rw [hg]; exact below_size (hh h.out)⟩
theorem uK {W0 W W2 : World} {b : Nat} {o : Obj} (h : Aside0 (W0.heap[b]? = some o)) (hb : Below W.heap.size W W2) (hh : W0.heap[b]? = some o → W.heap[b]? = some o := by (intro h_; (with_reducible repeat (first | refine blk_drewN ?_ _ | refine blk_drew ?_ | refine blk_alloc ?_ _)); exact h_)) : Aside0 (W2.heap[b]? = some o) := ⟨blk_below (hh h.out) hb⟩
theorem dK {W : World} {b : Nat} {o : Obj} (h : Aside0 (W.heap[b]? = some o)) : Aside0 (W.drew.heap[b]? = some o) := ⟨blk_drew h.out⟩
theorem nB {W0 W : World} {b g : Nat} {o : Obj} (h : Aside0 (W0.heap[b]? = some o)) (hg : g = W.heap.size) (hh : W0.heap[b]? = some o → W.heap[b]? = some o := by (intro h_; (with_reducible repeat (first | refine blk_drewN ?_ _ | refine blk_drew ?_ | refine blk_alloc ?_ _)); exact h_)) : Aside0 (b ≠ g) ∧ Aside0 (g ≠ b) := ⟨⟨by rw [hg]; exact Nat.ne_of_lt (blk_lt (hh h.out))⟩, ⟨by rw [hg]; exact Nat.ne_of_gt (blk_lt (hh h.out))⟩⟩
theorem put0 {w : World} {g : Nat} {cs cs' : Array Value} {t : TypeId} (h : w.heap[g]? = some (.cells cs t (0, 0))) (e : cs = cs') : w.heap[g]? = some (.cells cs' t (0, 0)) := e ▸ h
theorem blkF {w : World} {g b i : Nat} {f : Option Nat} {t : TypeId} {cs : Array Value} {u : Value} (hp : g ≠ b) (h : w.heap[g]? = some (.cells cs t (0, 0))) : (w.setCell ⟨b, i, f⟩ u).heap[g]? = some (.cells cs t (0, 0)) := blk_far h (p := ⟨b, i, f⟩) hp u
theorem pW {W0 W : World} {g : Nat} {cs cs' : Array Value} {t : TypeId} (h : Aside0 (W0.heap[g]? = some (.cells cs t (0, 0)))) (hh : W0.heap[g]? = some (.cells cs t (0, 0)) → W.heap[g]? = some (.cells cs' t (0, 0)) := by (intro h_; apply put0; (with_reducible repeat (first | exact h_ | refine blk_drewN ?_ _ | refine blk_drew ?_ | refine blk_alloc ?_ _ | apply blk_set | apply blkF | exact Aside0.out (by assumption))); first | (simp only [List.setIfInBounds_toArray, List.set_cons_zero, List.set_cons_succ]; done) | rfl)) : W.heap[g]? = some (.cells cs' t (0, 0)) := hh h.out
theorem uQ {W0 W W2 : World} {g : Nat} {cs : Array Value} {t : TypeId} (h : Aside0 (W0.heap[g]? = some (.cells cs t (0, 0)))) (hb : Below W.heap.size W W2) (cs' : Array Value) (hh : W0.heap[g]? = some (.cells cs t (0, 0)) → W.heap[g]? = some (.cells cs' t (0, 0)) := by (intro h_; apply put0; (with_reducible repeat (first | exact h_ | refine blk_drewN ?_ _ | refine blk_drew ?_ | refine blk_alloc ?_ _ | apply blk_set | apply blkF | exact Aside0.out (by assumption))); first | (simp only [List.setIfInBounds_toArray, List.set_cons_zero, List.set_cons_succ]; done) | rfl)) : Aside0 (W2.heap[g]? = some (.cells cs' t (0, 0))) := ⟨blk_below (hh h.out) hb⟩
theorem cb {W : World} {b : Nat} {cs : Array Value} {t : TypeId} (h : Aside0 (W.heap[b]? = some (.cells cs t (0, 0)))) (j : Nat) {v : Value} (e : cs[j]? = some v := by exact rfl) : W.cell? ⟨b, j, none⟩ = some v := (blk_cell h.out j).trans e
theorem cfar {W : World} {p a : Addr} {u v : Value} (h : a.block ≠ p.block) (k : W.cell? a = some v) : (W.setCell p u).cell? a = some v := (cell_far h u).trans k
theorem aF {A B : Prop} (h : A) (hh : A → B := by (intro h_; (repeat (have h1_ := h_.1; replace h_ := h_.2)); (repeat' apply And.intro) <;> (repeat (first | (with_reducible assumption) | refine cfar (Aside0.out (by assumption)) ?_ | assumption)))) : B := hh h
theorem iT {α : Type} {p : Prop} [Decidable p] {x y r : α} (hp : p) (H : (if p then x else y) = r) : x = r := by rw [if_pos hp] at H; exact H
theorem iF {α : Type} {p : Prop} [Decidable p] {x y r : α} (hp : ¬ p) (H : (if p then x else y) = r) : y = r := by rw [if_neg hp] at H; exact H
theorem uR {α : Type} {d : Kd α} {e : Nat} {W0 W W2 : World} {n : Nat} {ok : Nat → Prop} {v : Value} {xs : List α} (h : Aside0 (Kd.R d e W0 n ok v xs)) (hb : Below W.heap.size W W2) (hh : Kd.R d e W0 n ok v xs → Kd.R d e W n ok v xs := by (intro h_; (with_reducible repeat (first | apply Kd.R_alloc | apply Kd.R_drewN | apply Kd.R_drew)); exact h_)) : Aside0 (Kd.R d e W2 n ok v xs) := ⟨Kd.R_below (hh h.out) hb⟩
theorem ifI {α β : Type} [BEq β] [LawfulBEq β] {a b : β} [Decidable (a = b)] {x y r : α} (H : (if a = b then x else y) = r) : (x = r ∧ a = b ∧ (a == b) = true ∧ (a != b) = false) ∨ (y = r ∧ ¬ a = b ∧ (a == b) = false ∧ (a != b) = true) := by
  by_cases c : a = b
  · rw [if_pos c] at H; exact Or.inl ⟨H, c, beq_iff_eq.mpr c, bne_eq_false_iff_eq.mpr c⟩
  · rw [if_neg c] at H; exact Or.inr ⟨H, c, beq_eq_false_iff_ne.mpr c, bne_iff_ne.mpr c⟩
theorem ifD {α : Type} {p : Prop} [Decidable p] {x y r : α} (H : (if p then x else y) = r) : (x = r ∧ p ∧ decide p = true) ∨ (y = r ∧ ¬ p ∧ decide p = false) := by
  by_cases c : p
  · rw [if_pos c] at H; exact Or.inl ⟨H, c, decide_eq_true c⟩
  · rw [if_neg c] at H; exact Or.inr ⟨H, c, decide_eq_false c⟩
theorem bA {α β : Type} {x : Option α} {f : α → Option β} {r : β} (H : x.bind f = some r) : ∃ t, Aside0 (x = some t) ∧ f t = some r := by
  obtain ⟨t, h1, h2⟩ := Option.bind_eq_some_iff.mp H
  exact ⟨t, ⟨h1⟩, h2⟩
theorem rB {p : Prop} (h : p := by first | rfl | (simp; done) | (simp [*]; done)) : p := h
theorem leB {p : Prop} (h : p := by first | omega | exact Nat.le_refl _) : Aside0 p := ⟨h⟩
theorem eB {p : Prop} (h : p := by first | rfl | (simp [errW_none, errW_some] <;> rfl) | (simp [*, errW_none, errW_some] <;> rfl)) : p := h
section
variable {P : Program} {o : Oper} {ops : Array Oper} {rest : List Oper} {md : Region.Mode} {Q : Exit → Act → World → Prop} {S : World → Prop} {ds : List Nat} {T : Bool × List (List Nat × List Nat)} {B : List Nat} {fuel : Nat} {l l' : Array Bool} {a a' : Act} {W w : World} {oi : Oper} {v : Value}
theorem gD (N : Tmp) (h : wpList P ops Q (o :: rest) a W) (_hN : o.dst = some N := by with_reducible rfl) : wpList P ops Q (o :: rest) a W := h
theorem gC (f : FuncId) {ar : Array Operand} {ts : Array TypeId} (h : wpList P ops Q (o :: rest) a W) (_ho : o.op = .call { callee := .value (.func f), args := ar, argTypes := ts } := by with_reducible rfl) : wpList P ops Q (o :: rest) a W := h
theorem bxE (N : Tmp) (t : TypeId) (cs : Array Value)
    (h : ∀ g, ∀ w1, g = W.heap.size → w1.heap[g]? = some (.cells cs t (0, 0)) → Below W.heap.size W w1 → wpList P ops Q rest (a.put o.dst (.pointer (some ⟨g, 0, none⟩))) w1)
    (hgd : o.guard = none := by exact rfl) (hd : o.dst = some N := by exact rfl) (hrun : (execOp a.eval o).run P W = .ok (.value (.pointer (some ⟨W.heap.size, 0, none⟩))) (W.alloc (.cells cs t (0, 0))) := by first | (go_simp; done) | (go_simp; rfl)) : wpList P ops Q (o :: rest) a W :=
  box_event hgd hd hrun fun g hg w1 hbox hb => h g w1 hg hbox hb
theorem lA (N : Option Tmp) {f : FuncId} {fn : Func} {args : Array Value} {ops' : Array Operand} {ts : Array TypeId} {R : World → Prop} (hf : P.funcs[f]? = some fn) (hc : Calls P f args w fun e w' => e = .returned v ∧ R w') (k : ∀ w', R w' → wpList P ops Q rest (a.put N v) w')
    (hd : o.dst = N := by exact rfl) (hg : o.guard = none := by exact rfl) (hname : (fn.name == "runtime.NumGoroutine") = false := by kernel_rfl) (hb : fn.body.isSome = true := by kernel_rfl) (hop : o.op = .call { callee := .value (.func f), args := ops', argTypes := ts } := by exact rfl)
    (hargs : ops'.map a.eval = args := by (try simp only [List.map_toArray, List.map_cons, List.map_nil]); first | done | rfl | (simp only [List.length_drop, List.length_take]; rfl)) : wpList P ops Q (o :: rest) a w :=
  goesL_ N hd hg hf hname hb args hop hargs (hc.mono fun e w' h => ⟨v, h.1, k w' h.2⟩)
theorem rA {N : Option Tmp} {K : Act → World → Prop} {f : FuncId} {fn : Func} {args : Array Value} {ops' : Array Operand} {ts : Array TypeId} {R : World → Prop} (hf : P.funcs[f]? = some fn) (hc : Calls P f args w fun e w' => e = .returned v ∧ R w') (k : ∀ w', R w' → K (a.put N v) w')
    (hname : (fn.name == "runtime.NumGoroutine") = false := by kernel_rfl) (hb : fn.body.isSome = true := by kernel_rfl) (hw : Region.wanted oi (yielded ops a.tmps) = true := by exact rfl) (hN : oi.dst = N := by exact rfl) (hop : oi.op = .call { callee := .value (.func f), args := ops', argTypes := ts } := by exact rfl)
    (hargs : ops'.map a.eval = args := by (try simp only [List.map_toArray, List.map_cons, List.map_nil]); first | done | rfl | (simp only [List.length_drop, List.length_take]; rfl)) : if Region.wanted oi (yielded ops a.tmps) = true then Oper.wp P oi a w K Q else K (a.put N undef) w :=
  goes_ hf hname hb args hw hN hop hargs (hc.mono fun e w' h => ⟨v, h.1, k w' h.2⟩)
theorem pA (i : Nat) (N : Tmp) (hT : Aside0 (rtab md ops = T)) (k : wpAnyLast P md ops Q S ds fuel l' a' w) (hi : ops[i]? = some oi := by exact rfl) (hN : oi.dst = some N := by exact rfl)
    (hl : l.setIfInBounds i true = l' := by (simp only [List.setIfInBounds_toArray, List.set_cons_zero, List.set_cons_succ]; rfl)) (hc : anyT T l.toList l'.toList i = true := by kernel_rfl) (hQ : ∀ c a w, Q (.panic c) (a.put oi.dst v) w → Q (.panic c) a w := by exact (fun _ _ _ h => h))
    (hy : Yields P ops oi v a := by (refine Or.inl ⟨by rfl, ?_⟩; intro w'; go_simp; with_reducible rfl)) (ha : a.put (some N) v = a' := by (simp only [Act.put, List.setIfInBounds_toArray, List.set_cons_zero, List.set_cons_succ, i64_w, i32_w]; rfl)) : wpAnyLast P md ops Q S ds (fuel + 1) l a w :=
  pure_ l' hi hN (any_of hT.out hc) hQ hy ha k
theorem tA (i : Nat) (N : Tmp) (hT : Aside0 (rtab md ops = T)) (hW : Aside0 (waitsOk T.2 B = true)) (hS : S w) (k : wpAnyLast P md ops Q S ds fuel l' a' w) (hi : ops[i]? = some oi := by exact rfl) (hN : oi.dst = some N := by exact rfl)
    (hl : l.setIfInBounds i true = l' := by (simp only [List.setIfInBounds_toArray, List.set_cons_zero, List.set_cons_succ]; rfl)) (hc : takeW T B ds l.toList l'.toList i = true := by kernel_rfl) (hQ : ∀ c a w, Q (.panic c) (a.put oi.dst v) w → Q (.panic c) a w := by exact (fun _ _ _ h => h))
    (hy : YieldsIf P ops S oi v a := by (refine Or.inl ⟨by rfl, ?_⟩; intro w' s_; (try dsimp only at s_); (repeat (have s1_ := s_.1; replace s_ := s_.2)); go_simp; with_reducible rfl)) (ha : a.put (some N) v = a' := by (simp only [Act.put, List.setIfInBounds_toArray, List.set_cons_zero, List.set_cons_succ, i64_w, i32_w]; rfl)) : wpAnyLast P md ops Q S ds (fuel + 1) l a w :=
  take_ l' hi hN (take_ofW hT.out hW.out hc) hQ hy hS ha k
theorem oA (i : Nat) (N : Option Tmp) (hT : Aside0 (rtab md ops = T))
    (h : ∀ K : Act → World → Prop, Shut (∀ a' w', S w' → (S w' → wpAnyLast P md ops Q S ds fuel l' a' w') → K a' w') → if Region.wanted oi (yielded ops a.tmps) = true then Oper.wp P oi a w K Q else K (a.put N undef) w)
    (hi : ops[i]? = some oi := by exact rfl) (hN : oi.dst = N := by exact rfl) (hl : l.setIfInBounds i true = l' := by (simp only [List.setIfInBounds_toArray, List.set_cons_zero, List.set_cons_succ]; rfl))
    (hc : (readyT T.2 l.toList == [i] && l.toList.set i true == l'.toList) = true := by kernel_rfl) (hd : i ∉ ds := by decide) : wpAnyLast P md ops Q S ds (fuel + 1) l a w :=
  one_ l' hi hN (one_of hT.out hc) hd h
theorem nA (k : wpAnyLast P md ops Q S ds fuel l a' w) (N : Option Tmp) (ha : a.put N v = a' := by (simp only [Act.put, List.setIfInBounds_toArray, List.set_cons_zero, List.set_cons_succ, i64_w, i32_w]; rfl)) : wpAnyLast P md ops Q S ds fuel l (a.put N v) w := norm_ ha k
theorem sA {ops' : Array Oper} (tab : rtab .any ops' = T) (bits : waitsOk T.2 B = true) (l : Array Bool) {id n : Nat} (hS : S w.drew) (h : S w.drew → Aside0 (rtab .any ops = T) → Aside0 (waitsOk T.2 B = true) → wpAnyLast P .any ops Q S ds n l a w.drew)
    (hm : P.follows .mixedOrders = true := by kernel_rfl) (hn : ops.size = n := by exact rfl) (hl : Array.replicate n false = l := by exact rfl) (e : ops' = ops := by exact rfl) : (Code.region id ops true).wp P Q a w :=
  start_ l hm hn hl hS fun hh => h hh ⟨e ▸ tab⟩ ⟨bits⟩
end
theorem cz3 {W : World} {b : Nat} {v0 v1 v2 : Value} {t : TypeId} (h : Aside0 (W.heap[b]? = some (.cells #[v0, v1, v2] t (0, 0)))) : W.cell? ⟨b, 0, none⟩ = some v0 ∧ W.cell? ⟨b, 1, none⟩ = some v1 ∧ W.cell? ⟨b, 2, none⟩ = some v2 ∧ ∀ j : Nat, W.frozen? ⟨b, j, none⟩ = false := ⟨(blk_cell h.out 0).trans rfl, (blk_cell h.out 1).trans rfl, (blk_cell h.out 2).trans rfl, fun j => blk_frozen h.out j⟩
theorem cz5 {W : World} {b : Nat} {v0 v1 v2 v3 v4 : Value} {t : TypeId} (h : Aside0 (W.heap[b]? = some (.cells #[v0, v1, v2, v3, v4] t (0, 0)))) : W.cell? ⟨b, 0, none⟩ = some v0 ∧ W.cell? ⟨b, 1, none⟩ = some v1 ∧ W.cell? ⟨b, 2, none⟩ = some v2 ∧ W.cell? ⟨b, 3, none⟩ = some v3 ∧ W.cell? ⟨b, 4, none⟩ = some v4 ∧ ∀ j : Nat, W.frozen? ⟨b, j, none⟩ = false := ⟨(blk_cell h.out 0).trans rfl, (blk_cell h.out 1).trans rfl, (blk_cell h.out 2).trans rfl, (blk_cell h.out 3).trans rfl, (blk_cell h.out 4).trans rfl, fun j => blk_frozen h.out j⟩
theorem asmB {p : Prop} (h : p := by first | (with_reducible assumption) | assumption) : p := h

def errW : Option Int → Value
  | none => .nilIface
  | some c => .iface 0 (.int .i64 c)
theorem errW_none : errW none = .nilIface := rfl
theorem errW_some (c : Int) : errW (some c) = .iface 0 (.int .i64 c) := rfl

theorem info3 : (Tryz.prog.info? 3).map (fun i => (i.zero, i.size, i.bytes)) = some (some (.int .i64 0), 1, 8) := by kernel_rfl
theorem info25 : (Tryz.prog.info? 25).map (fun i => (i.zero, i.size, i.bytes)) = some (some (.slice none 0 0), 1, 24) := by kernel_rfl
theorem info32 : (Tryz.prog.info? 32).map (fun i => (i.zero, i.size, i.bytes)) = some (some (.agg #[(.int .i64 0), (.int .i64 0), (.int .i64 0), (.int .i64 0), (.int .i64 0)]), 5, 40) := by kernel_rfl
theorem info92 : (Tryz.prog.info? 92).map (fun i => (i.zero, i.size, i.bytes)) = some (some (.agg #[(.int .i64 0), (.int .i64 0), (.int .i64 0)]), 3, 24) := by kernel_rfl
-- the values' own types
/-! #### struct type 92 -/
structure S92 where
  f0 : Int
  f1 : Int
  f2 : Int
def z92 : S92 := ⟨(0 : Int), (0 : Int), (0 : Int)⟩
def k92 : Kd S92 := Kd.iso (Kd.pair (Kd.int .i64) (Kd.pair (Kd.int .i64) (Kd.int .i64))) (fun x : S92 => (x.f0, x.f1, x.f2))
theorem k92_open {w : World} {x : S92} {cs : List Value} (h : k92.K w x cs) : cs = [.int .i64 x.f0, .int .i64 x.f1, .int .i64 x.f2] := by
  obtain ⟨_, _, rfl, rfl, ⟨_, _, rfl, rfl, rfl⟩⟩ := h
  exact rfl
theorem k92_mkM (w : World) (base : Nat) (ok : Nat → Prop) (x : S92)  : k92.M w base ok x [.int .i64 x.f0, .int .i64 x.f1, .int .i64 x.f2] := ⟨[.int .i64 x.f0], [.int .i64 x.f1, .int .i64 x.f2], rfl, rfl, ⟨[.int .i64 x.f1], [.int .i64 x.f2], rfl, rfl, rfl⟩⟩
def rd_T92 (xs : List S92) (i : Int) : S92 := xs.getD i.toNat z92
theorem at_T92 {w : World} {A : Option Addr} {n : Nat} {xs : List S92} (h : Kd.C k92 w A n xs) (i : Int) (h0 : 0 ≤ i) (h1 : i < n) : ∃ ad , A = some ad ∧ w.cell? (ad.add (i.toNat * 3)) = some (.int .i64 (rd_T92 xs i).f0) ∧ w.cell? ⟨(ad.add (i.toNat * 3)).block, (ad.add (i.toNat * 3)).off + 1, none⟩ = some (.int .i64 (rd_T92 xs i).f1) ∧ w.cell? ⟨(ad.add (i.toNat * 3)).block, (ad.add (i.toNat * 3)).off + 2, none⟩ = some (.int .i64 (rd_T92 xs i).f2) := by
  obtain ⟨ad, c, e, _, hK, hc0⟩ := Kd.C_get h z92 i h0 h1
  have hc : ∀ j u, c[j]? = some u → w.cell? (ad.add (i.toNat * 3 + j)) = some u := hc0
  obtain rfl := k92_open hK
  exact ⟨ad, e, hc 0 _ rfl, by rw [← add_field _ _ 1 (by omega)]; exact hc 1 _ rfl, by rw [← add_field _ _ 2 (by omega)]; exact hc 2 _ rfl⟩

/-! #### struct type 32 -/
structure S32 where
  f0 : Int
  f1 : Int
  f2 : Int
  f3 : Int
  f4 : Int
def z32 : S32 := ⟨(0 : Int), (0 : Int), (0 : Int), (0 : Int), (0 : Int)⟩
def k32 : Kd S32 := Kd.iso (Kd.pair (Kd.int .i64) (Kd.pair (Kd.int .i64) (Kd.pair (Kd.int .i64) (Kd.pair (Kd.int .i64) (Kd.int .i64))))) (fun x : S32 => (x.f0, x.f1, x.f2, x.f3, x.f4))
theorem k32_open {w : World} {x : S32} {cs : List Value} (h : k32.K w x cs) : cs = [.int .i64 x.f0, .int .i64 x.f1, .int .i64 x.f2, .int .i64 x.f3, .int .i64 x.f4] := by
  obtain ⟨_, _, rfl, rfl, ⟨_, _, rfl, rfl, ⟨_, _, rfl, rfl, ⟨_, _, rfl, rfl, rfl⟩⟩⟩⟩ := h
  exact rfl
theorem k32_openM {w : World} {base : Nat} {ok : Nat → Prop} {x : S32} {cs : List Value} (h : k32.M w base ok x cs) : cs = [.int .i64 x.f0, .int .i64 x.f1, .int .i64 x.f2, .int .i64 x.f3, .int .i64 x.f4] := by
  obtain ⟨_, _, rfl, rfl, ⟨_, _, rfl, rfl, ⟨_, _, rfl, rfl, ⟨_, _, rfl, rfl, rfl⟩⟩⟩⟩ := h
  exact rfl
theorem k32_mkM (w : World) (base : Nat) (ok : Nat → Prop) (x : S32)  : k32.M w base ok x [.int .i64 x.f0, .int .i64 x.f1, .int .i64 x.f2, .int .i64 x.f3, .int .i64 x.f4] := ⟨[.int .i64 x.f0], [.int .i64 x.f1, .int .i64 x.f2, .int .i64 x.f3, .int .i64 x.f4], rfl, rfl, ⟨[.int .i64 x.f1], [.int .i64 x.f2, .int .i64 x.f3, .int .i64 x.f4], rfl, rfl, ⟨[.int .i64 x.f2], [.int .i64 x.f3, .int .i64 x.f4], rfl, rfl, ⟨[.int .i64 x.f3], [.int .i64 x.f4], rfl, rfl, rfl⟩⟩⟩⟩
def rd_T32 (xs : List S32) (i : Int) : S32 := xs.getD i.toNat z32
theorem at_T32 {w : World} {A : Option Addr} {n : Nat} {xs : List S32} (h : Kd.C k32 w A n xs) (i : Int) (h0 : 0 ≤ i) (h1 : i < n) : ∃ ad , A = some ad ∧ w.cell? (ad.add (i.toNat * 5)) = some (.int .i64 (rd_T32 xs i).f0) ∧ w.cell? ⟨(ad.add (i.toNat * 5)).block, (ad.add (i.toNat * 5)).off + 1, none⟩ = some (.int .i64 (rd_T32 xs i).f1) ∧ w.cell? ⟨(ad.add (i.toNat * 5)).block, (ad.add (i.toNat * 5)).off + 2, none⟩ = some (.int .i64 (rd_T32 xs i).f2) ∧ w.cell? ⟨(ad.add (i.toNat * 5)).block, (ad.add (i.toNat * 5)).off + 3, none⟩ = some (.int .i64 (rd_T32 xs i).f3) ∧ w.cell? ⟨(ad.add (i.toNat * 5)).block, (ad.add (i.toNat * 5)).off + 4, none⟩ = some (.int .i64 (rd_T32 xs i).f4) := by
  obtain ⟨ad, c, e, _, hK, hc0⟩ := Kd.C_get h z32 i h0 h1
  have hc : ∀ j u, c[j]? = some u → w.cell? (ad.add (i.toNat * 5 + j)) = some u := hc0
  obtain rfl := k32_open hK
  exact ⟨ad, e, hc 0 _ rfl, by rw [← add_field _ _ 1 (by omega)]; exact hc 1 _ rfl, by rw [← add_field _ _ 2 (by omega)]; exact hc 2 _ rfl, by rw [← add_field _ _ 3 (by omega)]; exact hc 3 _ rfl, by rw [← add_field _ _ 4 (by omega)]; exact hc 4 _ rfl⟩

def rd_L4 (xs : List (List Int)) (i : Int) : (List Int) := xs.getD i.toNat ([] : List Int)
theorem at_L4 {w : World} {A : Option Addr} {n : Nat} {xs : List (List Int)} (h : Kd.C (Kd.slice 3 (Kd.int .i64)) w A n xs) (i : Int) (h0 : 0 ≤ i) (h1 : i < n) : ∃ ad A0 c0, A = some ad ∧ w.cell? (ad.add i.toNat) = some (.slice A0 (rd_L4 xs i).length c0) ∧ (rd_L4 xs i).length ≤ c0 ∧ (Kd.int .i64).C w A0 (rd_L4 xs i).length (rd_L4 xs i) := by
  obtain ⟨ad, c, e, _, hK, hc0⟩ := Kd.C_get h ([] : List Int) i h0 h1
  have hc : ∀ j u, c[j]? = some u → w.cell? (ad.add (i.toNat * 1 + j)) = some u := hc0
  obtain ⟨A0, c0, rfl, l0, g0⟩ := hK
  exact ⟨ad, A0, c0, e, by have hq := hc 0 _ rfl; rwa [Nat.mul_one, Nat.add_zero] at hq, l0, g0⟩

/-! #### struct type 64 -/
structure S64 where
  f0 : Bool
  f1 : Bool
  f2 : Bool
  f3 : Bool
  f4 : Bool
  f5 : Bool
  f6 : Bool
  f7 : Bool
section
variable {α β : Type} {d : Kd α} {w W0 W : World} {A : Option Addr} {n c e base : Nat} {ok : Nat → Prop} {xs : List α}
theorem zN {p : Prop} [Decidable p] {x : Option α} {r : α} (H : (if p then x else none) = some r) : decide p = true ∧ x = some r := by
  by_cases c : p
  · rw [if_pos c] at H; exact ⟨decide_eq_true c, H⟩
  · rw [if_neg c] at H; cases H
theorem zM {p : Prop} [Decidable p] {x : Option α} {r : α} (H : (if p then x else none) = some r) : p ∧ x = some r := ⟨of_decide_eq_true (zN H).1, (zN H).2⟩
theorem zS {x : α} {f : α → Option β} {r : β} (H : (some x).bind f = some r) : ∃ y, Aside0 (y = x) ∧ f y = some r := ⟨x, ⟨rfl⟩, H⟩
theorem zC (h : Aside0 (d.C W0 A n xs)) (hh : d.C W0 A n xs → d.C W A n xs := by (intro h_; repeat (first | exact h_ | (with_reducible refine Kd.C_alloc ?_ _) | (with_reducible refine Kd.C_drewN ?_ _) | (with_reducible refine Kd.C_drew ?_)))) : d.C W A n xs := hh h.out
theorem zCB (h : Aside0 (d.C w A n xs)) (hb : Aside0 (Below w.heap.size w W0)) (hh : d.C W0 A n xs → d.C W A n xs := by (intro h_; repeat (first | exact h_ | (with_reducible refine Kd.C_alloc ?_ _) | (with_reducible refine Kd.C_drewN ?_ _) | (with_reducible refine Kd.C_drew ?_)))) : d.C W A n xs := hh (Kd.C_below h.out hb.out)
theorem zCR (h : Aside0 (d.R e W0 base ok (.slice A n c) xs)) (hh : d.C W0 A xs.length xs → d.C W A xs.length xs := by (intro h_; repeat (first | exact h_ | (with_reducible refine Kd.C_alloc ?_ _) | (with_reducible refine Kd.C_drewN ?_ _) | (with_reducible refine Kd.C_drew ?_)))) : d.C W A xs.length xs := hh (Kd.R_reads' h.out).2.2
end
theorem zT {w W : World} {A : Option Addr} {n : Nat} {xs : List S32} (h : Aside0 (k32.C w A n xs)) (hb : Aside0 (Below w.heap.size w W)) (i : Int) (hp : decide (0 ≤ i) = true := by first | (with_reducible assumption) | assumption) (hq : decide (i < (n : Int)) = true := by first | (with_reducible assumption) | assumption) : ∃ ad, A = some ad ∧ W.cell? (ad.add (i.toNat * 5)) = some (.int .i64 (rd_T32 xs i).f0) ∧ W.cell? { block := (ad.add (i.toNat * 5)).block, off := (ad.add (i.toNat * 5)).off + 1 } = some (.int .i64 (rd_T32 xs i).f1) ∧ W.cell? { block := (ad.add (i.toNat * 5)).block, off := (ad.add (i.toNat * 5)).off + 2 } = some (.int .i64 (rd_T32 xs i).f2) ∧ W.cell? { block := (ad.add (i.toNat * 5)).block, off := (ad.add (i.toNat * 5)).off + 3 } = some (.int .i64 (rd_T32 xs i).f3) ∧ W.cell? { block := (ad.add (i.toNat * 5)).block, off := (ad.add (i.toNat * 5)).off + 4 } = some (.int .i64 (rd_T32 xs i).f4) ∧ (0 ≤ i) = True ∧ (i < (n : Int)) = True := by
  obtain ⟨ad, e, h0, h1, h2, h3, h4⟩ := at_T32 h.out i (of_decide_eq_true hp) (of_decide_eq_true hq)
  exact ⟨ad, e, bx hb.out h0, bx hb.out h1, bx hb.out h2, bx hb.out h3, bx hb.out h4, eq_true (of_decide_eq_true hp), eq_true (of_decide_eq_true hq)⟩
theorem zi {w W : World} {A : Option Addr} {n : Nat} {k : IntKind} {xs : List Int} (h : Aside0 ((Kd.int k).C w A n xs)) (hb : Aside0 (Below w.heap.size w W)) (i : Int) (hp : decide (0 ≤ i) = true := by first | (with_reducible assumption) | assumption) (hq : decide (i < (n : Int)) = true := by first | (with_reducible assumption) | assumption) : ∃ ad, A = some ad ∧ W.cell? (ad.add i.toNat) = some (.int k (rd xs i)) ∧ (0 ≤ i) = True ∧ (i < (n : Int)) = True := by
  obtain ⟨ad, e, h0⟩ := Kd.at_int h.out i (of_decide_eq_true hp) (of_decide_eq_true hq)
  exact ⟨ad, e, bx hb.out h0, eq_true (of_decide_eq_true hp), eq_true (of_decide_eq_true hq)⟩
theorem zr {W : World} {A : Option Addr} {n c e base : Nat} {ok : Nat → Prop} {k : IntKind} {xs : List Int} (h : Aside0 ((Kd.int k).R e W base ok (.slice A n c) xs)) (i : Int) (hp : decide (0 ≤ i) = true := by first | (with_reducible assumption) | assumption) (hq : decide (i < (xs.length : Int)) = true := by first | (with_reducible assumption) | assumption) : ∃ ad, A = some ad ∧ W.cell? (ad.add i.toNat) = some (.int k (rd xs i)) ∧ (0 ≤ i) = True ∧ (i < (xs.length : Int)) = True := by
  obtain ⟨ad, e, h0⟩ := Kd.at_int (Kd.R_reads' h.out).2.2 i (of_decide_eq_true hp) (of_decide_eq_true hq)
  exact ⟨ad, e, h0, eq_true (of_decide_eq_true hp), eq_true (of_decide_eq_true hq)⟩
theorem zInts {w : World} {n : Nat} {ok : Nat → Prop} : ∀ xs : List Int, Reps ((Kd.int .i64).M w n ok) 1 xs (xs.map (.int .i64))
  | [] => Reps.none _ _
  | x :: xs => Reps.one (show Kd.M (Kd.int .i64) _ _ _ x [.int .i64 x] from rfl) (zInts xs)
theorem zQ {v : Value} {w : World} {a b : Nat} : Ending.returned v = .returned v ∧ ∃ m, (w.drewN a).drewN b = w.drewN m := ⟨rfl, _, World.drewN_drewN _ _ _⟩
theorem zQ2 {v : Value} {w : World} {a b c : Nat} : Ending.returned v = .returned v ∧ ∃ m, (w.drewN (a + b)).drewN c = w.drewN (a + m) := ⟨rfl, _, Eq.trans (World.drewN_drewN _ _ _) (congrArg (World.drewN _) (Nat.add_assoc _ _ _))⟩
theorem zG {P : Program} {o : Oper} {ops : Array Oper} {rest : List Oper} {Q : Exit → Act → World → Prop} {a : Act} {w : World} (N : Option Tmp) {f : FuncId} {fn : Func} {args : Array Value} {ops' : Array Operand} {ts : Array TypeId} {R : Ending → World → Prop} (hf : P.funcs[f]? = some fn) (hc : Calls P f args w R) (k : ∀ e w', R e w' → ∃ v, e = .returned v ∧ wpList P ops Q rest (a.put N v) w')
    (hd : o.dst = N := by exact rfl) (hg : o.guard = none := by exact rfl) (hname : (fn.name == "runtime.NumGoroutine") = false := by kernel_rfl) (hb : fn.body.isSome = true := by kernel_rfl) (hop : o.op = .call { callee := .value (.func f), args := ops', argTypes := ts } := by exact rfl)
    (hargs : ops'.map a.eval = args := by (try simp only [List.map_toArray, List.map_cons, List.map_nil]); first | done | rfl | (simp only [List.length_drop, List.length_take]; rfl)) : wpList P ops Q (o :: rest) a w := goesL_ N hd hg hf hname hb args hop hargs (hc.mono k)
section
variable {α : Type} {d : Kd α} {W0 W : World} {n e base : Nat} {ok : Nat → Prop} {xs : List α} {v : Value}
theorem zF {g : Nat} (h : d.R e W0 base (fun k => ok k ∧ k ≠ g) v xs) (hh : d.R e W0 base (fun k => ok k ∧ k ≠ g) v xs → d.R e W base (fun k => ok k ∧ k ≠ g) v xs := by (intro h_; (with_reducible repeat (first | exact h_ | refine Kd.R_far ?_ (fun _ hk => hk.2) _ | apply Kd.R_alloc | apply Kd.R_drewN | apply Kd.R_drew)))) : d.R e W base (fun k => ok k ∧ k ≠ g) v xs := hh h
theorem upS (h : Kd.S d e W0 n ok v xs) (hh : Kd.S d e W0 n ok v xs → Kd.S d e W n ok v xs := by (intro h_; (with_reducible repeat (first | apply Kd.S_alloc | apply Kd.S_drewN | apply Kd.S_drew)); exact h_)) : Kd.S d e W n ok v xs := hh h
theorem zA {a b : Nat} {p : Prop} (x : a ≠ b) (h : a ≠ b → p := by (intro x_; first | exact x_ | (rw [add_block]; exact x_) | (show (Addr.add _ _).block ≠ _; rw [add_block]; exact x_) | (dsimp only; exact x_))) : p := h x
end
end Go.Proofs.YtmfidodcpbochaaGreat.QFnSteps
