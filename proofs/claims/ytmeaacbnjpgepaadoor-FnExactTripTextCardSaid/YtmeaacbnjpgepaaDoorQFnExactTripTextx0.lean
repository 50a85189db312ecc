/- Contracts of Go functions that FnExactTripText reaches: the call computes what the plain function says. No condition. -/
import Derived.Test.YtmeaacbnjpgepaaDoorProg
import Derived.Below
import Derived.Deep.Draws
import Derived.Deep.AppendLies
import Derived.Maps.AppendAt
import Derived.OwnWalk
import Derived.Laws.BytesArg
import Derived.Laws.MakeOwn
import Derived.Laws.OwnMore
import Derived.Deep.OwnRows
import Derived.Tactics
import Derived.Lib.ConvBytes
import Derived.Laws.Slices
import Derived.WalkKit
import Derived.KernelRfl
import Derived.RowKit3
import Derived.Deep.LoopGhost
import Derived.Deep.QuietTactic
import Derived.BigQuiet
import Derived.WideLaws
import Derived.Deep.DeepCutAuto
import Derived.Deep.CutBlock
import Derived.Deep.RegionHeld3
import Derived.Laws.Rows
import Derived.Lib.AppendStr
import Derived.ArgAppend
import Derived.Laws.IdiomCopy
import Derived.OrdersHeld
import Derived.Laws.BitsLemmas
import Derived.RowKit
import Derived.Lib.SliceRun
import Derived.LoopTactic
import Derived.LoopN
import Derived.Lib.AppendIntMem
import Derived.Test.YtmeaacbnjpgepaaDoorShelf
import Derived.Test.YtmeaacbnjpgepaaDoorWWords
import Derived.Test.YtmeaacbnjpgepaaDoorWLast
import Derived.Test.YtmeaacbnjpgepaaDoorWTab
import Derived.Test.YtmeaacbnjpgepaaDoorWFour
import Derived.Test.YtmeaacbnjpgepaaDoorWQPut
import Derived.Test.YtmeaacbnjpgepaaDoorWApart
import Derived.Test.YtmeaacbnjpgepaaDoorWArr
import Derived.Test.YtmeaacbnjpgepaaDoorWZeros
import Derived.Test.YtmeaacbnjpgepaaDoorWFoot
import Derived.Test.YtmeaacbnjpgepaaDoorWKept
import Derived.Test.YtmeaacbnjpgepaaDoorWShare
import Derived.Test.YtmeaacbnjpgepaaDoorWN
import Derived.Test.YtmeaacbnjpgepaaDoorWFootNe
import Derived.Test.YtmeaacbnjpgepaaDoorWAt
import Derived.Test.YtmeaacbnjpgepaaDoorWEqStruct
import Derived.Test.YtmeaacbnjpgepaaDoorWRepsOne
import Derived.Test.YtmeaacbnjpgepaaDoorWInv
import Derived.Test.YtmeaacbnjpgepaaDoorWInvWords
import Derived.Test.YtmeaacbnjpgepaaDoorWGuard
import Derived.Test.YtmeaacbnjpgepaaDoorWNEv
import Derived.Test.YtmeaacbnjpgepaaDoorWMore
namespace Go.Proofs.YtmeaacbnjpgepaaDoor.QFnExactTripText
open Go.RowKit Go.Proofs.YtmeaacbnjpgepaaDoorW.PrintWords Go.Proofs.YtmeaacbnjpgepaaDoorW.PrintLast Go.Proofs.YtmeaacbnjpgepaaDoorW.PrintMore
attribute [local go_sem] max2_int min2_int max_two min_two max_three min_three max_four min_four   -- for this text's walks alone
set_option linter.unusedVariables false
set_option linter.unusedSimpArgs false

/-! Shorter words for what the texts say again and again. -/
theorem upB {n : Nat} {w W0 W : World} (h : Below n w W0) (hh : Below n w W0 → Below n w W := by (intro h_; repeat (first | (with_reducible first | exact h_ | apply below_alloc | apply pw_below_drewN | apply below_drew1) | exact h_))) : Below n w W := hh h
theorem upB1 {n g : Nat} {w W0 W : World} (h : Below n w W0) (ge : n ≤ g) (hh : Below n w W0 → n ≤ g → Below n w W := by (intro h_ g_; repeat (first | (with_reducible first | exact h_ | apply below_alloc | apply pw_below_drewN | apply below_drew1 | refine below_set ?_ g_) | exact h_))) : Below n w W := hh h ge
theorem upB2 {n g g' : Nat} {w W0 W : World} (h : Below n w W0) (ge : n ≤ g) (ge' : n ≤ g') (hh : Below n w W0 → n ≤ g → n ≤ g' → Below n w W := by (intro h_ g_ g1_; repeat (first | (with_reducible first | exact h_ | apply below_alloc | apply pw_below_drewN | apply below_drew1 | refine below_set ?_ g_ | refine below_set ?_ g1_) | exact h_))) : Below n w W := hh h ge ge'
theorem upB3 {n g g' g'' : Nat} {w W0 W : World} (h : Below n w W0) (ge : n ≤ g) (ge' : n ≤ g') (ge'' : n ≤ g'') (hh : Below n w W0 → n ≤ g → n ≤ g' → n ≤ g'' → Below n w W := by (intro h_ g_ g1_ g2_; repeat (first | (with_reducible first | exact h_ | apply below_alloc | apply pw_below_drewN | apply below_drew1 | refine below_set ?_ g_ | refine below_set ?_ g1_ | refine below_set ?_ g2_) | exact h_))) : Below n w W := hh h ge ge' ge''
theorem upK {W0 W : World} {b : Nat} {o : Obj} (h : W0.heap[b]? = some o) (hh : W0.heap[b]? = some o → W.heap[b]? = some o := by (intro h_; (with_reducible repeat (first | refine blk_drewN ?_ _ | refine blk_drew ?_ | refine blk_alloc ?_ _)); exact h_)) : W.heap[b]? = some o := hh h
theorem upR {α : Type} {d : Kd α} {e : Nat} {W0 W : World} {n : Nat} {ok : Nat → Prop} {v : Value} {xs : List α} (h : Kd.R d e W0 n ok v xs) (hh : Kd.R d e W0 n ok v xs → Kd.R d e W n ok v xs := by (intro h_; (with_reducible repeat (first | apply Kd.R_alloc | apply Kd.R_drewN | apply Kd.R_drew)); exact h_)) : Kd.R d e W n ok v xs := hh h
theorem argsB {p : Prop} (h : p := by (try simp only [List.map_toArray, List.map_cons, List.map_nil]); first | done | rfl | (simp only [List.length_drop, List.length_take]; rfl)) : p := h
theorem ci {W : World} {b : Nat} {cs : Array Value} {t : TypeId} (h : W.heap[b]? = some (.cells cs t (0, 0))) (j : Nat) (x : Int) (hx : cs[j]? = some (.int .i64 x)) : W.cell? ⟨b, j, none⟩ = some (.int .i64 x) := (blk_cell h j).trans hx
theorem bx {w W : World} {a : Addr} {v : Value} (hb : Below w.heap.size w W) (h : w.cell? a = some v) : W.cell? a = some v := (hb.cell (World.block_lt_of_cell? w _ h)).trans h
theorem asmB {p : Prop} (h : p := by first | (with_reducible assumption) | assumption) : p := h

theorem alloc_size (w : World) (o : Obj) : (w.alloc o).heap.size = w.heap.size + 1 := by simp
theorem wp_abs {P : Program} {c : Code} {X : Exit → Act → World → Prop} {a : Act} {W : World} (F : World → Prop) (h : F W) (hh : ∀ W', F W' → Code.wp P c X a W') : Code.wp P c X a W := hh W h
theorem boxes4 (w : World) (o1 o2 o3 o4 : Obj) : ((((w.alloc o1).alloc o2).alloc o3).alloc o4).heap[w.heap.size]? = some o1 ∧ ((((w.alloc o1).alloc o2).alloc o3).alloc o4).heap[w.heap.size + 1]? = some o2 ∧ ((((w.alloc o1).alloc o2).alloc o3).alloc o4).heap[w.heap.size + 1 + 1]? = some o3 ∧ ((((w.alloc o1).alloc o2).alloc o3).alloc o4).heap[w.heap.size + 1 + 1 + 1]? = some o4 ∧ Below w.heap.size w ((((w.alloc o1).alloc o2).alloc o3).alloc o4) := by
  have h2 := blk_new (w.alloc o1) o2
  have h3 := blk_new ((w.alloc o1).alloc o2) o3
  have h4 := blk_new (((w.alloc o1).alloc o2).alloc o3) o4
  rw [alloc_size] at h2
  rw [alloc_size, alloc_size] at h3
  rw [alloc_size, alloc_size, alloc_size] at h4
  exact ⟨blk_alloc (blk_alloc (blk_alloc (blk_new w o1) _) _) _, blk_alloc (blk_alloc h2 _) _, blk_alloc h3 _, h4, by repeat (first | exact Below.refl _ _ | apply below_alloc)⟩

theorem calls_at_len {P : Program} {f : Nat} {A : Option Addr} {c n m : Nat} {v : Value} {w : World} {Q : Ending → World → Prop} (e : m = n) (h : Calls P f #[.slice A m c, v] w Q) : Calls P f #[.slice A n c, v] w Q := e ▸ h



def errW : Option Int → Value
  | none => .nilIface
  | some c => .iface 0 (.int .i64 c)
theorem errW_none : errW none = .nilIface := rfl
theorem errW_some (c : Int) : errW (some c) = .iface 0 (.int .i64 c) := rfl

theorem info9 : (Tryd.prog.info? 9).map (fun i => (i.zero, i.size, i.bytes)) = some (some (.string ⟨#[]⟩), 1, 16) := by kernel_rfl
-- the values' own types

end Go.Proofs.YtmeaacbnjpgepaaDoor.QFnExactTripText
