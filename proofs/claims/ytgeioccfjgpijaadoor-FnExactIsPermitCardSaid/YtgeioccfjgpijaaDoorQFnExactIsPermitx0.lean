/- Contracts of Go functions that FnExactIsPermit reaches: the call computes what the plain function says. No condition. -/
import Derived.Test.YtgeioccfjgpijaaDoorProg
import Derived.Below
import Derived.Deep.Draws
import Derived.Deep.AppendLies
import Derived.Maps.AppendAt
import Derived.OwnWalk
import Derived.Laws.BytesArg
import Derived.Laws.MakeOwn
import Derived.Laws.OwnMore
import Derived.Deep.OwnRows
import Derived.Tactics
import Derived.Lib.ConvBytes
import Derived.Laws.Slices
import Derived.WalkKit
import Derived.KernelRfl
import Derived.RowKit3
import Derived.Deep.LoopGhost
import Derived.Deep.QuietTactic
import Derived.BigQuiet
import Derived.WideLaws
import Derived.Deep.DeepCutAuto
import Derived.Deep.CutBlock
import Derived.Deep.RegionHeld3
import Derived.Laws.Rows
import Derived.Lib.AppendStr
import Derived.ArgAppend
import Derived.Laws.IdiomCopy
import Derived.OrdersHeld
import Derived.Laws.BitsLemmas
import Derived.RowKit
import Derived.Lib.SliceRun
import Derived.LoopTactic
import Derived.LoopN
import Derived.Test.YtgeioccfjgpijaaDoorShelf
import Derived.Test.YtgeioccfjgpijaaDoorWWords
import Derived.Test.YtgeioccfjgpijaaDoorWLast
import Derived.Test.YtgeioccfjgpijaaDoorWTab
import Derived.Test.YtgeioccfjgpijaaDoorWFour
import Derived.Test.YtgeioccfjgpijaaDoorWQPut
import Derived.Test.YtgeioccfjgpijaaDoorWApart
import Derived.Test.YtgeioccfjgpijaaDoorWArr
import Derived.Test.YtgeioccfjgpijaaDoorWZeros
import Derived.Test.YtgeioccfjgpijaaDoorWFoot
import Derived.Test.YtgeioccfjgpijaaDoorWKept
import Derived.Test.YtgeioccfjgpijaaDoorWShare
import Derived.Test.YtgeioccfjgpijaaDoorWN
import Derived.Test.YtgeioccfjgpijaaDoorWFootNe
import Derived.Test.YtgeioccfjgpijaaDoorWAt
import Derived.Test.YtgeioccfjgpijaaDoorWEqStruct
import Derived.Test.YtgeioccfjgpijaaDoorWRepsOne
import Derived.Test.YtgeioccfjgpijaaDoorWInv
import Derived.Test.YtgeioccfjgpijaaDoorWInvWords
import Derived.Test.YtgeioccfjgpijaaDoorWGuard
import Derived.Test.YtgeioccfjgpijaaDoorWNEv
import Derived.Test.YtgeioccfjgpijaaDoorWMore
namespace Go.Proofs.YtgeioccfjgpijaaDoor.QFnExactIsPermit
open Go.RowKit Go.Proofs.YtgeioccfjgpijaaDoorW.PrintWords Go.Proofs.YtgeioccfjgpijaaDoorW.PrintLast Go.Proofs.YtgeioccfjgpijaaDoorW.PrintMore
attribute [local go_sem] max2_int min2_int max_two min_two max_three min_three max_four min_four   -- for this text's walks alone
set_option linter.unusedVariables false
set_option linter.unusedSimpArgs false

theorem alloc_size (w : World) (o : Obj) : (w.alloc o).heap.size = w.heap.size + 1 := by simp
theorem wp_abs {P : Program} {c : Code} {X : Exit → Act → World → Prop} {a : Act} {W : World} (F : World → Prop) (h : F W) (hh : ∀ W', F W' → Code.wp P c X a W') : Code.wp P c X a W := hh W h
theorem boxes4 (w : World) (o1 o2 o3 o4 : Obj) : ((((w.alloc o1).alloc o2).alloc o3).alloc o4).heap[w.heap.size]? = some o1 ∧ ((((w.alloc o1).alloc o2).alloc o3).alloc o4).heap[w.heap.size + 1]? = some o2 ∧ ((((w.alloc o1).alloc o2).alloc o3).alloc o4).heap[w.heap.size + 1 + 1]? = some o3 ∧ ((((w.alloc o1).alloc o2).alloc o3).alloc o4).heap[w.heap.size + 1 + 1 + 1]? = some o4 ∧ Below w.heap.size w ((((w.alloc o1).alloc o2).alloc o3).alloc o4) := by
  have h2 := blk_new (w.alloc o1) o2
  have h3 := blk_new ((w.alloc o1).alloc o2) o3
  have h4 := blk_new (((w.alloc o1).alloc o2).alloc o3) o4
  rw [alloc_size] at h2
  rw [alloc_size, alloc_size] at h3
  rw [alloc_size, alloc_size, alloc_size] at h4
  exact ⟨blk_alloc (blk_alloc (blk_alloc (blk_new w o1) _) _) _, blk_alloc (blk_alloc h2 _) _, blk_alloc h3 _, h4, by repeat (first | exact Below.refl _ _ | apply below_alloc)⟩

theorem calls_at_len {P : Program} {f : Nat} {A : Option Addr} {c n m : Nat} {v : Value} {w : World} {Q : Ending → World → Prop} (e : m = n) (h : Calls P f #[.slice A m c, v] w Q) : Calls P f #[.slice A n c, v] w Q := e ▸ h



def errW : Option Int → Value
  | none => .nilIface
  | some c => .iface 0 (.int .i64 c)
theorem errW_none : errW none = .nilIface := rfl
theorem errW_some (c : Int) : errW (some c) = .iface 0 (.int .i64 c) := rfl

-- the values' own types

end Go.Proofs.YtgeioccfjgpijaaDoor.QFnExactIsPermit
