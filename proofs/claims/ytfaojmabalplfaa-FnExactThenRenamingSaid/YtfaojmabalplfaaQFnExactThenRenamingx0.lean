/- Contracts of Go functions that FnExactThenRenaming reaches: the call computes what the plain function says. No condition. -/
import Derived.Test.YtfaojmabalplfaaProg
import Derived.Below
import Derived.Deep.Draws
import Derived.Deep.AppendLies
import Derived.Maps.AppendAt
import Derived.OwnWalk
import Derived.Laws.BytesArg
import Derived.Laws.MakeOwn
import Derived.Laws.OwnMore
import Derived.Deep.OwnRows
import Derived.Tactics
import Derived.Lib.ConvBytes
import Derived.Laws.Slices
import Derived.WalkKit
import Derived.KernelRfl
import Derived.RowKit3
import Derived.Deep.LoopGhost
import Derived.Deep.QuietTactic
import Derived.BigQuiet
import Derived.WideLaws
import Derived.Deep.DeepCutAuto
import Derived.Deep.CutBlock
import Derived.Deep.RegionHeld3
import Derived.Laws.Rows
import Derived.Lib.AppendStr
import Derived.ArgAppend
import Derived.Laws.IdiomCopy
import Derived.OrdersHeld
import Derived.Laws.BitsLemmas
import Derived.RowKit
import Derived.Test.YtfaojmabalplfaaWWords
import Derived.Test.YtfaojmabalplfaaWLast
import Derived.Test.YtfaojmabalplfaaWTab
import Derived.Test.YtfaojmabalplfaaWFour
import Derived.Test.YtfaojmabalplfaaWQPut
import Derived.Test.YtfaojmabalplfaaWApart
import Derived.Test.YtfaojmabalplfaaWArr
import Derived.Test.YtfaojmabalplfaaWZeros
import Derived.Test.YtfaojmabalplfaaWFoot
import Derived.Test.YtfaojmabalplfaaWKept
import Derived.Test.YtfaojmabalplfaaWShare
import Derived.Test.YtfaojmabalplfaaWN
import Derived.Test.YtfaojmabalplfaaWFootNe
import Derived.Test.YtfaojmabalplfaaWAt
import Derived.Test.YtfaojmabalplfaaWEqStruct
import Derived.Test.YtfaojmabalplfaaWRepsOne
import Derived.Test.YtfaojmabalplfaaWInv
import Derived.Test.YtfaojmabalplfaaWInvWords
import Derived.Test.YtfaojmabalplfaaWGuard
import Derived.Test.YtfaojmabalplfaaWNEv
import Derived.Test.YtfaojmabalplfaaWMore
namespace Go.Proofs.Ytfaojmabalplfaa.QFnExactThenRenaming
open Go.RowKit Go.Proofs.YtfaojmabalplfaaW.PrintWords Go.Proofs.YtfaojmabalplfaaW.PrintLast Go.Proofs.YtfaojmabalplfaaW.PrintMore
attribute [local go_sem] max2_int min2_int max_two min_two max_three min_three max_four min_four   -- for this text's walks alone
set_option linter.unusedVariables false
set_option linter.unusedSimpArgs false

theorem calls_at_len {P : Program} {f : Nat} {A : Option Addr} {c n m : Nat} {v : Value} {w : World} {Q : Ending → World → Prop} (e : m = n) (h : Calls P f #[.slice A m c, v] w Q) : Calls P f #[.slice A n c, v] w Q := e ▸ h



def errW : Option Int → Value
  | none => .nilIface
  | some c => .iface 0 (.int .i64 c)
theorem errW_none : errW none = .nilIface := rfl
theorem errW_some (c : Int) : errW (some c) = .iface 0 (.int .i64 c) := rfl

theorem info3 : (Try.prog.info? 3).map (fun i => (i.zero, i.size, i.bytes)) = some (some (.int .i64 0), 1, 8) := by kernel_rfl
-- the values' own types

end Go.Proofs.Ytfaojmabalplfaa.QFnExactThenRenaming
