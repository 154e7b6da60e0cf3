/- Go functions told as Lean functions, and their walks. -/
import Derived.Test.YtpdjobbpaldkcaaProg
import Derived.Below
import Derived.Deep.Draws
import Derived.Deep.AppendLies
import Derived.Maps.AppendAt
import Derived.OwnWalk
import Derived.Laws.BytesArg
import Derived.Laws.MakeOwn
import Derived.Laws.OwnMore
import Derived.Deep.OwnRows
import Derived.Tactics
import Derived.Lib.ConvBytes
import Derived.Laws.Slices
import Derived.WalkKit
import Derived.KernelRfl
import Derived.RowKit3
import Derived.Deep.LoopGhost
import Derived.Deep.QuietTactic
import Derived.BigQuiet
import Derived.WideLaws
import Derived.Deep.DeepCutAuto
import Derived.Deep.CutBlock
import Derived.Deep.RegionHeld3
import Derived.Laws.Rows
import Derived.Lib.AppendStr
import Derived.ArgAppend
import Derived.Laws.IdiomCopy
import Derived.OrdersHeld
import Derived.Laws.BitsLemmas
import Derived.RowKit
import Derived.Test.YtpdjobbpaldkcaaWWords
import Derived.Test.YtpdjobbpaldkcaaWLast
import Derived.Test.YtpdjobbpaldkcaaWTab
import Derived.Test.YtpdjobbpaldkcaaWFour
import Derived.Test.YtpdjobbpaldkcaaWQPut
import Derived.Test.YtpdjobbpaldkcaaWApart
import Derived.Test.YtpdjobbpaldkcaaWArr
import Derived.Test.YtpdjobbpaldkcaaWZeros
import Derived.Test.YtpdjobbpaldkcaaWFoot
import Derived.Test.YtpdjobbpaldkcaaWKept
import Derived.Test.YtpdjobbpaldkcaaWShare
import Derived.Test.YtpdjobbpaldkcaaWN
import Derived.Test.YtpdjobbpaldkcaaWFootNe
import Derived.Test.YtpdjobbpaldkcaaWAt
import Derived.Test.YtpdjobbpaldkcaaWEqStruct
import Derived.Test.YtpdjobbpaldkcaaWRepsOne
import Derived.Test.YtpdjobbpaldkcaaWInv
import Derived.Test.YtpdjobbpaldkcaaWInvWords
import Derived.Test.YtpdjobbpaldkcaaWGuard
import Derived.Test.YtpdjobbpaldkcaaWNEv
import Derived.Test.YtpdjobbpaldkcaaWMore
namespace Go.Proofs.Ytpdjobbpaldkcaa.QRT
open Go.RowKit Go.Proofs.YtpdjobbpaldkcaaW.PrintWords Go.Proofs.YtpdjobbpaldkcaaW.PrintLast Go.Proofs.YtpdjobbpaldkcaaW.PrintMore
attribute [local go_sem] max2_int min2_int max_two min_two max_three min_three max_four min_four   -- for this text's walks alone
set_option linter.unusedVariables false
set_option linter.unusedSimpArgs false



def errW : Option Int → Value
  | none => .nilIface
  | some c => .iface 0 (.int .i64 c)
theorem errW_none : errW none = .nilIface := rfl
theorem errW_some (c : Int) : errW (some c) = .iface 0 (.int .i64 c) := rfl

theorem info2 : (Try.prog.info? 2).map (fun i => (i.zero, i.size, i.bytes)) = some (some (.int .i64 0), 1, 8) := by kernel_rfl
-- the values' own types

end Go.Proofs.Ytpdjobbpaldkcaa.QRT
