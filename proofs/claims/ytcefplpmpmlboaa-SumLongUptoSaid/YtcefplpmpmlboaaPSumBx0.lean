/- Contracts: what calls of these functions of the program do, each as a plain function; written by a program of this session. -/
import Derived.Test.YtcefplpmpmlboaaProg
import Derived.Below
import Derived.Deep.Draws
import Derived.Deep.AppendLies
import Derived.Maps.AppendAt
import Derived.OwnWalk
import Derived.Laws.BytesArg
import Derived.Laws.MakeOwn
import Derived.Laws.OwnMore
import Derived.Deep.OwnRows
import Derived.Tactics
import Derived.Lib.ConvBytes
import Derived.Laws.Slices
import Derived.WalkKit
import Derived.KernelRfl
import Derived.RowKit3
import Derived.Deep.LoopGhost
import Derived.Deep.QuietTactic
import Derived.BigQuiet
import Derived.WideLaws
import Derived.Deep.DeepCutAuto
import Derived.Deep.CutBlock
import Derived.Deep.RegionHeld3
import Derived.Laws.Rows
import Derived.Lib.AppendStr
import Derived.ArgAppend
import Derived.Laws.IdiomCopy
import Derived.OrdersHeld
import Derived.Laws.BitsLemmas
import Derived.RowKit
import Derived.WalkSpells
import Derived.Test.YtcefplpmpmlboaaWWords
import Derived.Test.YtcefplpmpmlboaaWLast
import Derived.Test.YtcefplpmpmlboaaWTab
import Derived.Test.YtcefplpmpmlboaaWFour
import Derived.Test.YtcefplpmpmlboaaWQPut
import Derived.Test.YtcefplpmpmlboaaWApart
import Derived.Test.YtcefplpmpmlboaaWArr
import Derived.Test.YtcefplpmpmlboaaWZeros
import Derived.Test.YtcefplpmpmlboaaWFoot
import Derived.Test.YtcefplpmpmlboaaWKept
import Derived.Test.YtcefplpmpmlboaaWShare
import Derived.Test.YtcefplpmpmlboaaWN
import Derived.Test.YtcefplpmpmlboaaWFootNe
import Derived.Test.YtcefplpmpmlboaaWAt
import Derived.Test.YtcefplpmpmlboaaWEqStruct
import Derived.Test.YtcefplpmpmlboaaWRepsOne
import Derived.Test.YtcefplpmpmlboaaWInv
import Derived.Test.YtcefplpmpmlboaaWInvWords
import Derived.Test.YtcefplpmpmlboaaWGuard
import Derived.Test.YtcefplpmpmlboaaWNEv
import Derived.Test.YtcefplpmpmlboaaWMore
namespace Go.Proofs.Ytcefplpmpmlboaa.PSumB
open Go.RowKit Go.Proofs.YtcefplpmpmlboaaW.PrintWords Go.Proofs.YtcefplpmpmlboaaW.PrintLast Go.Proofs.YtcefplpmpmlboaaW.PrintMore
attribute [local go_sem] max2_int min2_int max_two min_two max_three min_three max_four min_four   -- for this text's walks alone
set_option linter.unusedVariables false
set_option linter.unusedSimpArgs false



def errW : Option Int → Value
  | none => .nilIface
  | some c => .iface 0 (.int .i64 c)
theorem errW_none : errW none = .nilIface := rfl
theorem errW_some (c : Int) : errW (some c) = .iface 0 (.int .i64 c) := rfl

theorem info3 : (Try.prog.info? 3).map (fun i => (i.zero, i.size, i.bytes)) = some (some (.int .i64 0), 1, 8) := by kernel_rfl
theorem info5 : (Try.prog.info? 5).map (fun i => (i.zero, i.size, i.bytes)) = some (some (.int .u8 0), 1, 1) := by kernel_rfl
theorem info9 : (Try.prog.info? 9).map (fun i => (i.zero, i.size, i.bytes)) = some (some (.string ⟨#[]⟩), 1, 16) := by kernel_rfl
-- the values' own types

end Go.Proofs.Ytcefplpmpmlboaa.PSumB
