/- Contracts: what calls of these functions of the program do, each as a plain function; written by a program of this session. -/
import Derived.Test.YtnocfhnandedoaaProg
import Derived.Below
import Derived.Deep.Draws
import Derived.Deep.AppendLies
import Derived.Maps.AppendAt
import Derived.OwnWalk
import Derived.Laws.BytesArg
import Derived.Laws.MakeOwn
import Derived.Laws.OwnMore
import Derived.Deep.OwnRows
import Derived.Tactics
import Derived.Lib.ConvBytes
import Derived.Laws.Slices
import Derived.WalkKit
import Derived.KernelRfl
import Derived.RowKit3
import Derived.Deep.LoopGhost
import Derived.Deep.QuietTactic
import Derived.BigQuiet
import Derived.WideLaws
import Derived.Deep.DeepCutAuto
import Derived.Deep.CutBlock
import Derived.Deep.RegionHeld3
import Derived.Laws.Rows
import Derived.Lib.AppendStr
import Derived.ArgAppend
import Derived.Laws.IdiomCopy
import Derived.OrdersHeld
import Derived.Laws.BitsLemmas
import Derived.RowKit
import Derived.WalkSpells
import Derived.Test.YtnocfhnandedoaaNumMath
import Derived.Test.YtnocfhnandedoaaWWords
import Derived.Test.YtnocfhnandedoaaWLast
import Derived.Test.YtnocfhnandedoaaWTab
import Derived.Test.YtnocfhnandedoaaWFour
import Derived.Test.YtnocfhnandedoaaWQPut
import Derived.Test.YtnocfhnandedoaaWApart
import Derived.Test.YtnocfhnandedoaaWArr
import Derived.Test.YtnocfhnandedoaaWZeros
import Derived.Test.YtnocfhnandedoaaWFoot
import Derived.Test.YtnocfhnandedoaaWKept
import Derived.Test.YtnocfhnandedoaaWShare
import Derived.Test.YtnocfhnandedoaaWN
import Derived.Test.YtnocfhnandedoaaWFootNe
import Derived.Test.YtnocfhnandedoaaWAt
import Derived.Test.YtnocfhnandedoaaWEqStruct
import Derived.Test.YtnocfhnandedoaaWRepsOne
import Derived.Test.YtnocfhnandedoaaWInv
import Derived.Test.YtnocfhnandedoaaWInvWords
import Derived.Test.YtnocfhnandedoaaWGuard
import Derived.Test.YtnocfhnandedoaaWNEv
import Derived.Test.YtnocfhnandedoaaWMore
namespace Go.Proofs.Ytnocfhnandedoaa.PRForm
open Go.RowKit Go.Proofs.YtnocfhnandedoaaW.PrintWords Go.Proofs.YtnocfhnandedoaaW.PrintLast Go.Proofs.YtnocfhnandedoaaW.PrintMore
attribute [local go_sem] max2_int min2_int max_two min_two max_three min_three max_four min_four   -- for this text's walks alone
set_option linter.unusedVariables false
set_option linter.unusedSimpArgs false



def errW : Option Int → Value
  | none => .nilIface
  | some c => .iface 0 (.int .i64 c)
theorem errW_none : errW none = .nilIface := rfl
theorem errW_some (c : Int) : errW (some c) = .iface 0 (.int .i64 c) := rfl

theorem info5 : (Try.prog.info? 5).map (fun i => (i.zero, i.size, i.bytes)) = some (some (.int .u8 0), 1, 1) := by kernel_rfl
-- the values' own types

end Go.Proofs.Ytnocfhnandedoaa.PRForm
