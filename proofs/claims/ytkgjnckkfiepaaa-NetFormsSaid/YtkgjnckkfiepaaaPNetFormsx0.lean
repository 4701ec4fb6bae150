/- Contracts: what calls of these functions of the program do, each as a plain function; written by a program of this session. -/
import Derived.Test.YtkgjnckkfiepaaaProg
import Derived.Below
import Derived.Deep.Draws
import Derived.Deep.AppendLies
import Derived.Maps.AppendAt
import Derived.OwnWalk
import Derived.Laws.BytesArg
import Derived.Laws.MakeOwn
import Derived.Laws.OwnMore
import Derived.Deep.OwnRows
import Derived.Tactics
import Derived.Lib.ConvBytes
import Derived.Laws.Slices
import Derived.WalkKit
import Derived.KernelRfl
import Derived.RowKit3
import Derived.Deep.LoopGhost
import Derived.Deep.QuietTactic
import Derived.BigQuiet
import Derived.WideLaws
import Derived.Deep.DeepCutAuto
import Derived.Deep.CutBlock
import Derived.Deep.RegionHeld3
import Derived.Laws.Rows
import Derived.Lib.AppendStr
import Derived.ArgAppend
import Derived.Laws.IdiomCopy
import Derived.OrdersHeld
import Derived.Laws.BitsLemmas
import Derived.RowKit
import Derived.WalkSpells
import Derived.StillTailTactics
import Derived.Deep.RegionHeld3
import Derived.Deep.DeepCutAuto
import Derived.Test.YtkgjnckkfiepaaaHand
import Derived.Test.YtkgjnckkfiepaaaNumMath
import Derived.Test.YtkgjnckkfiepaaaNetCalls
import Derived.Test.YtkgjnckkfiepaaaWWords
import Derived.Test.YtkgjnckkfiepaaaWLast
import Derived.Test.YtkgjnckkfiepaaaWTab
import Derived.Test.YtkgjnckkfiepaaaWFour
import Derived.Test.YtkgjnckkfiepaaaWQPut
import Derived.Test.YtkgjnckkfiepaaaWApart
import Derived.Test.YtkgjnckkfiepaaaWArr
import Derived.Test.YtkgjnckkfiepaaaWZeros
import Derived.Test.YtkgjnckkfiepaaaWFoot
import Derived.Test.YtkgjnckkfiepaaaWKept
import Derived.Test.YtkgjnckkfiepaaaWShare
import Derived.Test.YtkgjnckkfiepaaaWN
import Derived.Test.YtkgjnckkfiepaaaWFootNe
import Derived.Test.YtkgjnckkfiepaaaWAt
import Derived.Test.YtkgjnckkfiepaaaWEqStruct
import Derived.Test.YtkgjnckkfiepaaaWRepsOne
import Derived.Test.YtkgjnckkfiepaaaWInv
import Derived.Test.YtkgjnckkfiepaaaWInvWords
import Derived.Test.YtkgjnckkfiepaaaWGuard
import Derived.Test.YtkgjnckkfiepaaaWNEv
import Derived.Test.YtkgjnckkfiepaaaWMore
namespace Go.Proofs.Ytkgjnckkfiepaaa.PNetForms
open Go.RowKit Go.Proofs.YtkgjnckkfiepaaaW.PrintWords Go.Proofs.YtkgjnckkfiepaaaW.PrintLast Go.Proofs.YtkgjnckkfiepaaaW.PrintMore
attribute [local go_sem] max2_int min2_int max_two min_two max_three min_three max_four min_four   -- for this text's walks alone
set_option linter.unusedVariables false
set_option linter.unusedSimpArgs false



def errW : Option Int → Value
  | none => .nilIface
  | some c => .iface 0 (.int .i64 c)
theorem errW_none : errW none = .nilIface := rfl
theorem errW_some (c : Int) : errW (some c) = .iface 0 (.int .i64 c) := rfl

-- the values' own types

end Go.Proofs.Ytkgjnckkfiepaaa.PNetForms
