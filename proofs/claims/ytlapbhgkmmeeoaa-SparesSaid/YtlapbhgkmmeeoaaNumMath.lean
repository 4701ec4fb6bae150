/- Plain facts on numbers, masks and words of bytes; no program in sight. -/
import Derived.WalkKit
import Derived.Laws.BitsLemmas
import Derived.Laws.BitsAllLaws
namespace Go.Proofs.Ytlapbhgkmmeeoaa.NumMath
open Go.RowKit

/-! the sum's value -/
def F (x : Int) : Int := if x = 0 then 0 else (x - 1) % 65535 + 1
/-! words of bytes -/
end Go.Proofs.Ytlapbhgkmmeeoaa.NumMath
