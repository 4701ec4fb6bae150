/- Plain facts on numbers, masks and words of bytes; no program in sight. -/
import Derived.WalkKit
import Derived.Laws.BitsLemmas
import Derived.Laws.BitsAllLaws
namespace Go.Proofs.YtnojgkiaolmoeaaDoor.NumMath
open Go.RowKit

/-! the sum's value -/
def F (x : Int) : Int := if x = 0 then 0 else (x - 1) % 65535 + 1
theorem F_step (x : Int) (h : 65536 ≤ x) : F (x % 65536 + x / 65536) = F x := by unfold F; split <;> split <;> omega
/-! words of bytes -/
end Go.Proofs.YtnojgkiaolmoeaaDoor.NumMath
