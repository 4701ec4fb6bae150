/- Plain facts on numbers, masks and words of bytes; no program in sight. -/
import Derived.WalkKit
import Derived.Laws.BitsLemmas
import Derived.Laws.BitsAllLaws
namespace Go.Proofs.YtnojgkiaolmoeaaDoor.NumMath
open Go.RowKit

theorem wrap_u64_in (n : Int) (h0 : 0 ≤ n) (h1 : n < 18446744073709551616) : IntKind.u64.wrap n = n := by
  simp [IntKind.wrap, IntKind.bits, IntKind.signed]; omega
theorem tmod_nn (x m : Int) (h : 0 ≤ x) : Int.tmod x m = x % m := Int.tmod_eq_emod_of_nonneg h
theorem tdiv_nn (x m : Int) (h : 0 ≤ x) : Int.tdiv x m = x / m := Int.tdiv_eq_ediv_of_nonneg h

/-! the sum's value -/
def F (x : Int) : Int := if x = 0 then 0 else (x - 1) % 65535 + 1
theorem F_step (x : Int) (h : 65536 ≤ x) : F (x % 65536 + x / 65536) = F x := by unfold F; split <;> split <;> omega
/-! words of bytes -/
end Go.Proofs.YtnojgkiaolmoeaaDoor.NumMath
