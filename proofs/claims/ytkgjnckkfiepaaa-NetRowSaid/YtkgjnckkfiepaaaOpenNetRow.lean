/- How the arguments of the law NetRow read; its one pure statement; its walk. -/
import Derived.Test.YtkgjnckkfiepaaaPNetRowx0
import Derived.Test.YtkgjnckkfiepaaaPNetRowx3
import Derived.Test.YtkgjnckkfiepaaaRead
namespace Go.Proofs.Ytkgjnckkfiepaaa.PNetRow
open Go.RowKit Go.Proofs.YtkgjnckkfiepaaaW.PrintWords Go.Proofs.YtkgjnckkfiepaaaW.PrintLast Go.Proofs.YtkgjnckkfiepaaaW.PrintMore
open Go.Proofs.Ytkgjnckkfiepaaa.Read
set_option linter.unusedVariables false
set_option linter.unusedSimpArgs false
def wharfagelaw22_NetRow.PureX : Prop := ∀ (x0 : List Int), (x0.length ≤ 9223372036854775807 ∧ x0.length * 8 ≤ 140737488351232 ∧ ∀ a ∈ x0, (Lit.int .i64 a).wf = true) → wharfagelaw22_NetRow.f x0 = some true
theorem wharfagelaw22_NetRow.walkX (P : wharfagelaw22_NetRow.PureX) (w : World) (x0 : List Int) (A0 : Option Addr) (c0 : Nat) (l0 : x0.length ≤ c0) (C0 : Kd.C (Kd.int .i64) w A0 x0.length x0) (G0 : x0.length ≤ 9223372036854775807 ∧ x0.length * 8 ≤ 140737488351232 ∧ ∀ a ∈ x0, (Lit.int .i64 a).wf = true) :
    Calls Try.prog 4 #[.slice A0 x0.length c0] w fun e w' => e = .returned (.bool true) ∧ Below w.heap.size w w' := by
  have h := P x0 G0
  refine (wharfagelaw22_NetRow.calls _ _ x0 true w C0 l0 h).mono ?_
  rintro e w' ⟨rfl, hd⟩
  exact ⟨rfl, hd⟩
end Go.Proofs.Ytkgjnckkfiepaaa.PNetRow
