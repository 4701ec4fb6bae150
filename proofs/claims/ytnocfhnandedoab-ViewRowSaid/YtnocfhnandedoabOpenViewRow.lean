/- How the arguments of the law ViewRow read; its one pure statement; its walk. -/
import Derived.Test.YtnocfhnandedoabPVRowx0
import Derived.Test.YtnocfhnandedoabPVRowx12
import Derived.Test.YtnocfhnandedoabRead
namespace Go.Proofs.Ytnocfhnandedoab.PVRow
open Go.RowKit Go.Proofs.YtnocfhnandedoabW.PrintWords Go.Proofs.YtnocfhnandedoabW.PrintLast Go.Proofs.YtnocfhnandedoabW.PrintMore
open Go.Proofs.Ytnocfhnandedoab.Read
set_option linter.unusedVariables false
set_option linter.unusedSimpArgs false
def wharfagelaw12_ViewRow.PureX : Prop := ∀ (x0 : List Int), (x0.length ≤ 9223372036854775807 ∧ x0.length * 8 ≤ 140737488351232 ∧ ∀ a ∈ x0, (Lit.int .i64 a).wf = true) → wharfagelaw12_ViewRow.f x0 = some true
theorem wharfagelaw12_ViewRow.walkX (P : wharfagelaw12_ViewRow.PureX) (w : World) (x0 : List Int) (A0 : Option Addr) (c0 : Nat) (l0 : x0.length ≤ c0) (C0 : Kd.C (Kd.int .i64) w A0 x0.length x0) (G0 : x0.length ≤ 9223372036854775807 ∧ x0.length * 8 ≤ 140737488351232 ∧ ∀ a ∈ x0, (Lit.int .i64 a).wf = true) :
    Calls Try.prog 13 #[.slice A0 x0.length c0] w fun e w' => e = .returned (.bool true) ∧ Below w.heap.size w w' := by
  have h := P x0 G0
  refine (wharfagelaw12_ViewRow.calls _ _ x0 true w C0 l0 h).mono ?_
  rintro e w' ⟨rfl, hd⟩
  exact ⟨rfl, hd⟩
end Go.Proofs.Ytnocfhnandedoab.PVRow
