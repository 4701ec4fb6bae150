/- How the arguments of the law SpareTable read; its one pure statement; its walk. -/
import Derived.Test.YtnocfhnandedoacPSpareTablex0
import Derived.Test.YtnocfhnandedoacPSpareTablex27
import Derived.Test.YtnocfhnandedoacRead
namespace Go.Proofs.Ytnocfhnandedoac.PSpareTable
open Go.RowKit Go.Proofs.YtnocfhnandedoacW.PrintWords Go.Proofs.YtnocfhnandedoacW.PrintLast Go.Proofs.YtnocfhnandedoacW.PrintMore
open Go.Proofs.Ytnocfhnandedoac.Read
set_option linter.unusedVariables false
set_option linter.unusedSimpArgs false
def wharfagelaw17_SpareTable.PureX : Prop := ∀ (x0 : Int), ((Lit.int .i64 x0).wf = true) → wharfagelaw17_SpareTable.f x0 = some true
theorem wharfagelaw17_SpareTable.walkX (P : wharfagelaw17_SpareTable.PureX) (w : World) (x0 : Int) (G0 : (Lit.int .i64 x0).wf = true) :
    Calls Try.prog 5 #[.int .i64 x0] w fun e w' => e = .returned (.bool true) ∧ Below w.heap.size w w' := by
  have h := P x0 G0
  refine (wharfagelaw17_SpareTable.calls x0 true w  h).mono ?_
  rintro e w' ⟨rfl, hd⟩
  exact ⟨rfl, hd⟩
end Go.Proofs.Ytnocfhnandedoac.PSpareTable
