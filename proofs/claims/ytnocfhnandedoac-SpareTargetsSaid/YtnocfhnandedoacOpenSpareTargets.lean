/- How the arguments of the law SpareTargets read; its one pure statement; its walk. -/
import Derived.Test.YtnocfhnandedoacPSpareTargetsx0
import Derived.Test.YtnocfhnandedoacPSpareTargetsx26
import Derived.Test.YtnocfhnandedoacRead
namespace Go.Proofs.Ytnocfhnandedoac.PSpareTargets
open Go.RowKit Go.Proofs.YtnocfhnandedoacW.PrintWords Go.Proofs.YtnocfhnandedoacW.PrintLast Go.Proofs.YtnocfhnandedoacW.PrintMore
open Go.Proofs.Ytnocfhnandedoac.Read
set_option linter.unusedVariables false
set_option linter.unusedSimpArgs false
def wharfagelaw17_SpareTargets.PureX : Prop := ∀ (x0 : Int) (x1 : Int), ((Lit.int .i64 x0).wf = true) → ((Lit.int .i64 x1).wf = true) → wharfagelaw17_SpareTargets.f x0 x1 = some true
theorem wharfagelaw17_SpareTargets.walkX (P : wharfagelaw17_SpareTargets.PureX) (w : World) (x0 : Int) (G0 : (Lit.int .i64 x0).wf = true) (x1 : Int) (G1 : (Lit.int .i64 x1).wf = true) :
    Calls Try.prog 6 #[.int .i64 x0, .int .i64 x1] w fun e w' => e = .returned (.bool true) ∧ Below w.heap.size w w' := by
  have h := P x0 x1 G0 G1
  refine (wharfagelaw17_SpareTargets.calls x0 x1 true w  h).mono ?_
  rintro e w' ⟨rfl, hd⟩
  exact ⟨rfl, hd⟩
end Go.Proofs.Ytnocfhnandedoac.PSpareTargets
