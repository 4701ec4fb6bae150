/- How the arguments of the law NetForms read; its one pure statement; its walk. -/
import Derived.Test.YtkgjnckkfiepaaaPNetFormsx0
import Derived.Test.YtkgjnckkfiepaaaPNetFormsx2
import Derived.Test.YtkgjnckkfiepaaaRead
namespace Go.Proofs.Ytkgjnckkfiepaaa.PNetForms
open Go.RowKit Go.Proofs.YtkgjnckkfiepaaaW.PrintWords Go.Proofs.YtkgjnckkfiepaaaW.PrintLast Go.Proofs.YtkgjnckkfiepaaaW.PrintMore
open Go.Proofs.Ytkgjnckkfiepaaa.Read
set_option linter.unusedVariables false
set_option linter.unusedSimpArgs false
def wharfagelaw22_NetForms.PureX : Prop := ∀ (x0 : Int), ((Lit.int .i64 x0).wf = true) → wharfagelaw22_NetForms.f x0 = some true
theorem wharfagelaw22_NetForms.walkX (P : wharfagelaw22_NetForms.PureX) (w : World) (x0 : Int) (G0 : (Lit.int .i64 x0).wf = true) :
    Calls Try.prog 5 #[.int .i64 x0] w fun e w' => e = .returned (.bool true) ∧ Below w.heap.size w w' := by
  have h := P x0 G0
  refine (wharfagelaw22_NetForms.calls x0 true w  h).mono ?_
  rintro e w' ⟨rfl, hd⟩
  exact ⟨rfl, hd⟩
end Go.Proofs.Ytkgjnckkfiepaaa.PNetForms
