/- How the arguments of the law ViewStale read; its one pure statement; its walk. -/
import Derived.Test.YtnocfhnandedoabPViewx0
import Derived.Test.YtnocfhnandedoabPViewx12
import Derived.Test.YtnocfhnandedoabRead
namespace Go.Proofs.Ytnocfhnandedoab.PView
open Go.RowKit Go.Proofs.YtnocfhnandedoabW.PrintWords Go.Proofs.YtnocfhnandedoabW.PrintLast Go.Proofs.YtnocfhnandedoabW.PrintMore
open Go.Proofs.Ytnocfhnandedoab.Read
set_option linter.unusedVariables false
set_option linter.unusedSimpArgs false
def wharfagelaw12_ViewStale.PureX : Prop := ∀ (x0 : Int) (x1 : Int) (x2 : Int) (x3 : Int) (x4 : Int) (x5 : Int) (x6 : Int), ((Lit.int .i64 x0).wf = true) → ((Lit.int .i64 x1).wf = true) → ((Lit.int .i64 x2).wf = true) → ((Lit.int .i64 x3).wf = true) → ((Lit.int .i64 x4).wf = true) → ((Lit.int .i64 x5).wf = true) → ((Lit.int .i64 x6).wf = true) → wharfagelaw12_ViewStale.f x0 x1 x2 x3 x4 x5 x6 = some true
theorem wharfagelaw12_ViewStale.walkX (P : wharfagelaw12_ViewStale.PureX) (w : World) (x0 : Int) (G0 : (Lit.int .i64 x0).wf = true) (x1 : Int) (G1 : (Lit.int .i64 x1).wf = true) (x2 : Int) (G2 : (Lit.int .i64 x2).wf = true) (x3 : Int) (G3 : (Lit.int .i64 x3).wf = true) (x4 : Int) (G4 : (Lit.int .i64 x4).wf = true) (x5 : Int) (G5 : (Lit.int .i64 x5).wf = true) (x6 : Int) (G6 : (Lit.int .i64 x6).wf = true) :
    Calls Try.prog 11 #[.int .i64 x0, .int .i64 x1, .int .i64 x2, .int .i64 x3, .int .i64 x4, .int .i64 x5, .int .i64 x6] w fun e w' => e = .returned (.bool true) ∧ Below w.heap.size w w' := by
  have h := P x0 x1 x2 x3 x4 x5 x6 G0 G1 G2 G3 G4 G5 G6
  refine (wharfagelaw12_ViewStale.calls x0 x1 x2 x3 x4 x5 x6 true w  h).mono ?_
  rintro e w' ⟨rfl, hd⟩
  exact ⟨rfl, hd⟩
end Go.Proofs.Ytnocfhnandedoab.PView
