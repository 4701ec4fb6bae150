/- The candidates of the program are the document's; what is handed in stays. -/
import Derived.Test.YtnocfhnandedoaaPCandsx29
import Derived.Test.YtnocfhnandedoaaOpenCands
import Derived.Test.YtnocfhnandedoaaRead
set_option linter.unusedVariables false
set_option linter.unusedSimpArgs false
namespace Go.Proofs.Ytnocfhnandedoaa.Pure
open Go.RowKit Go.Proofs.Ytnocfhnandedoaa.PCands Go.Proofs.YtnocfhnandedoaaW.PrintWords Go.Proofs.YtnocfhnandedoaaW.PrintLast Go.Proofs.YtnocfhnandedoaaW.PrintMore

/-- The walk shows that it ends in true; its bounds on the lengths hold of all slices. -/
theorem Cands : wharfagelaw13_Cands.PureX := by
  intro x0 x1 x2 x3 h0 _ h2 h3
  unfold wharfagelaw13_Cands.f
  refine if_pos ⟨?_, by omega, by omega⟩
  unfold sizeOk
  simp only [Bool.and_eq_true, decide_eq_true_eq, List.all_eq_true]
  refine ⟨by have := h0.2.2.1; omega, fun x hx => ?_⟩
  have := (h0.2.2.2 x hx).2.2.2.2.1
  omega

end Go.Proofs.Ytnocfhnandedoaa.Pure
