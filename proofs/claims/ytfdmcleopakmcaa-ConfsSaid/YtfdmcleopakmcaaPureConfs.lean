/- The configurations of the program are the document's. -/
import Derived.Test.YtfdmcleopakmcaaPConfsx17
import Derived.Test.YtfdmcleopakmcaaOpenConfs
set_option linter.unusedVariables false
set_option linter.unusedSimpArgs false
namespace Go.Proofs.Ytfdmcleopakmcaa.Pure
open Go.RowKit Go.Proofs.Ytfdmcleopakmcaa.PConfs Go.Proofs.YtfdmcleopakmcaaW.PrintWords Go.Proofs.YtfdmcleopakmcaaW.PrintLast Go.Proofs.YtfdmcleopakmcaaW.PrintMore

/-- The walk shows that it ends in true; its bounds on the lengths hold of all slices. -/
theorem Confs : wharfagelaw10_Confs.PureX := by
  intro x0 x1 x2 x3 h0 h1 _ _
  have key : ∀ x : S24, g24 x → sizeOk x.f1 = true := by
    intro x h0
    unfold sizeOk
    simp only [Bool.and_eq_true, decide_eq_true_eq, List.all_eq_true]
    refine ⟨by have := h0.2.2.1; omega, fun y hy => ?_⟩
    have := (h0.2.2.2 y hy).2.2.2.2.1
    omega
  unfold wharfagelaw10_Confs.f
  exact if_pos ⟨key x0 h0, key x1 h1⟩

end Go.Proofs.Ytfdmcleopakmcaa.Pure
