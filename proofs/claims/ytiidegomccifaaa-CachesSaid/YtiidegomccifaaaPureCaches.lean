/- THE PLAIN LAW of Caches: the bounds that the walk asks for hold of all slices and whole numbers. -/
import Derived.Test.YtiidegomccifaaaPCachesx28
import Derived.Test.YtiidegomccifaaaOpenCaches
import Derived.Test.YtiidegomccifaaaNumMath
set_option linter.unusedVariables false
set_option linter.unusedSimpArgs false
namespace Go.Proofs.Ytiidegomccifaaa.Pure
open Go.RowKit Go.Proofs.Ytiidegomccifaaa.PCaches Go.Proofs.YtiidegomccifaaaW.PrintWords Go.Proofs.YtiidegomccifaaaW.PrintLast Go.Proofs.YtiidegomccifaaaW.PrintMore Go.Proofs.Ytiidegomccifaaa.NumMath

/-- The walk shows that it ends in true; its bounds hold of all slices and whole numbers. -/
theorem Caches : wharfagelaw16_Caches.PureX := by
  intro x0 x1 x2 x3 h0 _ _ h3
  unfold wharfagelaw16_Caches.f
  have hb := wf_i64_bounds h3
  exact if_pos ⟨by have := h0.2.1; omega, hb.1, hb.2⟩

end Go.Proofs.Ytiidegomccifaaa.Pure
