/- How the arguments of the law NetAll read; its one pure statement; its walk. -/
import Derived.Test.YtkgjnckkfiepaaaPNetAllx0
import Derived.Test.YtkgjnckkfiepaaaPNetAllx4
import Derived.Test.YtkgjnckkfiepaaaRead
namespace Go.Proofs.Ytkgjnckkfiepaaa.PNetAll
open Go.RowKit Go.Proofs.YtkgjnckkfiepaaaW.PrintWords Go.Proofs.YtkgjnckkfiepaaaW.PrintLast Go.Proofs.YtkgjnckkfiepaaaW.PrintMore
open Go.Proofs.Ytkgjnckkfiepaaa.Read
set_option linter.unusedVariables false
set_option linter.unusedSimpArgs false
def wharfagelaw22_NetAll.PureX : Prop := ∀ (x0 : List ByteArray), (x0.length ≤ 9223372036854775807 ∧ x0.length * 16 ≤ 140737488351232 ∧ ∀ a ∈ x0, a.size ≤ 140737488351232) → wharfagelaw22_NetAll.f x0 = some true
theorem wharfagelaw22_NetAll.walkX (P : wharfagelaw22_NetAll.PureX) (w : World) (x0 : List ByteArray) (A0 : Option Addr) (c0 : Nat) (l0 : x0.length ≤ c0) (C0 : Kd.C Kd.string w A0 x0.length x0) (G0 : x0.length ≤ 9223372036854775807 ∧ x0.length * 16 ≤ 140737488351232 ∧ ∀ a ∈ x0, a.size ≤ 140737488351232) :
    Calls Try.prog 6 #[.slice A0 x0.length c0] w fun e w' => e = .returned (.bool true) ∧ Below w.heap.size w w' := by
  have h := P x0 G0
  refine (wharfagelaw22_NetAll.calls _ _ x0 true w C0 l0 h).mono ?_
  rintro e w' ⟨rfl, hd⟩
  exact ⟨rfl, hd⟩
end Go.Proofs.Ytkgjnckkfiepaaa.PNetAll
