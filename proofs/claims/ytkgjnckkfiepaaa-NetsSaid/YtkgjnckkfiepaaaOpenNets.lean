/- How the arguments of the law Nets read; its one pure statement; its walk. -/
import Derived.Test.YtkgjnckkfiepaaaPNetsx0
import Derived.Test.YtkgjnckkfiepaaaPNetsx5
import Derived.Test.YtkgjnckkfiepaaaRead
namespace Go.Proofs.Ytkgjnckkfiepaaa.PNets
open Go.RowKit Go.Proofs.YtkgjnckkfiepaaaW.PrintWords Go.Proofs.YtkgjnckkfiepaaaW.PrintLast Go.Proofs.YtkgjnckkfiepaaaW.PrintMore
open Go.Proofs.Ytkgjnckkfiepaaa.Read
set_option linter.unusedVariables false
set_option linter.unusedSimpArgs false
def wharfagelaw22_Nets.PureX : Prop := ∀ (x0 : List ByteArray) (x1 : List Int), (x0.length ≤ 9223372036854775807 ∧ x0.length * 16 ≤ 140737488351232 ∧ ∀ a ∈ x0, a.size ≤ 140737488351232) → (x1.length ≤ 9223372036854775807 ∧ x1.length * 8 ≤ 140737488351232 ∧ ∀ a ∈ x1, (Lit.int .i64 a).wf = true) → wharfagelaw22_Nets.f x0 x1 = some true
theorem wharfagelaw22_Nets.walkX (P : wharfagelaw22_Nets.PureX) (w : World) (x0 : List ByteArray) (A0 : Option Addr) (c0 : Nat) (l0 : x0.length ≤ c0) (C0 : Kd.C Kd.string w A0 x0.length x0) (G0 : x0.length ≤ 9223372036854775807 ∧ x0.length * 16 ≤ 140737488351232 ∧ ∀ a ∈ x0, a.size ≤ 140737488351232) (x1 : List Int) (A1 : Option Addr) (c1 : Nat) (l1 : x1.length ≤ c1) (C1 : Kd.C (Kd.int .i64) w A1 x1.length x1) (G1 : x1.length ≤ 9223372036854775807 ∧ x1.length * 8 ≤ 140737488351232 ∧ ∀ a ∈ x1, (Lit.int .i64 a).wf = true) :
    Calls Try.prog 3 #[.slice A0 x0.length c0, .slice A1 x1.length c1] w fun e w' => e = .returned (.bool true) ∧ Below w.heap.size w w' := by
  have h := P x0 x1 G0 G1
  refine (wharfagelaw22_Nets.calls _ _ x0 _ _ x1 true w C0 l0 C1 l1 h).mono ?_
  rintro e w' ⟨rfl, hd⟩
  exact ⟨rfl, hd⟩
end Go.Proofs.Ytkgjnckkfiepaaa.PNets
