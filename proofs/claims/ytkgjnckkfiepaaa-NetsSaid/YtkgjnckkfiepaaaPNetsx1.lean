/- Contracts: what calls of these functions of the program do, each as a plain function; written by a program of this session. -/
import Derived.Test.YtkgjnckkfiepaaaPNetsx0
namespace Go.Proofs.Ytkgjnckkfiepaaa.PNets
open Go.RowKit Go.Proofs.YtkgjnckkfiepaaaW.PrintWords Go.Proofs.YtkgjnckkfiepaaaW.PrintLast Go.Proofs.YtkgjnckkfiepaaaW.PrintMore
attribute [local go_sem] max2_int min2_int max_two min_two max_three min_three max_four min_four   -- for this text's walks alone
set_option linter.unusedVariables false
set_option linter.unusedSimpArgs false

-- NOT PRINTED: function 7 (net_New)

/-! ### wharfagelaw0_Num: function 8 -/
def wharfagelaw0_Num.f (a0 : Int) : Option (Int) := some a0
set_option maxHeartbeats 8000000 in
set_option maxRecDepth 100000 in
theorem wharfagelaw0_Num.calls (a0 : Int) (r : Int) (w : World) (h : wharfagelaw0_Num.f a0 = some r) :
    Calls Try.prog 8 #[.int .i64 a0] w fun e w' => e = .returned (.int .i64 r) ∧ Drawn0 w w' := by
  have H : (some a0) = some r := h
  clear h
  obtain rfl := Option.some.inj H
  go_enter Try.func8, Try.ntmps8
  go_wp2
  go_ret
  exact ⟨by first | rfl | (simp; done) | (simp [*]; done), by repeat (first | exact Drawn0.refl _ | apply Drawn0.step)⟩

-- NOT PRINTED: function 19 (net_Net_add)

-- NOT PRINTED: function 9 (net_Net_Send)

-- NOT PRINTED: function 10 (wharfageref19_Net_Send)

-- NOT PRINTED: function 20 (net_Net_has)

-- NOT PRINTED: function 21 (slices_Delete_string_string)

-- NOT PRINTED: function 11 (net_Net_Take)

-- NOT PRINTED: function 12 (wharfageref19_Net_Take)

-- NOT PRINTED: function 13 (net_Net_Copy)

-- NOT PRINTED: function 14 (wharfageref19_Net_Copy)

-- NOT PRINTED: function 22 (slices_Clone_string_string)

-- NOT PRINTED: function 15 (net_Net_All)

end Go.Proofs.Ytkgjnckkfiepaaa.PNets
