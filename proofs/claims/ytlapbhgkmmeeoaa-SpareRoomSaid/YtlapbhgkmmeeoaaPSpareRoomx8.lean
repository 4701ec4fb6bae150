/- Contracts: what calls of these functions of the program do, each as a plain function; written by a program of this session. -/
import Derived.Test.YtlapbhgkmmeeoaaPSpareRoomx0
namespace Go.Proofs.Ytlapbhgkmmeeoaa.PSpareRoom
open Go.RowKit Go.Proofs.YtlapbhgkmmeeoaaW.PrintWords Go.Proofs.YtlapbhgkmmeeoaaW.PrintLast Go.Proofs.YtlapbhgkmmeeoaaW.PrintMore
attribute [local go_sem] max2_int min2_int max_two min_two max_three min_three max_four min_four   -- for this text's walks alone
set_option linter.unusedVariables false
set_option linter.unusedSimpArgs false

/-! ### health_May: function 48, by hand -/
def healthOk (up : Bool) (n : Int) : Bool := decide (0 ≤ n ∧ n < 3)
def health_May.f (a0_0 : Bool) (a0_1 : Int) : Option Bool := some (healthOk a0_0 a0_1)
set_option maxHeartbeats 4000000 in
set_option maxRecDepth 100000 in
theorem health_May.turns (g : Nat) (b : Bool) (w : World) (h0 : w.cell? ⟨g, 0, none⟩ = some (.bool b)) : Calls Try.prog 55 #[.pointer (some ⟨g, 0, none⟩)] w fun e w' => e = .returned (.int .i64 3) ∧ w = w' := by
  cases b
  all_goals
    go_enter Try.func55, Try.ntmps55
    go_wp2
    go_ret
    exact ⟨rfl, rfl⟩
set_option maxHeartbeats 4000000 in
set_option maxRecDepth 100000 in
theorem health_May.calls (a0_0 : Bool) (a0_1 : Int) (r : Bool) (w : World) (h : health_May.f a0_0 a0_1 = some r) :
    Calls Try.prog 48 #[.agg #[.bool a0_0, .int .i64 a0_1]] w fun e w' => e = .returned (.bool r) ∧ Below w.heap.size w w' := by
  obtain rfl := Option.some.inj h
  clear h
  by_cases h0 : 0 ≤ a0_1
  · have e : healthOk a0_0 a0_1 = decide (a0_1 < 3) := by simp [healthOk, h0]
    rw [e]
    clear e
    go_enter Try.func48, Try.ntmps48
    go_wp2
    go_quiet (first | (go_at_call 55; refine Calls.quiet_of_same ((health_May.turns _ a0_0 _ (by simp)).mono (fun _ _ hx => ⟨hx.1, hx.2.symm⟩))))
    go_wp2
    go_ret
    exact ⟨rfl, pw_below_drewN ((Below.refl _ _).alloc (Nat.le_refl _) _) _⟩
  · have e : healthOk a0_0 a0_1 = false := by simp [healthOk, h0]
    rw [e]
    clear e
    go_enter Try.func48, Try.ntmps48
    go_wp2
    have h1 : (decide (0 ≤ a0_1)) = false := decide_eq_false (by omega)
    go_quiet (first | fail)
    go_wp2
    go_ret
    exact ⟨rfl, pw_below_drewN ((Below.refl _ _).alloc (Nat.le_refl _) _) _⟩


end Go.Proofs.Ytlapbhgkmmeeoaa.PSpareRoom
