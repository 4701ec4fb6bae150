/- Contracts: what calls of these functions of the program do, each as a plain function; written by a program of this session. -/
import Derived.Test.YtnocfhnandedoaaPReportx0
namespace Go.Proofs.Ytnocfhnandedoaa.PReport
open Go.RowKit Go.Proofs.YtnocfhnandedoaaW.PrintWords Go.Proofs.YtnocfhnandedoaaW.PrintLast Go.Proofs.YtnocfhnandedoaaW.PrintMore
attribute [local go_sem] max2_int min2_int max_two min_two max_three min_three max_four min_four   -- for this text's walks alone
set_option linter.unusedVariables false
set_option linter.unusedSimpArgs false

/-! ### wharfageref1_Newer: function 20 -/
def wharfageref1_Newer.f (a0 : Int) (a1 : Int) : Option (Bool × Int) := if a0 < 0 then (some (false, 700)) else (if a0 ≥ 65536 then (some (false, 700)) else (if a1 < 0 then (some (false, 700)) else (if a1 ≥ 65536 then (some (false, 700)) else (if (Int.tmod (wrap64 ((wrap64 (a0 - a1)) + 65536)) 65536) ≥ 1 then (some (decide ((Int.tmod (wrap64 ((wrap64 (a0 - a1)) + 65536)) 65536) < 32768), 0)) else (some (false, 0))))))
set_option maxHeartbeats 8000000 in
set_option maxRecDepth 100000 in
theorem wharfageref1_Newer.calls (a0 : Int) (a1 : Int) (r1 : Bool) (r2 : Int) (w : World) (h : wharfageref1_Newer.f a0 a1 = some (r1, r2)) :
    Calls Try.prog 20 #[.int .i64 a0, .int .i64 a1] w fun e w' => e = .returned (.tuple #[.bool r1, .int .i64 r2]) ∧ Drawn0 w w' := by
  have H : (if a0 < 0 then (some (false, 700)) else (if a0 ≥ 65536 then (some (false, 700)) else (if a1 < 0 then (some (false, 700)) else (if a1 ≥ 65536 then (some (false, 700)) else (if (Int.tmod (wrap64 ((wrap64 (a0 - a1)) + 65536)) 65536) ≥ 1 then (some (decide ((Int.tmod (wrap64 ((wrap64 (a0 - a1)) + 65536)) 65536) < 32768), 0)) else (some (false, 0))))))) = some (r1, r2) := h
  clear h
  by_cases c3 : a0 < 0
  · rw [if_pos c3] at H
    have c3b0 : decide (a0 < 0) = true := decide_eq_true c3
    clear c3
    simp only [Option.some.injEq, Prod.mk.injEq] at H
    obtain ⟨rfl, rfl⟩ := H
    go_enter Try.func20, Try.ntmps20
    go_wp2
    go_ret2
    exact ⟨by first | rfl | (simp; done) | (simp [*]; done), by repeat (first | exact Drawn0.refl _ | apply Drawn0.step)⟩
  · rw [if_neg c3] at H
    have c3b0 : decide (a0 < 0) = false := decide_eq_false c3
    clear c3
    by_cases c4 : a0 ≥ 65536
    · rw [if_pos c4] at H
      have c4b0 : decide (65536 ≤ a0) = true := decide_eq_true c4
      clear c4
      simp only [Option.some.injEq, Prod.mk.injEq] at H
      obtain ⟨rfl, rfl⟩ := H
      go_enter Try.func20, Try.ntmps20
      go_wp2
      go_ret2
      exact ⟨by first | rfl | (simp; done) | (simp [*]; done), by repeat (first | exact Drawn0.refl _ | apply Drawn0.step)⟩
    · rw [if_neg c4] at H
      have c4b0 : decide (65536 ≤ a0) = false := decide_eq_false c4
      clear c4
      by_cases c5 : a1 < 0
      · rw [if_pos c5] at H
        have c5b0 : decide (a1 < 0) = true := decide_eq_true c5
        clear c5
        simp only [Option.some.injEq, Prod.mk.injEq] at H
        obtain ⟨rfl, rfl⟩ := H
        go_enter Try.func20, Try.ntmps20
        go_wp2
        go_ret2
        exact ⟨by first | rfl | (simp; done) | (simp [*]; done), by repeat (first | exact Drawn0.refl _ | apply Drawn0.step)⟩
      · rw [if_neg c5] at H
        have c5b0 : decide (a1 < 0) = false := decide_eq_false c5
        clear c5
        by_cases c6 : a1 ≥ 65536
        · rw [if_pos c6] at H
          have c6b0 : decide (65536 ≤ a1) = true := decide_eq_true c6
          clear c6
          simp only [Option.some.injEq, Prod.mk.injEq] at H
          obtain ⟨rfl, rfl⟩ := H
          go_enter Try.func20, Try.ntmps20
          go_wp2
          go_ret2
          exact ⟨by first | rfl | (simp; done) | (simp [*]; done), by repeat (first | exact Drawn0.refl _ | apply Drawn0.step)⟩
        · rw [if_neg c6] at H
          have c6b0 : decide (65536 ≤ a1) = false := decide_eq_false c6
          clear c6
          by_cases c7 : (Int.tmod (wrap64 ((wrap64 (a0 - a1)) + 65536)) 65536) ≥ 1
          · rw [if_pos c7] at H
            have c7b0 : decide (1 ≤ (Int.tmod (wrap64 ((wrap64 (a0 - a1)) + 65536)) 65536)) = true := decide_eq_true c7
            clear c7
            simp only [Option.some.injEq, Prod.mk.injEq] at H
            obtain ⟨rfl, rfl⟩ := H
            go_enter Try.func20, Try.ntmps20
            go_wp2
            go_ret2
            exact ⟨by first | rfl | (simp; done) | (simp [*]; done), by repeat (first | exact Drawn0.refl _ | apply Drawn0.step)⟩
          · rw [if_neg c7] at H
            have c7b0 : decide (1 ≤ (Int.tmod (wrap64 ((wrap64 (a0 - a1)) + 65536)) 65536)) = false := decide_eq_false c7
            clear c7
            simp only [Option.some.injEq, Prod.mk.injEq] at H
            obtain ⟨rfl, rfl⟩ := H
            go_enter Try.func20, Try.ntmps20
            go_wp2
            go_ret2
            exact ⟨by first | rfl | (simp; done) | (simp [*]; done), by repeat (first | exact Drawn0.refl _ | apply Drawn0.step)⟩

/-! ### wharfagelaw0_Num: function 21 -/
def wharfagelaw0_Num.f (a0 : Int) : Option (Int) := some a0
set_option maxHeartbeats 8000000 in
set_option maxRecDepth 100000 in
theorem wharfagelaw0_Num.calls (a0 : Int) (r : Int) (w : World) (h : wharfagelaw0_Num.f a0 = some r) :
    Calls Try.prog 21 #[.int .i64 a0] w fun e w' => e = .returned (.int .i64 r) ∧ Drawn0 w w' := by
  have H : (some a0) = some r := h
  clear h
  obtain rfl := Option.some.inj H
  go_enter Try.func21, Try.ntmps21
  go_wp2
  go_ret
  exact ⟨by first | rfl | (simp; done) | (simp [*]; done), by repeat (first | exact Drawn0.refl _ | apply Drawn0.step)⟩

end Go.Proofs.Ytnocfhnandedoaa.PReport
