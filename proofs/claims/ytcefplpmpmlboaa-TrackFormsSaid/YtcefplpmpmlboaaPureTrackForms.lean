/- Phases and flags that are none are refused. -/
import Derived.Test.YtcefplpmpmlboaaPTrackx9
import Derived.Test.YtcefplpmpmlboaaNumMath
set_option linter.unusedVariables false
set_option linter.unusedSimpArgs false
namespace Go.Proofs.Ytcefplpmpmlboaa.Pure
open Go.RowKit Go.Proofs.Ytcefplpmpmlboaa.PTrack Go.Proofs.YtcefplpmpmlboaaW.PrintWords Go.Proofs.YtcefplpmpmlboaaW.PrintLast Go.Proofs.YtcefplpmpmlboaaW.PrintMore Go.Proofs.Ytcefplpmpmlboaa.NumMath

theorem may_f (a : Int) : track_May.f a = some (decide (0 ≤ a ∧ a ≤ 2)) := by
  unfold track_May.f
  by_cases h : a ≥ 0
  · rw [if_pos h]; congr 1; simp; omega
  · rw [if_neg h]; congr 1; simp; omega
theorem flags_f (a : Int) : track_Flags.f a = some (decide (0 ≤ a ∧ a ≤ 63)) := by
  unfold track_Flags.f ip_In.f
  by_cases h : a ≥ 0
  · rw [if_pos h, if_pos (by omega)]
    simp only [Option.bind_some]
    have e : shr .i64 a 6 = a / 64 := by simp [shr, IntKind.bits]
    rw [e]; congr 1
    rw [Bool.eq_iff_iff]
    simp
    omega
  · rw [if_neg h]; simp only [Option.bind_some]; congr 1; simp; omega
theorem step_p (p f : Int) (h : ¬ (0 ≤ p ∧ p ≤ 2)) : track_Step.f p f = some (0, 1400) := by
  unfold track_Step.f
  rw [may_f, decide_eq_false h]; rfl
theorem step_f (p f : Int) (h : ¬ (0 ≤ f ∧ f ≤ 63)) : track_Step.f p f = some (0, 1400) := by
  unfold track_Step.f
  rw [may_f, flags_f, decide_eq_false h]
  by_cases hp : 0 ≤ p ∧ p ≤ 2
  · rw [decide_eq_true hp]; rfl
  · rw [decide_eq_false hp]; rfl
theorem limit_p (p : Int) (h : ¬ (0 ≤ p ∧ p ≤ 2)) : track_Limit.f p = some (0, 1400) := by
  unfold track_Limit.f
  rw [may_f, decide_eq_false h]; rfl
theorem num_f (a : Int) : wharfagelaw0_Num.f a = some a := rfl
theorem awake_f : wharfagelaw14_awake.f = some true := by decide +kernel
/-- what the step answers, in a table -/
def tab (p f : Int) : Int := match track_Step.f p f with | some (q, _) => q | none => 7
theorem step_tab : ∀ p : Fin 3, ∀ f : Fin 64, track_Step.f (p.val : Int) (f.val : Int) = some (tab p.val f.val, 0) ∧ 0 ≤ tab p.val f.val ∧ tab p.val f.val ≤ 2 ∧
    (¬ Go.bits .and .i64 (f.val : Int) 4 = 0 → tab p.val f.val = 2) ∧
    (Go.bits .and .i64 (f.val : Int) 4 = 0 → ¬ Go.bits .and .i64 (f.val : Int) 2 = 0 → Go.bits .and .i64 (f.val : Int) 16 = 0 → tab p.val f.val = 0) ∧
    (Go.bits .and .i64 (f.val : Int) 4 = 0 → (Go.bits .and .i64 (f.val : Int) 2 = 0 ∨ ¬ Go.bits .and .i64 (f.val : Int) 16 = 0) → ¬ tab p.val f.val < (p.val : Int)) := by decide +kernel
theorem step_in (p f : Int) (h0 : 0 ≤ p) (h1 : p ≤ 2) (h2 : 0 ≤ f) (h3 : f ≤ 63) : track_Step.f p f = some (tab p f, 0) ∧ 0 ≤ tab p f ∧ tab p f ≤ 2 ∧
    (¬ Go.bits .and .i64 f 4 = 0 → tab p f = 2) ∧ (Go.bits .and .i64 f 4 = 0 → ¬ Go.bits .and .i64 f 2 = 0 → Go.bits .and .i64 f 16 = 0 → tab p f = 0) ∧
    (Go.bits .and .i64 f 4 = 0 → (Go.bits .and .i64 f 2 = 0 ∨ ¬ Go.bits .and .i64 f 16 = 0) → ¬ tab p f < p) := by
  obtain ⟨a, rfl⟩ := Int.eq_ofNat_of_zero_le h0
  obtain ⟨b, rfl⟩ := Int.eq_ofNat_of_zero_le h2
  exact step_tab ⟨a, by omega⟩ ⟨b, by omega⟩

theorem TrackForms : wharfagelaw14_TrackForms.Pure := by
  intro a ha
  unfold wharfagelaw14_TrackForms.f
  rw [awake_f, and1023, wrap64_in (1 + a % 1024) (by omega) (by omega), wrap64_in (-(1 + a % 1024)) (by omega) (by omega), wrap64_in (2 + (1 + a % 1024)) (by omega) (by omega), wrap64_in (63 + (1 + a % 1024)) (by omega) (by omega)]
  rw [step_p (-(1 + a % 1024)) 0 (by omega), step_p (2 + (1 + a % 1024)) 0 (by omega), step_f 0 (-(1 + a % 1024)) (by omega), step_f 0 (63 + (1 + a % 1024)) (by omega), limit_p (-(1 + a % 1024)) (by omega), limit_p (2 + (1 + a % 1024)) (by omega)]
  simp [num_f]

end Go.Proofs.Ytcefplpmpmlboaa.Pure
