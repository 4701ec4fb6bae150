/- Steps and limits of phases are the document's. -/
import Derived.Test.YtcefplpmpmlboaaPTrackx6
import Derived.Test.YtcefplpmpmlboaaNumMath
set_option linter.unusedVariables false
set_option linter.unusedSimpArgs false
namespace Go.Proofs.Ytcefplpmpmlboaa.Pure
open Go.RowKit Go.Proofs.Ytcefplpmpmlboaa.PTrack Go.Proofs.YtcefplpmpmlboaaW.PrintWords Go.Proofs.YtcefplpmpmlboaaW.PrintLast Go.Proofs.YtcefplpmpmlboaaW.PrintMore Go.Proofs.Ytcefplpmpmlboaa.NumMath

theorem may_f (a : Int) : track_May.f a = some (decide (0 ≤ a ∧ a ≤ 2)) := by
  unfold track_May.f
  by_cases h : a ≥ 0
  · rw [if_pos h]; congr 1; simp; omega
  · rw [if_neg h]; congr 1; simp; omega
theorem flags_f (a : Int) : track_Flags.f a = some (decide (0 ≤ a ∧ a ≤ 63)) := by
  unfold track_Flags.f ip_In.f
  by_cases h : a ≥ 0
  · rw [if_pos h, if_pos (by omega)]
    simp only [Option.bind_some]
    have e : shr .i64 a 6 = a / 64 := by simp [shr, IntKind.bits]
    rw [e]; congr 1
    rw [Bool.eq_iff_iff]
    simp
    omega
  · rw [if_neg h]; simp only [Option.bind_some]; congr 1; simp; omega
theorem step_p (p f : Int) (h : ¬ (0 ≤ p ∧ p ≤ 2)) : track_Step.f p f = some (0, 1400) := by
  unfold track_Step.f
  rw [may_f, decide_eq_false h]; rfl
theorem step_f (p f : Int) (h : ¬ (0 ≤ f ∧ f ≤ 63)) : track_Step.f p f = some (0, 1400) := by
  unfold track_Step.f
  rw [may_f, flags_f, decide_eq_false h]
  by_cases hp : 0 ≤ p ∧ p ≤ 2
  · rw [decide_eq_true hp]; rfl
  · rw [decide_eq_false hp]; rfl
theorem limit_p (p : Int) (h : ¬ (0 ≤ p ∧ p ≤ 2)) : track_Limit.f p = some (0, 1400) := by
  unfold track_Limit.f
  rw [may_f, decide_eq_false h]; rfl
theorem num_f (a : Int) : wharfagelaw0_Num.f a = some a := rfl
theorem awake_f : wharfagelaw14_awake.f = some true := by decide +kernel
/-- what the step answers, in a table -/
def tab (p f : Int) : Int := match track_Step.f p f with | some (q, _) => q | none => 7
theorem step_tab : ∀ p : Fin 3, ∀ f : Fin 64, track_Step.f (p.val : Int) (f.val : Int) = some (tab p.val f.val, 0) ∧ 0 ≤ tab p.val f.val ∧ tab p.val f.val ≤ 2 ∧
    (¬ Go.bits .and .i64 (f.val : Int) 4 = 0 → tab p.val f.val = 2) ∧
    (Go.bits .and .i64 (f.val : Int) 4 = 0 → ¬ Go.bits .and .i64 (f.val : Int) 2 = 0 → Go.bits .and .i64 (f.val : Int) 16 = 0 → tab p.val f.val = 0) ∧
    (Go.bits .and .i64 (f.val : Int) 4 = 0 → (Go.bits .and .i64 (f.val : Int) 2 = 0 ∨ ¬ Go.bits .and .i64 (f.val : Int) 16 = 0) → ¬ tab p.val f.val < (p.val : Int)) := by decide +kernel
theorem step_in (p f : Int) (h0 : 0 ≤ p) (h1 : p ≤ 2) (h2 : 0 ≤ f) (h3 : f ≤ 63) : track_Step.f p f = some (tab p f, 0) ∧ 0 ≤ tab p f ∧ tab p f ≤ 2 ∧
    (¬ Go.bits .and .i64 f 4 = 0 → tab p f = 2) ∧ (Go.bits .and .i64 f 4 = 0 → ¬ Go.bits .and .i64 f 2 = 0 → Go.bits .and .i64 f 16 = 0 → tab p f = 0) ∧
    (Go.bits .and .i64 f 4 = 0 → (Go.bits .and .i64 f 2 = 0 ∨ ¬ Go.bits .and .i64 f 16 = 0) → ¬ tab p f < p) := by
  obtain ⟨a, rfl⟩ := Int.eq_ofNat_of_zero_le h0
  obtain ⟨b, rfl⟩ := Int.eq_ofNat_of_zero_le h2
  exact step_tab ⟨a, by omega⟩ ⟨b, by omega⟩

theorem tracks_tab : ∀ p : Fin 3, ∀ f : Fin 64, wharfagelaw14_Tracks.f 9 (p.val : Int) (f.val : Int) = some true := by decide +kernel
theorem Tracks : wharfagelaw14_Tracks.Pure := by
  intro p f hp hf
  by_cases h : (0 ≤ p ∧ p ≤ 2) ∧ (0 ≤ f ∧ f ≤ 63)
  · obtain ⟨⟨h0, h1⟩, h2, h3⟩ := h
    obtain ⟨a, rfl⟩ := Int.eq_ofNat_of_zero_le h0
    obtain ⟨b, rfl⟩ := Int.eq_ofNat_of_zero_le h2
    exact ⟨9, tracks_tab ⟨a, by omega⟩ ⟨b, by omega⟩⟩
  · refine ⟨9, ?_⟩
    have e1 : track_Step.f p f = some (0, 1400) := by
      by_cases h1 : 0 ≤ p ∧ p ≤ 2
      · exact step_f p f (fun h2 => h ⟨h1, h2⟩)
      · exact step_p p f h1
    have pm : wharfageref10_phaseMay.f p = track_May.f p := rfl
    have e2 : wharfageref10_StepPhase.f 9 p f = some (0, 1400) := by
      unfold wharfageref10_StepPhase.f
      rw [pm, may_f]
      by_cases h1 : 0 ≤ p ∧ p ≤ 2
      · rw [decide_eq_true h1]
        simp only [Option.bind_some, if_true]
        by_cases h2 : f < 0
        · rw [if_pos h2]; simp [wharfageref10_StepPhase.j0]
        · rw [if_neg h2, decide_eq_true (by omega)]; simp [wharfageref10_StepPhase.j0]
      · rw [decide_eq_false h1]; simp [wharfageref10_StepPhase.j0]
    have e3 : wharfageref10_Limit.f p = track_Limit.f p := rfl
    have e4 : ∃ r, track_Limit.f p = some r := by
      unfold track_Limit.f
      rw [may_f]
      simp only [Option.bind_some]
      split
      · split <;> exact ⟨_, rfl⟩
      · exact ⟨_, rfl⟩
    obtain ⟨r, hr⟩ := e4
    unfold wharfagelaw14_Tracks.f
    rw [e1, e2, e3, hr, awake_f]
    simp [num_f]

end Go.Proofs.Ytcefplpmpmlboaa.Pure
