/- Behind a reset, or two ends, a flow is closed and stays so. -/
import Derived.Test.YtcefplpmpmlboaaPTrackx10
import Derived.Test.YtcefplpmpmlboaaNumMath
set_option linter.unusedVariables false
set_option linter.unusedSimpArgs false
namespace Go.Proofs.Ytcefplpmpmlboaa.Pure
open Go.RowKit Go.Proofs.Ytcefplpmpmlboaa.PTrack Go.Proofs.YtcefplpmpmlboaaW.PrintWords Go.Proofs.YtcefplpmpmlboaaW.PrintLast Go.Proofs.YtcefplpmpmlboaaW.PrintMore Go.Proofs.Ytcefplpmpmlboaa.NumMath

theorem may_f (a : Int) : track_May.f a = some (decide (0 ≤ a ∧ a ≤ 2)) := by
  unfold track_May.f
  by_cases h : a ≥ 0
  · rw [if_pos h]; congr 1; simp; omega
  · rw [if_neg h]; congr 1; simp; omega
theorem flags_f (a : Int) : track_Flags.f a = some (decide (0 ≤ a ∧ a ≤ 63)) := by
  unfold track_Flags.f ip_In.f
  by_cases h : a ≥ 0
  · rw [if_pos h, if_pos (by omega)]
    simp only [Option.bind_some]
    have e : shr .i64 a 6 = a / 64 := by simp [shr, IntKind.bits]
    rw [e]; congr 1
    rw [Bool.eq_iff_iff]
    simp
    omega
  · rw [if_neg h]; simp only [Option.bind_some]; congr 1; simp; omega
theorem step_p (p f : Int) (h : ¬ (0 ≤ p ∧ p ≤ 2)) : track_Step.f p f = some (0, 1400) := by
  unfold track_Step.f
  rw [may_f, decide_eq_false h]; rfl
theorem step_f (p f : Int) (h : ¬ (0 ≤ f ∧ f ≤ 63)) : track_Step.f p f = some (0, 1400) := by
  unfold track_Step.f
  rw [may_f, flags_f, decide_eq_false h]
  by_cases hp : 0 ≤ p ∧ p ≤ 2
  · rw [decide_eq_true hp]; rfl
  · rw [decide_eq_false hp]; rfl
theorem limit_p (p : Int) (h : ¬ (0 ≤ p ∧ p ≤ 2)) : track_Limit.f p = some (0, 1400) := by
  unfold track_Limit.f
  rw [may_f, decide_eq_false h]; rfl
theorem num_f (a : Int) : wharfagelaw0_Num.f a = some a := rfl
theorem awake_f : wharfagelaw14_awake.f = some true := by decide +kernel
/-- what the step answers, in a table -/
def tab (p f : Int) : Int := match track_Step.f p f with | some (q, _) => q | none => 7
theorem step_tab : ∀ p : Fin 3, ∀ f : Fin 64, track_Step.f (p.val : Int) (f.val : Int) = some (tab p.val f.val, 0) ∧ 0 ≤ tab p.val f.val ∧ tab p.val f.val ≤ 2 ∧
    (¬ Go.bits .and .i64 (f.val : Int) 4 = 0 → tab p.val f.val = 2) ∧
    (Go.bits .and .i64 (f.val : Int) 4 = 0 → ¬ Go.bits .and .i64 (f.val : Int) 2 = 0 → Go.bits .and .i64 (f.val : Int) 16 = 0 → tab p.val f.val = 0) ∧
    (Go.bits .and .i64 (f.val : Int) 4 = 0 → (Go.bits .and .i64 (f.val : Int) 2 = 0 ∨ ¬ Go.bits .and .i64 (f.val : Int) 16 = 0) → ¬ tab p.val f.val < (p.val : Int)) := by decide +kernel
theorem step_in (p f : Int) (h0 : 0 ≤ p) (h1 : p ≤ 2) (h2 : 0 ≤ f) (h3 : f ≤ 63) : track_Step.f p f = some (tab p f, 0) ∧ 0 ≤ tab p f ∧ tab p f ≤ 2 ∧
    (¬ Go.bits .and .i64 f 4 = 0 → tab p f = 2) ∧ (Go.bits .and .i64 f 4 = 0 → ¬ Go.bits .and .i64 f 2 = 0 → Go.bits .and .i64 f 16 = 0 → tab p f = 0) ∧
    (Go.bits .and .i64 f 4 = 0 → (Go.bits .and .i64 f 2 = 0 ∨ ¬ Go.bits .and .i64 f 16 = 0) → ¬ tab p f < p) := by
  obtain ⟨a, rfl⟩ := Int.eq_ofNat_of_zero_le h0
  obtain ⟨b, rfl⟩ := Int.eq_ofNat_of_zero_le h2
  exact step_tab ⟨a, by omega⟩ ⟨b, by omega⟩

theorem ends_tab : ∀ f : Fin 64, track_Step.f 2 (Go.bits .or .i64 (f.val : Int) 16) = some (2, 0) := by decide +kernel
theorem ends_step (x : Int) : track_Step.f 2 (Go.bits .or .i64 (Go.bits .and .i64 x 63) 16) = some (2, 0) := by
  rw [and63]
  obtain ⟨a, ha⟩ := Int.eq_ofNat_of_zero_le (show 0 ≤ x % 64 by omega)
  rw [ha]
  exact ends_tab ⟨a, by omega⟩
theorem ends_limit : track_Limit.f 2 = some (6, 0) := by decide +kernel
theorem ends_loop (l : List Int) (d : Nat) : ∀ (k i : Nat), 21 - i ≤ d → d + 2 ≤ k → wharfagelaw14_TrackEnds.l1 k l 2 (i : Int) = some true := by
  induction d with
  | zero =>
    intro k i hd hk
    obtain ⟨k, rfl⟩ : ∃ m, k = m + 1 := ⟨k - 1, by omega⟩
    simp only [wharfagelaw14_TrackEnds.l1]
    rw [if_neg (show ¬ (i : Int) < 20 by omega), ends_limit]
    split <;> rfl
  | succ d ih =>
    intro k i hd hk
    obtain ⟨k, rfl⟩ : ∃ m, k = m + 1 := ⟨k - 1, by omega⟩
    simp only [wharfagelaw14_TrackEnds.l1]
    rw [ends_limit]
    by_cases hlt : (i : Int) < (l.length : Int)
    · rw [if_pos hlt]
      by_cases h20 : (i : Int) < 20
      · rw [if_pos h20, if_pos (by omega), ends_step]
        simp only [Option.bind_some, num_f, if_true]
        rw [wrap64_in _ (by omega) (by omega)]
        exact ih k (i + 1) (by omega) (by omega)
      · rw [if_neg h20]; rfl
    · rw [if_neg hlt]; rfl
theorem ends_0 : track_Step.f 0 4 = some (2, 0) := by decide +kernel
theorem ends_1 : track_Step.f 0 17 = some (1, 0) := by decide +kernel
theorem ends_2 : track_Step.f 1 16 = some (1, 0) := by decide +kernel
theorem ends_3 : track_Step.f 1 1 = some (2, 0) := by decide +kernel
theorem ends_round (k : Nat) (l6 l : List Int) (p q f : Int) (i : Nat) (hi : (i : Int) < (l6.length : Int)) (hf : rd l6 (i : Int) = f) (hb : i < 1000) (hs : track_Step.f p f = some (q, 0)) (h : wharfagelaw14_TrackEnds.l0 k l q l6 ((i + 1 : Nat) : Int) = some true) :
    wharfagelaw14_TrackEnds.l0 (k + 1) l p l6 (i : Int) = some true := by
  simp only [wharfagelaw14_TrackEnds.l0]
  rw [if_pos hi, if_pos (by omega), hf, hs]
  simp only [Option.bind_some, num_f, if_true]
  rw [wrap64_in _ (by omega) (by omega)]
  exact h
theorem ends_out (k : Nat) (l6 l : List Int) (p : Int) (i : Nat) (hi : ¬ (i : Int) < (l6.length : Int)) (h : wharfagelaw14_TrackEnds.l1 k l p 0 = some true) :
    wharfagelaw14_TrackEnds.l0 (k + 1) l p l6 (i : Int) = some true := by
  simp only [wharfagelaw14_TrackEnds.l0]
  rw [if_neg hi]
  exact h
theorem TrackEnds : wharfagelaw14_TrackEnds.Pure := by
  intro b l hm hl hw
  have e := ends_loop l 21 100 0 (by omega) (by omega)
  cases b with
  | true =>
    refine ⟨102, ?_⟩
    unfold wharfagelaw14_TrackEnds.f
    rw [awake_f]
    exact ends_round 101 [4] l 0 2 4 0 (by decide) rfl (by decide) ends_0 (ends_out 100 [4] l 2 1 (by decide) e)
  | false =>
    refine ⟨104, ?_⟩
    unfold wharfagelaw14_TrackEnds.f
    rw [awake_f]
    exact ends_round 103 [17, 16, 1] l 0 1 17 0 (by decide) rfl (by decide) ends_1 (ends_round 102 [17, 16, 1] l 1 1 16 1 (by decide) rfl (by decide) ends_2
      (ends_round 101 [17, 16, 1] l 1 2 1 2 (by decide) rfl (by decide) ends_3 (ends_out 100 [17, 16, 1] l 2 3 (by decide) e)))

end Go.Proofs.Ytcefplpmpmlboaa.Pure
