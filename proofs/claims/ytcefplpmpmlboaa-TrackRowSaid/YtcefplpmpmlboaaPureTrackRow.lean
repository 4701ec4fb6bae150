/- A flow that closed is open again only by a new beginning. -/
import Derived.Test.YtcefplpmpmlboaaPTrackx8
import Derived.Test.YtcefplpmpmlboaaNumMath
set_option linter.unusedVariables false
set_option linter.unusedSimpArgs false
namespace Go.Proofs.Ytcefplpmpmlboaa.Pure
open Go.RowKit Go.Proofs.Ytcefplpmpmlboaa.PTrack Go.Proofs.YtcefplpmpmlboaaW.PrintWords Go.Proofs.YtcefplpmpmlboaaW.PrintLast Go.Proofs.YtcefplpmpmlboaaW.PrintMore Go.Proofs.Ytcefplpmpmlboaa.NumMath

theorem may_f (a : Int) : track_May.f a = some (decide (0 ≤ a ∧ a ≤ 2)) := by
  unfold track_May.f
  by_cases h : a ≥ 0
  · rw [if_pos h]; congr 1; simp; omega
  · rw [if_neg h]; congr 1; simp; omega
theorem flags_f (a : Int) : track_Flags.f a = some (decide (0 ≤ a ∧ a ≤ 63)) := by
  unfold track_Flags.f ip_In.f
  by_cases h : a ≥ 0
  · rw [if_pos h, if_pos (by omega)]
    simp only [Option.bind_some]
    have e : shr .i64 a 6 = a / 64 := by simp [shr, IntKind.bits]
    rw [e]; congr 1
    rw [Bool.eq_iff_iff]
    simp
    omega
  · rw [if_neg h]; simp only [Option.bind_some]; congr 1; simp; omega
theorem step_p (p f : Int) (h : ¬ (0 ≤ p ∧ p ≤ 2)) : track_Step.f p f = some (0, 1400) := by
  unfold track_Step.f
  rw [may_f, decide_eq_false h]; rfl
theorem step_f (p f : Int) (h : ¬ (0 ≤ f ∧ f ≤ 63)) : track_Step.f p f = some (0, 1400) := by
  unfold track_Step.f
  rw [may_f, flags_f, decide_eq_false h]
  by_cases hp : 0 ≤ p ∧ p ≤ 2
  · rw [decide_eq_true hp]; rfl
  · rw [decide_eq_false hp]; rfl
theorem limit_p (p : Int) (h : ¬ (0 ≤ p ∧ p ≤ 2)) : track_Limit.f p = some (0, 1400) := by
  unfold track_Limit.f
  rw [may_f, decide_eq_false h]; rfl
theorem num_f (a : Int) : wharfagelaw0_Num.f a = some a := rfl
theorem awake_f : wharfagelaw14_awake.f = some true := by decide +kernel
/-- what the step answers, in a table -/
def tab (p f : Int) : Int := match track_Step.f p f with | some (q, _) => q | none => 7
theorem step_tab : ∀ p : Fin 3, ∀ f : Fin 64, track_Step.f (p.val : Int) (f.val : Int) = some (tab p.val f.val, 0) ∧ 0 ≤ tab p.val f.val ∧ tab p.val f.val ≤ 2 ∧
    (¬ Go.bits .and .i64 (f.val : Int) 4 = 0 → tab p.val f.val = 2) ∧
    (Go.bits .and .i64 (f.val : Int) 4 = 0 → ¬ Go.bits .and .i64 (f.val : Int) 2 = 0 → Go.bits .and .i64 (f.val : Int) 16 = 0 → tab p.val f.val = 0) ∧
    (Go.bits .and .i64 (f.val : Int) 4 = 0 → (Go.bits .and .i64 (f.val : Int) 2 = 0 ∨ ¬ Go.bits .and .i64 (f.val : Int) 16 = 0) → ¬ tab p.val f.val < (p.val : Int)) := by decide +kernel
theorem step_in (p f : Int) (h0 : 0 ≤ p) (h1 : p ≤ 2) (h2 : 0 ≤ f) (h3 : f ≤ 63) : track_Step.f p f = some (tab p f, 0) ∧ 0 ≤ tab p f ∧ tab p f ≤ 2 ∧
    (¬ Go.bits .and .i64 f 4 = 0 → tab p f = 2) ∧ (Go.bits .and .i64 f 4 = 0 → ¬ Go.bits .and .i64 f 2 = 0 → Go.bits .and .i64 f 16 = 0 → tab p f = 0) ∧
    (Go.bits .and .i64 f 4 = 0 → (Go.bits .and .i64 f 2 = 0 ∨ ¬ Go.bits .and .i64 f 16 = 0) → ¬ tab p f < p) := by
  obtain ⟨a, rfl⟩ := Int.eq_ofNat_of_zero_le h0
  obtain ⟨b, rfl⟩ := Int.eq_ofNat_of_zero_le h2
  exact step_tab ⟨a, by omega⟩ ⟨b, by omega⟩

theorem row_loop (l : List Int) (hl : l.length * 8 ≤ 140737488351232) (d : Nat) : ∀ (k i : Nat) (p : Int), 41 - i ≤ d → 0 ≤ p → p ≤ 2 → d + 2 ≤ k → wharfagelaw14_TrackRow.l0 k l p (i : Int) = some true := by
  induction d with
  | zero =>
    intro k i p hd h0 h1 hk
    obtain ⟨k, rfl⟩ : ∃ m, k = m + 1 := ⟨k - 1, by omega⟩
    simp only [wharfagelaw14_TrackRow.l0]
    rw [if_neg (show ¬ (i : Int) < 40 by omega)]
    split <;> rfl
  | succ d ih =>
    intro k i p hd h0 h1 hk
    obtain ⟨k, rfl⟩ : ∃ m, k = m + 1 := ⟨k - 1, by omega⟩
    simp only [wharfagelaw14_TrackRow.l0]
    by_cases hlt : (i : Int) < (l.length : Int)
    · rw [if_pos hlt]
      by_cases h40 : (i : Int) < 40
      · rw [if_pos h40, if_pos (by omega), and63]
        generalize hf : rd l (i : Int) % 64 = f
        have f0 : 0 ≤ f := by omega
        have f1 : f ≤ 63 := by omega
        obtain ⟨hs, q0, q1, c1, c2, c3⟩ := step_in p f h0 h1 f0 f1
        rw [hs]
        simp only [Option.bind_some, num_f, if_true]
        have hn : wharfagelaw14_TrackRow.l0 k l (tab p f) (wrap64 ((i : Int) + 1)) = some true := by
          rw [wrap64_in _ (by omega) (by omega)]
          exact ih k (i + 1) _ (by omega) q0 q1 (by omega)
        rw [if_neg (by omega), if_neg (by omega)]
        by_cases b4 : Go.bits .and .i64 f 4 = 0
        · rw [if_pos b4]
          by_cases b2 : Go.bits .and .i64 f 2 = 0
          · rw [if_pos b2, if_neg (c3 b4 (.inl b2))]; exact hn
          · rw [if_neg b2]
            by_cases b16 : Go.bits .and .i64 f 16 = 0
            · have e0 := c2 b4 b2 b16
              simp only [b16, if_true, e0] at hn ⊢
              split <;> exact hn
            · rw [if_neg (c3 b4 (.inr b16)), if_neg b16]; exact hn
        · have e2 := c1 b4
          rw [if_neg b4, if_neg (by omega), if_pos e2]; exact hn
      · rw [if_neg h40]
    · rw [if_neg hlt]
theorem TrackRow : wharfagelaw14_TrackRow.Pure := by
  intro l hm hl hw
  refine ⟨200, ?_⟩
  unfold wharfagelaw14_TrackRow.f
  rw [awake_f]
  exact row_loop l hl 41 200 0 0 (by omega) (by omega) (by omega) (by omega)

end Go.Proofs.Ytcefplpmpmlboaa.Pure
