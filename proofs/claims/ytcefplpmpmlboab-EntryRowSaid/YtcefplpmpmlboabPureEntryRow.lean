/- An entry that is used at each of its times never ran out ahead of its limit. -/
import Derived.Test.YtcefplpmpmlboabPEntryx20
import Derived.Test.YtcefplpmpmlboabNumMath
set_option linter.unusedVariables false
set_option linter.unusedSimpArgs false
namespace Go.Proofs.Ytcefplpmpmlboab.Pure
open Go.RowKit Go.Proofs.Ytcefplpmpmlboab.PEntry Go.Proofs.YtcefplpmpmlboabW.PrintWords Go.Proofs.YtcefplpmpmlboabW.PrintLast Go.Proofs.YtcefplpmpmlboabW.PrintMore Go.Proofs.Ytcefplpmpmlboab.NumMath

def Fm (a b c d e : Int) : Prop := (0 ≤ a ∧ a < 4294967296) ∧ (0 ≤ b ∧ b < 4294967296) ∧ (c = 6 ∨ c = 17) ∧ (0 ≤ d ∧ d < 65536) ∧ (0 ≤ e ∧ e < 65536)
instance (a b c d e : Int) : Decidable (Fm a b c d e) := by unfold Fm; infer_instance
def Em (a b c d e t p u : Int) : Prop := Fm a b c d e ∧ (0 ≤ t ∧ t < 256) ∧ (0 ≤ p ∧ p ≤ 2) ∧ (0 ≤ u ∧ u ≤ 1048576)
instance (a b c d e t p u : Int) : Decidable (Em a b c d e t p u) := by unfold Em; infer_instance
theorem in_any (x : Int) (b n : Nat) (hb : b ≤ 64) (hn : 2 ^ b = n) : ip_In.f x (b : Int) = some (decide (0 ≤ x ∧ x < (n : Int))) := by
  unfold ip_In.f
  by_cases h : x ≥ 0
  · rw [if_pos h, if_pos (by omega)]
    have hn0 : 0 < n := by rw [← hn]; exact Nat.two_pow_pos b
    have e : shr .i64 x (b : Int) = x / (n : Int) := by
      unfold shr
      rw [Int.toNat_natCast, Nat.min_eq_left (by simpa [IntKind.bits] using hb), ← hn]
      simp
    rw [e]; congr 1
    rw [Bool.eq_iff_iff]
    simp only [beq_iff_eq, decide_eq_true_eq]
    constructor
    · intro hz
      refine ⟨h, ?_⟩
      have := Int.lt_ediv_add_one_mul_self x (show (0 : Int) < n by omega)
      rw [hz] at this
      omega
    · rintro ⟨_, hlt⟩
      exact Int.ediv_eq_zero_of_lt h hlt
  · rw [if_neg h]; congr 1; simp; omega
theorem in32 (x : Int) : ip_In.f x 32 = some (decide (0 ≤ x ∧ x < 4294967296)) := in_any x 32 4294967296 (by decide) (by decide)
theorem in16 (x : Int) : ip_In.f x 16 = some (decide (0 ≤ x ∧ x < 65536)) := in_any x 16 65536 (by decide) (by decide)
theorem in8 (x : Int) : ip_In.f x 8 = some (decide (0 ≤ x ∧ x < 256)) := in_any x 8 256 (by decide) (by decide)
theorem in6 (x : Int) : ip_In.f x 6 = some (decide (0 ≤ x ∧ x < 64)) := in_any x 6 64 (by decide) (by decide)
theorem handled_f (c : Int) : flow_handled.f c = some (decide (c = 6 ∨ c = 17)) := by
  unfold flow_handled.f
  by_cases h : c = 6
  · simp [h]
  · rw [if_neg h]; simp [h]
    rfl
theorem flowMay_f (a b c d e : Int) : flow_May.f a b c d e = some (decide (Fm a b c d e)) := by
  unfold flow_May.f
  rw [in32, in32, in16, in16, handled_f]
  simp only [Option.bind_some]
  by_cases h1 : 0 ≤ a ∧ a < 4294967296 <;> by_cases h2 : 0 ≤ b ∧ b < 4294967296 <;> by_cases h3 : c = 6 ∨ c = 17 <;> by_cases h4 : 0 ≤ d ∧ d < 65536 <;> by_cases h5 : 0 ≤ e ∧ e < 65536 <;> simp [Fm, h1, h2, h3, h4, h5]
theorem to_f (x m : Int) : conf_to.f x m = some (decide (0 ≤ x ∧ x ≤ m)) := by
  unfold conf_to.f
  by_cases h : x ≥ 0
  · rw [if_pos h]; congr 1; simp; omega
  · rw [if_neg h]; congr 1; simp; omega
theorem time_f (x : Int) : conf_Time.f x = some (decide (0 ≤ x ∧ x ≤ 1048576)) := by
  unfold conf_Time.f
  rw [to_f]; rfl
theorem may_f (a : Int) : track_May.f a = some (decide (0 ≤ a ∧ a ≤ 2)) := by
  unfold track_May.f
  by_cases h : a ≥ 0
  · rw [if_pos h]; congr 1; simp; omega
  · rw [if_neg h]; congr 1; simp; omega
theorem flags_f (a : Int) : track_Flags.f a = some (decide (0 ≤ a ∧ a < 64)) := by
  unfold track_Flags.f
  rw [in6]; rfl
theorem entryMay_f (a b c d e t : Int) (z : Bool) (p u : Int) : entry_May.f a b c d e t z p u = some (decide (Em a b c d e t p u)) := by
  unfold entry_May.f
  rw [flowMay_f, in8, may_f, time_f]
  simp only [Option.bind_some]
  by_cases h1 : Fm a b c d e <;> by_cases h2 : 0 ≤ t ∧ t < 256 <;> by_cases h3 : 0 ≤ p ∧ p ≤ 2 <;> by_cases h4 : 0 ≤ u ∧ u ≤ 1048576 <;> simp [Em, h1, h2, h3, h4]
theorem num_f (a : Int) : wharfagelaw0_Num.f a = some a := rfl
def tab (p f : Int) : Int := match track_Step.f p f with | some (q, _) => q | none => 7
theorem step_tab : ∀ p : Fin 3, ∀ f : Fin 64, track_Step.f (p.val : Int) (f.val : Int) = some (tab p.val f.val, 0) ∧ 0 ≤ tab p.val f.val ∧ tab p.val f.val ≤ 2 := by decide +kernel
theorem step_in (p f : Int) (h0 : 0 ≤ p ∧ p ≤ 2) (h1 : 0 ≤ f ∧ f < 64) : track_Step.f p f = some (tab p f, 0) ∧ 0 ≤ tab p f ∧ tab p f ≤ 2 := by
  obtain ⟨a, rfl⟩ := Int.eq_ofNat_of_zero_le h0.1
  obtain ⟨b, rfl⟩ := Int.eq_ofNat_of_zero_le h1.1
  exact step_tab ⟨a, by omega⟩ ⟨b, by omega⟩
theorem step_out (p f : Int) (h : ¬ ((0 ≤ p ∧ p ≤ 2) ∧ (0 ≤ f ∧ f < 64))) : track_Step.f p f = some (0, 1400) := by
  unfold track_Step.f
  rw [may_f, flags_f]
  by_cases h1 : 0 ≤ p ∧ p ≤ 2
  · have h2 : ¬ (0 ≤ f ∧ f < 64) := fun h2 => h ⟨h1, h2⟩
    rw [decide_eq_true h1, decide_eq_false h2]; rfl
  · rw [decide_eq_false h1]; rfl
theorem use_in (k : Nat) (a b c d e t : Int) (z : Bool) (p u fl now : Int) (hm : Em a b c d e t p u) (hf : 0 ≤ fl ∧ fl < 64) (hn : 0 ≤ now ∧ now ≤ 1048576) :
    entry_Use.f (k + 1) a b c d e t z p u fl now = some (a, b, c, d, e, t, z, (if c = 6 then tab p fl else p), now, 0) := by
  unfold entry_Use.f
  rw [(step_in p fl hm.2.2.1 hf).1, entryMay_f, time_f, decide_eq_true hm, decide_eq_true hn]
  simp only [Option.bind_some, if_true, entry_Use.j0, Bool.not_true, Bool.false_eq_true, if_false]
  split <;> rfl
theorem use_out (k : Nat) (a b c d e t : Int) (z : Bool) (p u fl now : Int) (h : ¬ (Em a b c d e t p u ∧ (0 ≤ fl ∧ fl < 64) ∧ (0 ≤ now ∧ now ≤ 1048576))) :
    entry_Use.f (k + 1) a b c d e t z p u fl now = some (0, 0, 0, 0, 0, 0, false, 0, 0, 1500) := by
  unfold entry_Use.f
  rw [entryMay_f, time_f]
  by_cases hs : (0 ≤ p ∧ p ≤ 2) ∧ (0 ≤ fl ∧ fl < 64)
  · rw [(step_in p fl hs.1 hs.2).1]
    by_cases hm : Em a b c d e t p u
    · have hn : ¬ (0 ≤ now ∧ now ≤ 1048576) := fun hn => h ⟨hm, hs.2, hn⟩
      rw [decide_eq_true hm, decide_eq_false hn]
      simp [entry_Use.j0]
    · rw [decide_eq_false hm]
      simp [entry_Use.j0]
  · rw [step_out p fl hs]
    simp [entry_Use.j0]
def lim (p : Int) : Int := if p = 0 then 40 else 6
theorem ran_in (a b c d e t : Int) (z : Bool) (p u now : Int) (hm : Em a b c d e t p u) : entry_Ran.f a b c d e t z p u now = some (decide (u + lim p ≤ now)) := by
  unfold entry_Ran.f track_Limit.f
  have hu := hm.2.2.2
  rw [may_f, entryMay_f, decide_eq_true hm, decide_eq_true hm.2.2.1]
  simp only [Option.bind_some, if_true]
  by_cases h : p = 0
  · rw [if_pos h]
    simp only [Option.bind_some]
    rw [wrap64_in _ (by omega) (by omega)]
    simp [lim, h]
  · rw [if_neg h]
    simp only [Option.bind_some]
    rw [wrap64_in _ (by omega) (by omega)]
    simp [lim, h]
theorem ran_out (a b c d e t : Int) (z : Bool) (p u now : Int) (hm : ¬ Em a b c d e t p u) : entry_Ran.f a b c d e t z p u now = some true := by
  unfold entry_Ran.f track_Limit.f
  rw [may_f, entryMay_f, decide_eq_false hm]
  by_cases hp : 0 ≤ p ∧ p ≤ 2
  · rw [decide_eq_true hp]
    simp only [Option.bind_some, if_true]
    split <;> rfl
  · rw [decide_eq_false hp]; rfl
theorem awake_f (k : Nat) : wharfagelaw15_awake.f (k + 1) = some true := by
  unfold wharfagelaw15_awake.f wharfagelaw15_flow.f
  have m0 : ¬ Em 0 0 0 0 0 0 0 0 := by decide
  have m1 : Em 1 167772161 6 7 80 2 0 5 := by decide
  have m2 : Em 1 167772161 6 7 80 2 1 9 := by decide
  have t1 : tab 0 1 = 1 := by decide +kernel
  simp only [Option.bind_some]
  rw [use_in k 1 167772161 6 7 80 2 false 0 5 1 9 m1 (by decide) (by decide), use_out k 0 0 0 0 0 0 false 0 0 0 0 (fun h => m0 h.1), if_pos rfl, t1]
  simp only [Option.bind_some]
  rw [entryMay_f, decide_eq_true m1, ran_in _ _ _ _ _ _ _ _ _ _ m1, ran_in _ _ _ _ _ _ _ _ _ _ m1, ran_in _ _ _ _ _ _ _ _ _ _ m2, ran_out _ _ _ _ _ _ _ _ _ _ m0]
  simp [num_f, lim]

theorem row_loop (l0 l1 : List Int) (n : Nat) : ∀ (k i : Nat) (p u : Int) (z : Bool), 31 - i ≤ n → n + 2 ≤ k → 0 ≤ u → u ≤ i * 63 → i ≤ 30 → (0 ≤ p ∧ p ≤ 2) →
    wharfagelaw15_EntryRow.l0 k l0 l1 u (i : Int) 3 167772161 6 7 80 2 z p u = some true := by
  induction n with
  | zero =>
    intro k i p u z hn hk h0 h1 hi hp
    exfalso; omega
  | succ n ih =>
    intro k i p u z hn hk h0 h1 hi hp
    obtain ⟨k, rfl⟩ : ∃ m, k = m + 2 := ⟨k - 2, by omega⟩
    simp only [wharfagelaw15_EntryRow.l0]
    by_cases hlt : (i : Int) < (l0.length : Int)
    · rw [if_pos hlt]
      by_cases h30 : (i : Int) < 30
      · rw [if_pos h30, if_pos (show (0 : Int) ≤ (i : Int) by omega), and63, and63]
        have hd : 0 ≤ rd l0 (i : Int) % 64 ∧ rd l0 (i : Int) % 64 < 64 := by omega
        have hf1 : 0 ≤ rd l1 (i : Int) % 64 ∧ rd l1 (i : Int) % 64 < 64 := by omega
        generalize rd l0 (i : Int) % 64 = d at *
        generalize rd l1 (i : Int) % 64 = f at *
        have hm : Em 3 167772161 6 7 80 2 p u := by unfold Em Fm; omega
        have step : ∀ (g : Int), 0 ≤ g ∧ g < 64 → ∀ L, L = lim p → ((entry_Ran.f 3 167772161 6 7 80 2 z p u (wrap64 (u + d))).bind fun t324 => (if (t324 != (decide (d ≥ L))) = true then (none) else ((entry_Use.f (k + 1) 3 167772161 6 7 80 2 z p u g (wrap64 (u + d))).bind fun bt325 => ((wharfagelaw0_Num.f bt325.2.2.2.2.2.2.2.2.2).bind fun t336 => (if t336 = 0 then (if bt325.2.2.2.2.2.1 = 2 then (if bt325.2.2.2.2.2.2.2.2.1 = (wrap64 (u + d)) then (if (!(bt325.1 == 3) || (!(bt325.2.1 == 167772161) || (!(bt325.2.2.1 == 6) || (!(bt325.2.2.2.1 == 7) || (!(bt325.2.2.2.2.1 == 80)))))) = true then (none) else (wharfagelaw15_EntryRow.l0 (k + 1) l0 l1 (wrap64 (u + d)) (wrap64 ((i : Int) + 1)) bt325.1 bt325.2.1 bt325.2.2.1 bt325.2.2.2.1 bt325.2.2.2.2.1 bt325.2.2.2.2.2.1 bt325.2.2.2.2.2.2.1 bt325.2.2.2.2.2.2.2.1 bt325.2.2.2.2.2.2.2.2.1)) else (none)) else (none)) else (none)))))) = some true := by
          intro g hg L hL
          have hq := (step_in p g hp hg).2
          rw [wrap64_in (u + d) (by omega) (by omega), wrap64_in ((i : Int) + 1) (by omega) (by omega), ran_in _ _ _ _ _ _ _ _ _ _ hm]
          have e1 : (decide (u + lim p ≤ u + d) != decide (d ≥ L)) = false := by
            rw [hL]
            have : decide (u + lim p ≤ u + d) = decide (d ≥ lim p) := by congr 1; rw [eq_iff_iff]; omega
            rw [this]; simp
          simp only [Option.bind_some]
          rw [e1, use_in k _ _ _ _ _ _ _ _ _ _ _ hm hg (by omega)]
          simp only [Bool.false_eq_true, if_false, Option.bind_some, num_f, if_true, beq_self_eq_true, Bool.not_true, Bool.or_self]
          exact ih (k + 1) (i + 1) (tab p g) (u + d) z (by omega) (by omega) (by omega) (by omega) (by omega) hq
        by_cases h1l : (i : Int) < (l1.length : Int)
        · rw [if_pos h1l]
          by_cases hp0 : p = 0
          · rw [if_pos hp0]; exact step f hf1 40 (by simp [lim, hp0])
          · rw [if_neg hp0]; exact step f hf1 6 (by simp [lim, hp0])
        · rw [if_neg h1l]
          by_cases hp0 : p = 0
          · rw [if_pos hp0]; exact step 0 (by omega) 40 (by simp [lim, hp0])
          · rw [if_neg hp0]; exact step 0 (by omega) 6 (by simp [lim, hp0])
      · rw [if_neg h30]
    · rw [if_neg hlt]
theorem EntryRow : wharfagelaw15_EntryRow.Pure := by
  intro l0 l1 _ _ _ _ _ _
  refine ⟨50, ?_⟩
  unfold wharfagelaw15_EntryRow.f wharfagelaw15_flow.f
  rw [awake_f 49]
  exact row_loop l0 l1 31 50 0 0 0 false (by omega) (by omega) (by omega) (by omega) (by omega) (by omega)

end Go.Proofs.Ytcefplpmpmlboab.Pure
