/- What ran out at a time ran out at each later one. -/
import Derived.Test.YtcefplpmpmlboabPEntryx19
import Derived.Test.YtcefplpmpmlboabOpenEntryOnce
import Derived.Test.YtcefplpmpmlboabNumMath
set_option linter.unusedVariables false
set_option linter.unusedSimpArgs false
namespace Go.Proofs.Ytcefplpmpmlboab.Pure
open Go.RowKit Go.Proofs.Ytcefplpmpmlboab.PEntry Go.Proofs.YtcefplpmpmlboabW.PrintWords Go.Proofs.YtcefplpmpmlboabW.PrintLast Go.Proofs.YtcefplpmpmlboabW.PrintMore Go.Proofs.Ytcefplpmpmlboab.NumMath

def Fm (a b c d e : Int) : Prop := (0 ≤ a ∧ a < 4294967296) ∧ (0 ≤ b ∧ b < 4294967296) ∧ (c = 6 ∨ c = 17) ∧ (0 ≤ d ∧ d < 65536) ∧ (0 ≤ e ∧ e < 65536)
instance (a b c d e : Int) : Decidable (Fm a b c d e) := by unfold Fm; infer_instance
def Em (a b c d e t p u : Int) : Prop := Fm a b c d e ∧ (0 ≤ t ∧ t < 256) ∧ (0 ≤ p ∧ p ≤ 2) ∧ (0 ≤ u ∧ u ≤ 1048576)
instance (a b c d e t p u : Int) : Decidable (Em a b c d e t p u) := by unfold Em; infer_instance
theorem in_any (x : Int) (b n : Nat) (hb : b ≤ 64) (hn : 2 ^ b = n) : ip_In.f x (b : Int) = some (decide (0 ≤ x ∧ x < (n : Int))) := by
  unfold ip_In.f
  by_cases h : x ≥ 0
  · rw [if_pos h, if_pos (by omega)]
    have hn0 : 0 < n := by rw [← hn]; exact Nat.two_pow_pos b
    have e : shr .i64 x (b : Int) = x / (n : Int) := by
      unfold shr
      rw [Int.toNat_natCast, Nat.min_eq_left (by simpa [IntKind.bits] using hb), ← hn]
      simp
    rw [e]; congr 1
    rw [Bool.eq_iff_iff]
    simp only [beq_iff_eq, decide_eq_true_eq]
    constructor
    · intro hz
      refine ⟨h, ?_⟩
      have := Int.lt_ediv_add_one_mul_self x (show (0 : Int) < n by omega)
      rw [hz] at this
      omega
    · rintro ⟨_, hlt⟩
      exact Int.ediv_eq_zero_of_lt h hlt
  · rw [if_neg h]; congr 1; simp; omega
theorem in32 (x : Int) : ip_In.f x 32 = some (decide (0 ≤ x ∧ x < 4294967296)) := in_any x 32 4294967296 (by decide) (by decide)
theorem in16 (x : Int) : ip_In.f x 16 = some (decide (0 ≤ x ∧ x < 65536)) := in_any x 16 65536 (by decide) (by decide)
theorem in8 (x : Int) : ip_In.f x 8 = some (decide (0 ≤ x ∧ x < 256)) := in_any x 8 256 (by decide) (by decide)
theorem in6 (x : Int) : ip_In.f x 6 = some (decide (0 ≤ x ∧ x < 64)) := in_any x 6 64 (by decide) (by decide)
theorem handled_f (c : Int) : flow_handled.f c = some (decide (c = 6 ∨ c = 17)) := by
  unfold flow_handled.f
  by_cases h : c = 6
  · simp [h]
  · rw [if_neg h]; simp [h]
    rfl
theorem flowMay_f (a b c d e : Int) : flow_May.f a b c d e = some (decide (Fm a b c d e)) := by
  unfold flow_May.f
  rw [in32, in32, in16, in16, handled_f]
  simp only [Option.bind_some]
  by_cases h1 : 0 ≤ a ∧ a < 4294967296 <;> by_cases h2 : 0 ≤ b ∧ b < 4294967296 <;> by_cases h3 : c = 6 ∨ c = 17 <;> by_cases h4 : 0 ≤ d ∧ d < 65536 <;> by_cases h5 : 0 ≤ e ∧ e < 65536 <;> simp [Fm, h1, h2, h3, h4, h5]
theorem to_f (x m : Int) : conf_to.f x m = some (decide (0 ≤ x ∧ x ≤ m)) := by
  unfold conf_to.f
  by_cases h : x ≥ 0
  · rw [if_pos h]; congr 1; simp; omega
  · rw [if_neg h]; congr 1; simp; omega
theorem time_f (x : Int) : conf_Time.f x = some (decide (0 ≤ x ∧ x ≤ 1048576)) := by
  unfold conf_Time.f
  rw [to_f]; rfl
theorem may_f (a : Int) : track_May.f a = some (decide (0 ≤ a ∧ a ≤ 2)) := by
  unfold track_May.f
  by_cases h : a ≥ 0
  · rw [if_pos h]; congr 1; simp; omega
  · rw [if_neg h]; congr 1; simp; omega
theorem flags_f (a : Int) : track_Flags.f a = some (decide (0 ≤ a ∧ a < 64)) := by
  unfold track_Flags.f
  rw [in6]; rfl
theorem entryMay_f (a b c d e t : Int) (z : Bool) (p u : Int) : entry_May.f a b c d e t z p u = some (decide (Em a b c d e t p u)) := by
  unfold entry_May.f
  rw [flowMay_f, in8, may_f, time_f]
  simp only [Option.bind_some]
  by_cases h1 : Fm a b c d e <;> by_cases h2 : 0 ≤ t ∧ t < 256 <;> by_cases h3 : 0 ≤ p ∧ p ≤ 2 <;> by_cases h4 : 0 ≤ u ∧ u ≤ 1048576 <;> simp [Em, h1, h2, h3, h4]
theorem num_f (a : Int) : wharfagelaw0_Num.f a = some a := rfl
def tab (p f : Int) : Int := match track_Step.f p f with | some (q, _) => q | none => 7
theorem step_tab : ∀ p : Fin 3, ∀ f : Fin 64, track_Step.f (p.val : Int) (f.val : Int) = some (tab p.val f.val, 0) ∧ 0 ≤ tab p.val f.val ∧ tab p.val f.val ≤ 2 := by decide +kernel
theorem step_in (p f : Int) (h0 : 0 ≤ p ∧ p ≤ 2) (h1 : 0 ≤ f ∧ f < 64) : track_Step.f p f = some (tab p f, 0) ∧ 0 ≤ tab p f ∧ tab p f ≤ 2 := by
  obtain ⟨a, rfl⟩ := Int.eq_ofNat_of_zero_le h0.1
  obtain ⟨b, rfl⟩ := Int.eq_ofNat_of_zero_le h1.1
  exact step_tab ⟨a, by omega⟩ ⟨b, by omega⟩
theorem step_out (p f : Int) (h : ¬ ((0 ≤ p ∧ p ≤ 2) ∧ (0 ≤ f ∧ f < 64))) : track_Step.f p f = some (0, 1400) := by
  unfold track_Step.f
  rw [may_f, flags_f]
  by_cases h1 : 0 ≤ p ∧ p ≤ 2
  · have h2 : ¬ (0 ≤ f ∧ f < 64) := fun h2 => h ⟨h1, h2⟩
    rw [decide_eq_true h1, decide_eq_false h2]; rfl
  · rw [decide_eq_false h1]; rfl
theorem use_in (k : Nat) (a b c d e t : Int) (z : Bool) (p u fl now : Int) (hm : Em a b c d e t p u) (hf : 0 ≤ fl ∧ fl < 64) (hn : 0 ≤ now ∧ now ≤ 1048576) :
    entry_Use.f (k + 1) a b c d e t z p u fl now = some (a, b, c, d, e, t, z, (if c = 6 then tab p fl else p), now, 0) := by
  unfold entry_Use.f
  rw [(step_in p fl hm.2.2.1 hf).1, entryMay_f, time_f, decide_eq_true hm, decide_eq_true hn]
  simp only [Option.bind_some, if_true, entry_Use.j0, Bool.not_true, Bool.false_eq_true, if_false]
  split <;> rfl
theorem use_out (k : Nat) (a b c d e t : Int) (z : Bool) (p u fl now : Int) (h : ¬ (Em a b c d e t p u ∧ (0 ≤ fl ∧ fl < 64) ∧ (0 ≤ now ∧ now ≤ 1048576))) :
    entry_Use.f (k + 1) a b c d e t z p u fl now = some (0, 0, 0, 0, 0, 0, false, 0, 0, 1500) := by
  unfold entry_Use.f
  rw [entryMay_f, time_f]
  by_cases hs : (0 ≤ p ∧ p ≤ 2) ∧ (0 ≤ fl ∧ fl < 64)
  · rw [(step_in p fl hs.1 hs.2).1]
    by_cases hm : Em a b c d e t p u
    · have hn : ¬ (0 ≤ now ∧ now ≤ 1048576) := fun hn => h ⟨hm, hs.2, hn⟩
      rw [decide_eq_true hm, decide_eq_false hn]
      simp [entry_Use.j0]
    · rw [decide_eq_false hm]
      simp [entry_Use.j0]
  · rw [step_out p fl hs]
    simp [entry_Use.j0]
def lim (p : Int) : Int := if p = 0 then 40 else 6
theorem ran_in (a b c d e t : Int) (z : Bool) (p u now : Int) (hm : Em a b c d e t p u) : entry_Ran.f a b c d e t z p u now = some (decide (u + lim p ≤ now)) := by
  unfold entry_Ran.f track_Limit.f
  have hu := hm.2.2.2
  rw [may_f, entryMay_f, decide_eq_true hm, decide_eq_true hm.2.2.1]
  simp only [Option.bind_some, if_true]
  by_cases h : p = 0
  · rw [if_pos h]
    simp only [Option.bind_some]
    rw [wrap64_in _ (by omega) (by omega)]
    simp [lim, h]
  · rw [if_neg h]
    simp only [Option.bind_some]
    rw [wrap64_in _ (by omega) (by omega)]
    simp [lim, h]
theorem ran_out (a b c d e t : Int) (z : Bool) (p u now : Int) (hm : ¬ Em a b c d e t p u) : entry_Ran.f a b c d e t z p u now = some true := by
  unfold entry_Ran.f track_Limit.f
  rw [may_f, entryMay_f, decide_eq_false hm]
  by_cases hp : 0 ≤ p ∧ p ≤ 2
  · rw [decide_eq_true hp]
    simp only [Option.bind_some, if_true]
    split <;> rfl
  · rw [decide_eq_false hp]; rfl
theorem awake_f (k : Nat) : wharfagelaw15_awake.f (k + 1) = some true := by
  unfold wharfagelaw15_awake.f wharfagelaw15_flow.f
  have m0 : ¬ Em 0 0 0 0 0 0 0 0 := by decide
  have m1 : Em 1 167772161 6 7 80 2 0 5 := by decide
  have m2 : Em 1 167772161 6 7 80 2 1 9 := by decide
  have t1 : tab 0 1 = 1 := by decide +kernel
  simp only [Option.bind_some]
  rw [use_in k 1 167772161 6 7 80 2 false 0 5 1 9 m1 (by decide) (by decide), use_out k 0 0 0 0 0 0 false 0 0 0 0 (fun h => m0 h.1), if_pos rfl, t1]
  simp only [Option.bind_some]
  rw [entryMay_f, decide_eq_true m1, ran_in _ _ _ _ _ _ _ _ _ _ m1, ran_in _ _ _ _ _ _ _ _ _ _ m1, ran_in _ _ _ _ _ _ _ _ _ _ m2, ran_out _ _ _ _ _ _ _ _ _ _ m0]
  simp [num_f, lim]

theorem EntryOnce : wharfagelaw15_EntryOnce.PureX := by
  intro x a1 a2 _ h1 h2
  refine ⟨1, ?_⟩
  obtain ⟨⟨a, b, c, d, e⟩, t, z, p, u⟩ := x
  unfold wharfagelaw15_EntryOnce.f
  rw [awake_f 0, and65535, and65535, wrap64_in _ (by omega) (by omega)]
  simp only [Option.bind_some, if_true, num_f]
  by_cases hm : Em a b c d e t p u
  · rw [ran_in _ _ _ _ _ _ _ _ _ _ hm, ran_in _ _ _ _ _ _ _ _ _ _ hm]
    simp only [Option.bind_some]
    by_cases h : u + lim p ≤ a1 % 65536
    · rw [decide_eq_true h, if_pos rfl, decide_eq_true (by omega)]
    · rw [decide_eq_false h, if_neg (by decide)]
  · rw [ran_out _ _ _ _ _ _ _ _ _ _ hm, ran_out _ _ _ _ _ _ _ _ _ _ hm]; rfl

end Go.Proofs.Ytcefplpmpmlboab.Pure
