/- Contracts: what calls of these functions of the program do, each as a plain function; written by a program of this session. -/
import Derived.Test.YtiidegomccifaaaPCachesx0
import Derived.Test.YtiidegomccifaaaPCachesx3
import Derived.Test.YtiidegomccifaaaPCachesx4
import Derived.Test.YtiidegomccifaaaPCachesx5
import Derived.Test.YtiidegomccifaaaPCachesx6
import Derived.Test.YtiidegomccifaaaPCachesx7
import Derived.Test.YtiidegomccifaaaPCachesx10
import Derived.Test.YtiidegomccifaaaPCachesx11
import Derived.Test.YtiidegomccifaaaPCachesx12
import Derived.Test.YtiidegomccifaaaPCachesx13
import Derived.Test.YtiidegomccifaaaPCachesx14
import Derived.Test.YtiidegomccifaaaPCachesx16
import Derived.Test.YtiidegomccifaaaPCachesx18
import Derived.Test.YtiidegomccifaaaPCachesx24
namespace Go.Proofs.Ytiidegomccifaaa.PCaches
open Go.RowKit Go.Proofs.YtiidegomccifaaaW.PrintWords Go.Proofs.YtiidegomccifaaaW.PrintLast Go.Proofs.YtiidegomccifaaaW.PrintMore
attribute [local go_sem] max2_int min2_int max_two min_two max_three min_three max_four min_four   -- for this text's walks alone
set_option linter.unusedVariables false
set_option linter.unusedSimpArgs false

/-! ### wharfageref10_PutEntry: function 7, by hand -/
namespace CcLaw
open Go.Proofs.Ytiidegomccifaaa.NumMath (wrap64_in)
def Fm (a b c d e : Int) : Prop := (0 ≤ a ∧ a < 4294967296) ∧ (0 ≤ b ∧ b < 4294967296) ∧ (c = 6 ∨ c = 17) ∧ (0 ≤ d ∧ d < 65536) ∧ (0 ≤ e ∧ e < 65536)
instance (a b c d e : Int) : Decidable (Fm a b c d e) := by unfold Fm; infer_instance
def Em (a b c d e t p u : Int) : Prop := Fm a b c d e ∧ (0 ≤ t ∧ t < 256) ∧ (0 ≤ p ∧ p ≤ 2) ∧ (0 ≤ u ∧ u ≤ 1048576)
instance (a b c d e t p u : Int) : Decidable (Em a b c d e t p u) := by unfold Em; infer_instance
theorem in_any (x : Int) (b n : Nat) (hb : b ≤ 64) (hn : 2 ^ b = n) : ip_In.f x (b : Int) = some (decide (0 ≤ x ∧ x < (n : Int))) := by
  unfold ip_In.f
  by_cases h : x ≥ 0
  · rw [if_pos h, if_pos (by omega)]
    have hn0 : 0 < n := by rw [← hn]; exact Nat.two_pow_pos b
    have e : shr .i64 x (b : Int) = x / (n : Int) := by
      unfold shr
      rw [Int.toNat_natCast, Nat.min_eq_left (by simpa [IntKind.bits] using hb), ← hn]
      simp
    rw [e]; congr 1
    rw [Bool.eq_iff_iff]
    simp only [beq_iff_eq, decide_eq_true_eq]
    constructor
    · intro hz
      refine ⟨h, ?_⟩
      have := Int.lt_ediv_add_one_mul_self x (show (0 : Int) < n by omega)
      rw [hz] at this
      omega
    · rintro ⟨_, hlt⟩
      exact Int.ediv_eq_zero_of_lt h hlt
  · rw [if_neg h]; congr 1; simp; omega
theorem in32 (x : Int) : ip_In.f x 32 = some (decide (0 ≤ x ∧ x < 4294967296)) := in_any x 32 4294967296 (by decide) (by decide)
theorem in16 (x : Int) : ip_In.f x 16 = some (decide (0 ≤ x ∧ x < 65536)) := in_any x 16 65536 (by decide) (by decide)
theorem in8 (x : Int) : ip_In.f x 8 = some (decide (0 ≤ x ∧ x < 256)) := in_any x 8 256 (by decide) (by decide)
theorem handled_f (c : Int) : flow_handled.f c = some (decide (c = 6 ∨ c = 17)) := by
  unfold flow_handled.f
  by_cases h : c = 6
  · simp [h]
  · rw [if_neg h]; simp [h]
    rfl
theorem flowMay_f (a b c d e : Int) : flow_May.f a b c d e = some (decide (Fm a b c d e)) := by
  unfold flow_May.f
  rw [in32, in32, in16, in16, handled_f]
  simp only [Option.bind_some]
  by_cases h1 : 0 ≤ a ∧ a < 4294967296 <;> by_cases h2 : 0 ≤ b ∧ b < 4294967296 <;> by_cases h3 : c = 6 ∨ c = 17 <;> by_cases h4 : 0 ≤ d ∧ d < 65536 <;> by_cases h5 : 0 ≤ e ∧ e < 65536 <;> simp [Fm, h1, h2, h3, h4, h5]
theorem to_f (x m : Int) : conf_to.f x m = some (decide (0 ≤ x ∧ x ≤ m)) := by
  unfold conf_to.f
  by_cases h : x ≥ 0
  · rw [if_pos h]; congr 1; simp; omega
  · rw [if_neg h]; congr 1; simp; omega
theorem time_f (x : Int) : conf_Time.f x = some (decide (0 ≤ x ∧ x ≤ 1048576)) := by
  unfold conf_Time.f
  rw [to_f]; rfl
theorem may_f (a : Int) : track_May.f a = some (decide (0 ≤ a ∧ a ≤ 2)) := by
  unfold track_May.f
  by_cases h : a ≥ 0
  · rw [if_pos h]; congr 1; simp; omega
  · rw [if_neg h]; congr 1; simp; omega
theorem entryMay_f (a b c d e t : Int) (z : Bool) (p u : Int) : entry_May.f a b c d e t z p u = some (decide (Em a b c d e t p u)) := by
  unfold entry_May.f
  rw [flowMay_f, in8, may_f, time_f]
  simp only [Option.bind_some]
  by_cases h1 : Fm a b c d e <;> by_cases h2 : 0 ≤ t ∧ t < 256 <;> by_cases h3 : 0 ≤ p ∧ p ≤ 2 <;> by_cases h4 : 0 ≤ u ∧ u ≤ 1048576 <;> simp [Em, h1, h2, h3, h4]
theorem num_f (a : Int) : wharfagelaw0_Num.f a = some a := rfl
def lim (p : Int) : Int := if p = 0 then 40 else 6
theorem ran_in (a b c d e t : Int) (z : Bool) (p u now : Int) (hm : Em a b c d e t p u) : entry_Ran.f a b c d e t z p u now = some (decide (u + lim p ≤ now)) := by
  unfold entry_Ran.f track_Limit.f
  have hu := hm.2.2.2
  rw [may_f, entryMay_f, decide_eq_true hm, decide_eq_true hm.2.2.1]
  simp only [Option.bind_some, if_true]
  by_cases h : p = 0
  · rw [if_pos h]
    simp only [Option.bind_some]
    rw [wrap64_in _ (by omega) (by omega)]
    simp [lim, h]
  · rw [if_neg h]
    simp only [Option.bind_some]
    rw [wrap64_in _ (by omega) (by omega)]
    simp [lim, h]
theorem ran_out (a b c d e t : Int) (z : Bool) (p u now : Int) (hm : ¬ Em a b c d e t p u) : entry_Ran.f a b c d e t z p u now = some true := by
  unfold entry_Ran.f track_Limit.f
  rw [may_f, entryMay_f, decide_eq_false hm]
  by_cases hp : 0 ≤ p ∧ p ≤ 2
  · rw [decide_eq_true hp]
    simp only [Option.bind_some, if_true]
    split <;> rfl
  · rw [decide_eq_false hp]; rfl

abbrev En := S26
abbrev Fl := S24
def emB (x : En) : Bool := decide (Em x.f0.f0 x.f0.f1 x.f0.f2 x.f0.f3 x.f0.f4 x.f1 x.f3 x.f4)
theorem em_f (x : En) : entry_May.f x.f0.f0 x.f0.f1 x.f0.f2 x.f0.f3 x.f0.f4 x.f1 x.f2 x.f3 x.f4 = some (emB x) := entryMay_f _ _ _ _ _ _ _ _ _
theorem rdE (l : List En) (i : Nat) (h : i < l.length) : rd_T26 l (i : Int) = l[i] := by
  unfold rd_T26
  simp [List.getD, List.getElem?_eq_getElem h]
theorem idx_lo (f : Fl) : ∀ (l : List En) (n : Nat), idxFrom f l n = -1 ∨ (n : Int) ≤ idxFrom f l n
  | [], n => .inl rfl
  | x :: r, n => by
    unfold idxFrom
    split
    · exact .inr (Int.le_refl _)
    · rcases idx_lo f r (n + 1) with h | h
      · exact .inl h
      · exact .inr (by omega)
theorem idx_none (f : Fl) : ∀ (l : List En) (n : Nat), (∀ x ∈ l, x.f0 ≠ f) → idxFrom f l n = -1
  | [], n, _ => rfl
  | x :: r, n, h => by
    unfold idxFrom
    rw [if_neg (fun hb => h x List.mem_cons_self ((beqF_iff _ _).1 hb))]
    exact idx_none f r (n + 1) (fun y hy => h y (List.mem_cons_of_mem _ hy))
theorem idx_first (f : Fl) : ∀ (l : List En) (n j : Nat) (hj : j < l.length), (∀ i (hi : i < j), (l[i]'(by omega)).f0 ≠ f) → (l[j]).f0 = f → idxFrom f l n = ((n + j : Nat) : Int)
  | [], n, j, hj, _, _ => by simp at hj
  | x :: r, n, 0, _, _, he => by
    unfold idxFrom
    rw [if_pos (show beqF x.f0 f = true from (beqF_iff _ _).2 he)]
    rfl
  | x :: r, n, j + 1, hj, hn, he => by
    unfold idxFrom
    rw [if_neg (show ¬ (beqF x.f0 f = true) from fun hb => hn 0 (by omega) ((beqF_iff _ _).1 hb)), idx_first f r (n + 1) j (by simpa using hj) (fun i hi => hn (i + 1) (by omega)) he]
    congr 1
    omega
theorem idx_le (f : Fl) : ∀ (l : List En) (n i : Nat) (hi : i < l.length), (l[i]).f0 = f → idxFrom f l n ≤ ((n + i : Nat) : Int)
  | [], n, i, hi, _ => by simp at hi
  | x :: r, n, i, hi, he => by
    unfold idxFrom
    split
    · omega
    · rename_i hb
      cases i with
      | zero => exact absurd ((beqF_iff _ _).2 he) hb
      | succ i =>
        have := idx_le f r (n + 1) i (by simpa using hi) he
        omega
def Good (l : List En) : Prop := (∀ x ∈ l, emB x = true) ∧ l.Pairwise (fun a b => a.f0 ≠ b.f0) ∧ l.length ≤ 8
noncomputable instance (l : List En) : Decidable (Good l) := Classical.propDecidable _
theorem good_ix (l : List En) : Good l ↔ ((∀ j (hj : j < l.length), emB l[j] = true ∧ idxFrom (l[j]).f0 l 0 = (j : Int)) ∧ l.length ≤ 8) := by
  constructor
  · rintro ⟨h1, h2, h3⟩
    refine ⟨fun j hj => ⟨h1 _ (List.getElem_mem hj), ?_⟩, h3⟩
    have := idx_first (l[j]).f0 l 0 j hj (fun i hi => List.pairwise_iff_getElem.1 h2 i j (by omega) hj hi) rfl
    rw [this, Nat.zero_add]
  · rintro ⟨h1, h3⟩
    refine ⟨fun x hx => ?_, List.pairwise_iff_getElem.2 (fun i j hi hj hij he => ?_), h3⟩
    · obtain ⟨j, hj, rfl⟩ := List.getElem_of_mem hx
      exact (h1 j hj).1
    · have h4 := idx_le (l[j]).f0 l 0 i hi he
      rw [(h1 j hj).2] at h4
      omega
theorem may_l0 (l : List En) (hl : l.length ≤ 9223372036854775807) (d : Nat) : ∀ (k i : Nat), l.length - i ≤ d → d < k → i ≤ l.length → (∀ j (hj : j < l.length), j < i → emB l[j] = true ∧ idxFrom (l[j]).f0 l 0 = (j : Int)) → cache_May.l0 k l l (l.length : Int) (i : Int) = some (decide (Good l)) := by
  induction d with
  | zero =>
    intro k i hd hk hi hp
    obtain ⟨k, rfl⟩ : ∃ m, k = m + 1 := ⟨k - 1, by omega⟩
    simp only [cache_May.l0]
    rw [if_neg (by omega)]
    congr 1
    rw [decide_eq_decide, good_ix]
    constructor
    · intro h
      exact ⟨fun j hj => hp j hj (by omega), by omega⟩
    · intro h
      have := h.2
      omega
  | succ d ih =>
    intro k i hd hk hi hp
    obtain ⟨k, rfl⟩ : ∃ m, k = m + 1 := ⟨k - 1, by omega⟩
    simp only [cache_May.l0]
    by_cases h : (i : Int) < (l.length : Int)
    · have hlt : i < l.length := by omega
      rw [if_pos h, if_pos (show (0 : Int) ≤ (i : Int) by omega), if_pos h, rdE l i hlt, em_f, Option.bind_some]
      cases hb : emB l[i]
      · rw [if_neg (by simp)]
        congr 1
        rw [eq_comm, decide_eq_false_iff_not]
        intro hg
        rw [hg.1 _ (List.getElem_mem hlt)] at hb
        cases hb
      · rw [if_pos rfl]
        unfold cache_at.f
        rw [Option.bind_some]
        by_cases hx : idxFrom (l[i]).f0 l 0 = (i : Int)
        · rw [if_pos hx, show wrap64 ((i : Int) + 1) = ((i + 1 : Nat) : Int) by unfold wrap64; omega]
          refine ih k (i + 1) (by omega) (by omega) (by omega) (fun j hj hji => ?_)
          by_cases hj2 : j = i
          · subst hj2
            exact ⟨hb, hx⟩
          · exact hp j hj (by omega)
        · rw [if_neg hx]
          congr 1
          rw [eq_comm, decide_eq_false_iff_not]
          intro hg
          exact hx (((good_ix l).1 hg).1 i hlt).2
    · rw [if_neg h]
      congr 1
      rw [decide_eq_decide, good_ix]
      constructor
      · intro h
        exact ⟨fun j hj => hp j hj (by omega), by omega⟩
      · intro h
        have := h.2
        omega
theorem mayE_f (l : List En) (k : Nat) (hl : l.length < k) (hl2 : l.length ≤ 9223372036854775807) : cache_May.f k l = some (decide (Good l)) := may_l0 l hl2 l.length k 0 (by omega) hl (by omega) (fun j _ h => absurd h (by omega))
theorem same_l0 (l : List En) (hl : l.length ≤ 9223372036854775807) (d : Nat) : ∀ (k i : Nat), l.length - i ≤ d → d < k → i ≤ l.length → wharfagelaw0_SameEntrys.l0 k l l (i : Int) = some true := by
  induction d with
  | zero =>
    intro k i hd hk hi
    obtain ⟨k, rfl⟩ : ∃ m, k = m + 1 := ⟨k - 1, by omega⟩
    simp only [wharfagelaw0_SameEntrys.l0]
    rw [if_neg (by omega)]
  | succ d ih =>
    intro k i hd hk hi
    obtain ⟨k, rfl⟩ : ∃ m, k = m + 1 := ⟨k - 1, by omega⟩
    simp only [wharfagelaw0_SameEntrys.l0]
    by_cases h : (i : Int) < (l.length : Int)
    · rw [if_pos h, if_pos (show (0 : Int) ≤ (i : Int) by omega), if_pos h, if_neg (by simp), show wrap64 ((i : Int) + 1) = ((i + 1 : Nat) : Int) by unfold wrap64; omega]
      exact ih k (i + 1) (by omega) (by omega) (by omega)
    · rw [if_neg h]
theorem same_f (l : List En) (k : Nat) (hl : l.length < k) (hl2 : l.length ≤ 9223372036854775807) : wharfagelaw0_SameEntrys.f k l l = some true := by
  unfold wharfagelaw0_SameEntrys.f
  rw [if_pos rfl]
  exact same_l0 l hl2 l.length k 0 (by omega) hl (by omega)
/-- What is there of other flows. -/
def rest (l : List En) (f : Fl) : List En := l.filter (fun x => !beqF x.f0 f)
def out (l : List En) (p : En) : List En := rest l p.f0 ++ [p]
def put (l : List En) (p : En) : List En := if 8 < (out l p).length then (out l p).drop 1 else out l p
theorem rest_ne (l : List En) (f : Fl) : ∀ x ∈ rest l f, x.f0 ≠ f := by
  intro x hx he
  have h := (List.mem_filter.1 hx).2
  rw [(beqF_iff _ _).2 he] at h
  cases h
theorem rest_self (l : List En) (f : Fl) (h : ∀ x ∈ l, x.f0 ≠ f) : rest l f = l := by
  unfold rest
  rw [List.filter_eq_self]
  intro x hx
  have : beqF x.f0 f = false := Bool.eq_false_iff.2 (fun hb => h x hx ((beqF_iff _ _).1 hb))
  rw [this]; rfl
theorem rest_len (f : Fl) : ∀ l : List En, l.Pairwise (fun a b => a.f0 ≠ b.f0) → l.length ≤ (rest l f).length + 1
  | [], _ => by simp
  | x :: r, h => by
    rw [List.pairwise_cons] at h
    by_cases hx : x.f0 = f
    · have h2 : rest r f = r := rest_self r f (fun y hy he => h.1 y hy (hx.trans he.symm))
      have h3 : rest (x :: r) f = rest r f := by
        unfold rest
        rw [List.filter_cons, (beqF_iff _ _).2 hx]
        simp
      rw [h3, h2]
      simp
    · have h3 : rest (x :: r) f = x :: rest r f := by
        have hb : beqF x.f0 f = false := Bool.eq_false_iff.2 (fun hb => hx ((beqF_iff _ _).1 hb))
        unfold rest
        rw [List.filter_cons, hb]
        simp
      have := rest_len f r h.2
      rw [h3]
      simp
      omega
theorem rest_good (l : List En) (f : Fl) (h : Good l) : Good (rest l f) :=
  ⟨fun x hx => h.1 x (List.mem_filter.1 hx).1, h.2.1.filter _, Nat.le_trans (List.length_filter_le _ _) h.2.2⟩
theorem put_shape (l : List En) (p : En) (hg : Good l) (hp : emB p = true) : ∃ y, put l p = y ++ [p] ∧ (∀ x ∈ y, x.f0 ≠ p.f0) ∧ Good (put l p) ∧ l.length ≤ (put l p).length := by
  have hr := rest_good l p.f0 hg
  have hn := rest_ne l p.f0
  have hlen := rest_len p.f0 l hg.2.1
  have h8 := hr.2.2
  have h9 := hg.2.2
  have key : ∀ y : List En, (∀ x ∈ y, x ∈ rest l p.f0) → y.Pairwise (fun a b => a.f0 ≠ b.f0) → y.length ≤ 7 → Good (y ++ [p]) := by
    intro y hy hpw hyl
    refine ⟨fun x hx => ?_, ?_, by simp; omega⟩
    · rcases List.mem_append.1 hx with h | h
      · exact hr.1 x (hy x h)
      · rw [List.mem_singleton.1 h]; exact hp
    · rw [List.pairwise_append]
      refine ⟨hpw, by simp, fun a ha b hb => ?_⟩
      rw [List.mem_singleton.1 hb]
      exact hn a (hy a ha)
  unfold put
  by_cases h : 8 < (out l p).length
  · rw [if_pos h]
    have ho : (out l p).length = (rest l p.f0).length + 1 := by unfold out; simp
    have hd : (out l p).drop 1 = (rest l p.f0).drop 1 ++ [p] := by
      unfold out
      rw [List.drop_append_of_le_length (by omega)]
    rw [hd]
    refine ⟨_, rfl, fun x hx => hn x (List.mem_of_mem_drop hx), key _ (fun x hx => List.mem_of_mem_drop hx) (hr.2.1.sublist (List.drop_sublist _ _)) (by simp; omega), by simp; omega⟩
  · rw [if_neg h]
    have ho : (out l p).length = (rest l p.f0).length + 1 := by unfold out; simp
    exact ⟨_, rfl, hn, key _ (fun x hx => hx) hr.2.1 (by omega), by rw [ho]; omega⟩
theorem within_any (x : Int) (b : Nat) (n : Nat) (hb : b < 63) (hn : 2 ^ b = n) (hs : shl .i64 1 (b : Int) = (n : Int)) : wharfageref1_within.f x (b : Int) = some (decide (0 ≤ x ∧ x < (n : Int))) := by
  unfold wharfageref1_within.f
  by_cases h : x ≥ 0
  · rw [if_pos h, if_pos (by omega), hs]; congr 1; simp; omega
  · rw [if_neg h]; congr 1; simp; omega
theorem within32 (x : Int) : wharfageref1_within.f x 32 = some (decide (0 ≤ x ∧ x < 4294967296)) := within_any x 32 4294967296 (by decide) (by decide) (by decide)
theorem within16 (x : Int) : wharfageref1_within.f x 16 = some (decide (0 ≤ x ∧ x < 65536)) := within_any x 16 65536 (by decide) (by decide) (by decide)
theorem refFlowMay_f (a b c d e : Int) : wharfageref1_FlowMay.f a b c d e = some (decide (Fm a b c d e)) := by
  unfold wharfageref1_FlowMay.f
  rw [within32, within32, within16, within16]
  simp only [Option.bind_some]
  by_cases h1 : 0 ≤ a ∧ a < 4294967296 <;> by_cases h2 : 0 ≤ b ∧ b < 4294967296 <;> by_cases h3 : c = 6 <;> by_cases h6 : c = 17 <;> by_cases h4 : 0 ≤ d ∧ d < 65536 <;> by_cases h5 : 0 ≤ e ∧ e < 65536 <;> simp [Fm, h1, h2, h3, h4, h5, h6]
theorem nowMay_f (x : Int) : wharfageref10_nowMay.f x = some (decide (0 ≤ x ∧ x ≤ 1048576)) := by
  unfold wharfageref10_nowMay.f
  by_cases h : x ≥ 0
  · rw [if_pos h]; congr 1; simp; omega
  · rw [if_neg h]; congr 1; simp; omega
theorem phaseMay_f (x : Int) : wharfageref10_phaseMay.f x = some (decide (0 ≤ x ∧ x ≤ 2)) := may_f x
theorem refMay_f (a b c d e t : Int) (z : Bool) (p u : Int) : wharfageref10_EntryMay.f a b c d e t z p u = some (decide (Em a b c d e t p u)) := by
  unfold wharfageref10_EntryMay.f
  rw [refFlowMay_f, phaseMay_f, nowMay_f]
  simp only [Option.bind_some]
  by_cases h1 : Fm a b c d e <;> by_cases h2 : 0 ≤ t <;> by_cases h5 : t < 256 <;> by_cases h3 : 0 ≤ p ∧ p ≤ 2 <;> by_cases h4 : 0 ≤ u ∧ u ≤ 1048576 <;> simp [Em, h1, h2, h3, h4, h5, show (t ≤ 255) ↔ (t < 256) by omega]
theorem refRan (a b c d e t : Int) (z : Bool) (p u now : Int) (hw : -9223372036854775808 ≤ now ∧ now ≤ 9223372036854775807) : wharfageref10_Ran.f a b c d e t z p u now = entry_Ran.f a b c d e t z p u now := by
  by_cases hm : Em a b c d e t p u
  · rw [ran_in _ _ _ _ _ _ _ _ _ _ hm]
    unfold wharfageref10_Ran.f wharfageref10_Limit.f
    have hu := hm.2.2.2
    rw [refMay_f, phaseMay_f, decide_eq_true hm, decide_eq_true hm.2.2.1]
    simp only [Option.bind_some, if_true]
    by_cases hp : p = 0
    · rw [if_pos hp]
      simp only [Option.bind_some]
      by_cases h0 : now ≥ 0
      · rw [if_pos h0, wrap64_in _ (by omega) (by omega)]
        congr 1; simp [lim, hp]; omega
      · rw [if_neg h0]; congr 1; simp [lim, hp]; omega
    · rw [if_neg hp]
      simp only [Option.bind_some]
      by_cases h0 : now ≥ 0
      · rw [if_pos h0, wrap64_in _ (by omega) (by omega)]
        congr 1; simp [lim, hp]; omega
      · rw [if_neg h0]; congr 1; simp [lim, hp]; omega
  · rw [ran_out _ _ _ _ _ _ _ _ _ _ hm]
    unfold wharfageref10_Ran.f
    rw [refMay_f, decide_eq_false hm]; rfl
theorem emr_f (x : En) : wharfageref10_EntryMay.f x.f0.f0 x.f0.f1 x.f0.f2 x.f0.f3 x.f0.f4 x.f1 x.f2 x.f3 x.f4 = some (emB x) := refMay_f _ _ _ _ _ _ _ _ _
/-- By places: the entries may be, no two are of one flow, and there are not too many. -/
theorem good_at (l : List En) : Good l ↔ (∀ i (hi : i < l.length), emB l[i] = true ∧ ∀ j (hj : j < i), (l[j]'(by omega)).f0 ≠ (l[i]).f0) ∧ l.length ≤ 8 := by
  constructor
  · rintro ⟨h1, h2, h3⟩
    exact ⟨fun i hi => ⟨h1 _ (List.getElem_mem hi), fun j hj => List.pairwise_iff_getElem.1 h2 j i (by omega) hi hj⟩, h3⟩
  · rintro ⟨h1, h3⟩
    refine ⟨fun x hx => ?_, List.pairwise_iff_getElem.2 (fun i j hi hj hij => (h1 j hj).2 i hij), h3⟩
    obtain ⟨j, hj, rfl⟩ := List.getElem_of_mem hx
    exact (h1 j hj).1
theorem beq_lit (x : En) (f : Fl) : (x.f0.f0 == f.f0 && (x.f0.f1 == f.f1 && (x.f0.f2 == f.f2 && (x.f0.f3 == f.f3 && x.f0.f4 == f.f4)))) = beqF x.f0 f := rfl
theorem cr_l1 (l : List En) (hl : l.length ≤ 9223372036854775806) (i : Nat) (hi : i < l.length) (hu : ∀ m (hm : m < i), (l[m]'(by omega)).f0 ≠ (l[i]).f0) (R : Bool) (N : Nat) (hR : ∀ k, N ≤ k → wharfageref10_CacheMay.l0 k l (wrap64 ((i : Int) + 1)) = some R) (d : Nat) : ∀ (k j : Nat), i - j ≤ d → N + d + 1 ≤ k → j ≤ i →
    wharfageref10_CacheMay.l1 k l (i : Int) (j : Int) = some R := by
  induction d with
  | zero =>
    intro k j hd hk hj
    obtain ⟨k, rfl⟩ : ∃ m, k = m + 1 := ⟨k - 1, by omega⟩
    obtain rfl : j = i := by omega
    simp only [wharfageref10_CacheMay.l1]
    rw [if_neg (by omega), hR k (by omega)]
  | succ d ih =>
    intro k j hd hk hj
    obtain ⟨k, rfl⟩ : ∃ m, k = m + 1 := ⟨k - 1, by omega⟩
    simp only [wharfageref10_CacheMay.l1]
    by_cases h : j < i
    · rw [if_pos (by omega), if_pos (by omega), if_pos (by omega), if_pos (by omega), if_pos (by omega), rdE l j (by omega), rdE l i hi]
      rw [beq_lit, if_neg (fun hb => hu j h ((beqF_iff _ _).1 hb)), show wrap64 ((j : Int) + 1) = ((j + 1 : Nat) : Int) by unfold wrap64; omega]
      exact ih k (j + 1) (by omega) (by omega) (by omega)
    · obtain rfl : j = i := by omega
      rw [if_neg (by omega), hR k (by omega)]
theorem cr_dup (l : List En) (hl : l.length ≤ 9223372036854775806) (i : Nat) (hi : i < l.length) (hu : ¬ ∀ m (hm : m < i), (l[m]'(by omega)).f0 ≠ (l[i]).f0) (d : Nat) : ∀ (k j : Nat) (_ : i - j ≤ d) (_ : d + 1 ≤ k) (hj : j ≤ i), (∀ m (hm : m < j), (l[m]'(by omega)).f0 ≠ (l[i]).f0) →
    wharfageref10_CacheMay.l1 k l (i : Int) (j : Int) = some false := by
  induction d with
  | zero =>
    intro k j hd hk hj hn
    obtain rfl : j = i := by omega
    exact absurd hn hu
  | succ d ih =>
    intro k j hd hk hj hn
    obtain ⟨k, rfl⟩ : ∃ m, k = m + 1 := ⟨k - 1, by omega⟩
    simp only [wharfageref10_CacheMay.l1]
    by_cases h : j < i
    · rw [if_pos (by omega), if_pos (by omega), if_pos (by omega), if_pos (by omega), if_pos (by omega), rdE l j (by omega), rdE l i hi]
      rw [beq_lit]
      by_cases hb : beqF (l[j]'(by omega)).f0 (l[i]).f0 = true
      · rw [if_pos hb]
      · rw [if_neg hb, show wrap64 ((j : Int) + 1) = ((j + 1 : Nat) : Int) by unfold wrap64; omega]
        refine ih k (j + 1) (by omega) (by omega) (by omega) (fun m hm => ?_)
        by_cases hmj : m < j
        · exact hn m hmj
        · obtain rfl : m = j := by omega
          exact fun e => hb ((beqF_iff _ _).2 e)
    · obtain rfl : j = i := by omega
      exact absurd hn hu
theorem cr_l0 (l : List En) (hl : l.length ≤ 9223372036854775806) (d : Nat) : ∀ (k i : Nat), l.length - i ≤ d → d * (l.length + 2) + 1 ≤ k → i ≤ l.length → (∀ j (hj : j < l.length), j < i → emB l[j] = true ∧ ∀ m (hm : m < j), (l[m]'(by omega)).f0 ≠ (l[j]).f0) →
    wharfageref10_CacheMay.l0 k l (i : Int) = some (decide (Good l)) := by
  induction d with
  | zero =>
    intro k i hd hk hi hp
    obtain ⟨k, rfl⟩ : ∃ m, k = m + 1 := ⟨k - 1, by omega⟩
    obtain rfl : i = l.length := by omega
    simp only [wharfageref10_CacheMay.l0]
    rw [if_neg (by omega)]
    congr 1
    refine decide_eq_decide.2 ?_
    rw [good_at]
    exact ⟨fun h => ⟨fun j hj => hp j hj hj, by omega⟩, fun h => by omega⟩
  | succ d ih =>
    intro k i hd hk hi hp
    obtain ⟨k, rfl⟩ : ∃ m, k = m + 1 := ⟨k - 1, by omega⟩
    rw [Nat.succ_mul] at hk
    by_cases h : i < l.length
    · simp only [wharfageref10_CacheMay.l0]
      rw [if_pos (by omega), if_pos (by omega), rdE l i h, emr_f, Option.bind_some]
      by_cases he : emB l[i] = true
      · rw [if_pos he]
        by_cases hu : ∀ m (hm : m < i), (l[m]'(by omega)).f0 ≠ (l[i]).f0
        · have hR : ∀ k', d * (l.length + 2) + 1 ≤ k' → wharfageref10_CacheMay.l0 k' l (wrap64 ((i : Int) + 1)) = some (decide (Good l)) := by
            intro k' hk'
            rw [show wrap64 ((i : Int) + 1) = ((i + 1 : Nat) : Int) by unfold wrap64; omega]
            refine ih k' (i + 1) (by omega) hk' (by omega) (fun j hj hji => ?_)
            by_cases hlt : j < i
            · exact hp j hj hlt
            · obtain rfl : j = i := by omega
              exact ⟨he, hu⟩
          exact cr_l1 l hl i h hu _ _ hR i k 0 (by omega) (by omega) (by omega)
        · have hng : decide (Good l) = false := decide_eq_false (fun hg => hu (((good_at l).1 hg).1 i h).2)
          rw [hng]
          exact cr_dup l hl i h hu i k 0 (by omega) (by omega) (by omega) (fun m hm => by omega)
      · rw [if_neg he]
        congr 1
        exact (decide_eq_false (fun hg => he (((good_at l).1 hg).1 i h).1)).symm
    · obtain rfl : i = l.length := by omega
      simp only [wharfageref10_CacheMay.l0]
      rw [if_neg (by omega)]
      congr 1
      refine decide_eq_decide.2 ?_
      rw [good_at]
      exact ⟨fun h => ⟨fun j hj => hp j hj hj, by omega⟩, fun h => by omega⟩
theorem cr_f (l : List En) (hl : l.length ≤ 9223372036854775806) (k : Nat) (hk : l.length * (l.length + 2) + 1 ≤ k) : wharfageref10_CacheMay.f k l = some (decide (Good l)) :=
  cr_l0 l hl l.length k 0 (by omega) hk (by omega) (fun _ _ h => absurd h (by omega))
theorem wo_l0 (l : List En) (f : Fl) (hl : l.length < 1954687338268) (d : Nat) : ∀ (k i : Nat), l.length - i ≤ d → d < k → i ≤ l.length → wharfageref10_without.l0 k l (rest (l.take i) f) (i : Int) f.f0 f.f1 f.f2 f.f3 f.f4 = some (rest l f) := by
  induction d with
  | zero =>
    intro k i hd hk hi
    obtain ⟨k, rfl⟩ : ∃ m, k = m + 1 := ⟨k - 1, by omega⟩
    simp only [wharfageref10_without.l0]
    rw [if_neg (by omega), List.take_of_length_le (by omega)]
  | succ d ih =>
    intro k i hd hk hi
    obtain ⟨k, rfl⟩ : ∃ m, k = m + 1 := ⟨k - 1, by omega⟩
    simp only [wharfageref10_without.l0]
    by_cases h : (i : Int) < (l.length : Int)
    · have hlt : i < l.length := by omega
      have nk := ih k (i + 1) (by omega) (by omega) (by omega)
      rw [List.take_succ_eq_append_getElem hlt, rest, List.filter_append] at nk
      rw [if_pos h, if_pos (by omega), rdE l i hlt, show wrap64 ((i : Int) + 1) = ((i + 1 : Nat) : Int) by unfold wrap64; omega]
      have hb : (!(l[i].f0.f0 == f.f0) || (!(l[i].f0.f1 == f.f1) || (!(l[i].f0.f2 == f.f2) || (!(l[i].f0.f3 == f.f3) || !(l[i].f0.f4 == f.f4))))) = !beqF l[i].f0 f := by
        unfold beqF
        simp only [Bool.not_and]
      have hlen : (rest (l.take i) f).length < 1954687338268 := by
        have h1 : (rest (l.take i) f).length ≤ (l.take i).length := List.length_filter_le _ _
        rw [List.length_take] at h1
        omega
      rw [hb]
      cases hq : beqF l[i].f0 f
      · rw [if_pos (show (!false) = true from rfl), if_pos hlen]
        rw [show List.filter (fun x => !beqF x.f0 f) [l[i]] = [l[i]] by simp [List.filter, hq]] at nk
        exact nk
      · rw [if_neg (by simp)]
        rw [show List.filter (fun x => !beqF x.f0 f) [l[i]] = [] by simp [List.filter, hq], List.append_nil] at nk
        exact nk
    · rw [if_neg h, List.take_of_length_le (by omega)]
theorem wo_f (l : List En) (f : Fl) (hl : l.length < 1954687338268) (k : Nat) (hk : l.length < k) : wharfageref10_without.f k l f.f0 f.f1 f.f2 f.f3 f.f4 = some (rest l f) :=
  wo_l0 l f hl l.length k 0 (by omega) hk (by omega)

end CcLaw
theorem pe_lt {w : World} {b : Nat} {o : Obj} (h : w.heap[b]? = some o) : b < w.heap.size := (Array.getElem?_eq_some_iff.1 h).1
theorem pe_below {w w1 : World} {b : Nat} {o : Obj} (h : w.heap[b]? = some o) (hb : Below w.heap.size w w1) : w1.heap[b]? = some o := (hb.block b (pe_lt h)).trans h
theorem pe_alloc {w : World} {b : Nat} {o : Obj} (h : w.heap[b]? = some o) (o2 : Obj) : (w.alloc o2).heap[b]? = some o := (Below.heap_alloc w o2 _ (pe_lt h)).trans h
theorem pe_cell {w : World} {b j : Nat} {cs : Array Value} {t : TypeId} {m : Nat × Nat} (h : w.heap[b]? = some (.cells cs t m)) : w.cell? ⟨b, j, none⟩ = cs[j]? := by simp [World.cell?, h]
theorem pe_free {w : World} {b j : Nat} {cs : Array Value} {t : TypeId} (h : w.heap[b]? = some (.cells cs t (0, 0))) : w.frozen? ⟨b, j, none⟩ = false := by simp [World.frozen?, h]
theorem pe_put {w : World} {b j : Nat} {cs : Array Value} {t : TypeId} {m : Nat × Nat} (h : w.heap[b]? = some (.cells cs t m)) (v : Value) : (w.setCell ⟨b, j, none⟩ v).heap[b]? = some (.cells (cs.setIfInBounds j v) t m) := by
  show (w.heap.modify b _)[b]? = _
  rw [Array.getElem?_modify, if_pos rfl, h]
  rfl
theorem pe_lit {w : World} (p : S26) : Kd.C k26 (w.alloc (.cells #[.int .i64 p.f0.f0, .int .i64 p.f0.f1, .int .i64 p.f0.f2, .int .i64 p.f0.f3, .int .i64 p.f0.f4, .int .i64 p.f1, .bool p.f2, .int .i64 p.f3, .int .i64 p.f4] 26)) (some ⟨w.heap.size, 0, none⟩) 1 [p] := by
  refine ⟨rfl, by omega, fun _ => ⟨_, rfl, fun j q hj => ?_⟩⟩
  obtain ⟨hj1, hj2⟩ := List.getElem?_eq_some_iff.1 hj
  obtain rfl : j = 0 := by simpa using hj1
  obtain rfl : p = q := hj2
  refine ⟨_, by rfl, k26_mk _ _, fun i u hi => ?_⟩
  rw [show Addr.add (⟨w.heap.size, 0, none⟩ : Addr) (0 * Kd.sz k26 + i) = ⟨w.heap.size, i, none⟩ by simp [Addr.add]; try omega, pe_cell (heap_alloc_new w _)]
  simpa only [List.getElem?_toArray] using hi
noncomputable def wharfageref10_PutEntry.g (l : List S26) (p : S26) : List S26 × S26 × Bool × Int := open Classical in if CcLaw.Good l ∧ CcLaw.emB p = true then (if 8 < (CcLaw.out l p).length then ((CcLaw.out l p).drop 1, rd_T26 (CcLaw.out l p) 0, true, 0) else (CcLaw.out l p, ⟨⟨0, 0, 0, 0, 0⟩, 0, false, 0, 0⟩, false, 0)) else ([], ⟨⟨0, 0, 0, 0, 0⟩, 0, false, 0, 0⟩, false, 1600)
def wharfageref10_PutEntry.f (k : Nat) : Option Bool := none
theorem wharfageref10_PutEntry.info : (Try.prog.info? 26).map (fun i => (i.zero, i.size, i.bytes)) = some (some (.agg #[.int .i64 0, .int .i64 0, .int .i64 0, .int .i64 0, .int .i64 0, .int .i64 0, .bool false, .int .i64 0, .int .i64 0]), 9, 72) := by kernel_rfl
theorem wharfageref10_PutEntry.tab3 : rtab .any (opsOf Try.f7 3) = rtab .any (opsOf Try.f7 3) := rfl
def wharfageref10_PutEntry.B3 : List Nat := [0, 0, 2, 7, 0, 16, 63, 127]
theorem wharfageref10_PutEntry.bits3 : waitsOk (rtab .any (opsOf Try.f7 3)).2 wharfageref10_PutEntry.B3 = true := by kernel_rfl
theorem wharfageref10_PutEntry.tab5 : rtab .any (opsOf Try.f7 5) = rtab .any (opsOf Try.f7 5) := rfl
def wharfageref10_PutEntry.B5 : List Nat := [0, 0, 2, 7, 0, 16, 48, 15, 255, 511, 1023]
theorem wharfageref10_PutEntry.bits5 : waitsOk (rtab .any (opsOf Try.f7 5)).2 wharfageref10_PutEntry.B5 = true := by kernel_rfl
set_option maxHeartbeats 8000000 in
set_option maxRecDepth 100000 in
theorem wharfageref10_PutEntry.calls (A0 : Option Addr) (c0 : Nat) (l0 : List S26) (a1_0 a1_1 a1_2 a1_3 a1_4 a1_5 : Int) (a1_6 : Bool) (a1_7 a1_8 : Int) (r1 : List S26) (q0_ : S26) (r11 : Bool) (r12 : Int) (w : World) (hr0 : Kd.C k26 w A0 l0.length l0) (hc0 : l0.length ≤ c0) (hlt : l0.length < 1954687338268) (h : wharfageref10_PutEntry.g l0 (⟨⟨a1_0, a1_1, a1_2, a1_3, a1_4⟩, a1_5, a1_6, a1_7, a1_8⟩ : S26) = (r1, q0_, r11, r12)) :
    Calls Try.prog 7 #[.slice A0 l0.length c0, .agg #[.int .i64 a1_0, .int .i64 a1_1, .int .i64 a1_2, .int .i64 a1_3, .int .i64 a1_4, .int .i64 a1_5, .bool a1_6, .int .i64 a1_7, .int .i64 a1_8]] w fun e w' => ∃ v0_ : Value, e = .returned (.tuple #[v0_, .agg #[.int .i64 q0_.f0.f0, .int .i64 q0_.f0.f1, .int .i64 q0_.f0.f2, .int .i64 q0_.f0.f3, .int .i64 q0_.f0.f4, .int .i64 q0_.f1, .bool q0_.f2, .int .i64 q0_.f3, .int .i64 q0_.f4], .bool r11, .int .i64 r12]) ∧ Kd.R k26 26 w' w.heap.size (fun _ => True) v0_ r1 ∧ Below w.heap.size w w' := by
  have hu := Try.underlying26
  have hu2 := Try.underlying24
  have HR := Aside0.mk hr0
  have HC0 := Aside0.mk hc0
  have HL := Aside0.mk hlt
  have HM := Aside0.mk (fun (b : Bool) (hb : (open Classical in decide (CcLaw.Good l0)) = b) => (show wharfageref10_CacheMay.f (l0.length * (l0.length + 2) + 1) l0 = some b by rw [← hb]; exact CcLaw.cr_f l0 (by omega) _ (Nat.le_refl _)))
  have HEM := Aside0.mk (fun (b : Bool) (hb : CcLaw.emB (⟨⟨a1_0, a1_1, a1_2, a1_3, a1_4⟩, a1_5, a1_6, a1_7, a1_8⟩ : S26) = b) => (show wharfageref10_EntryMay.f a1_0 a1_1 a1_2 a1_3 a1_4 a1_5 a1_6 a1_7 a1_8 = some b by rw [← hb]; exact CcLaw.emr_f (⟨⟨a1_0, a1_1, a1_2, a1_3, a1_4⟩, a1_5, a1_6, a1_7, a1_8⟩ : S26)))
  have HH := Aside0.mk h
  clear hr0 hc0 hlt h
  go_enter Try.func7, Try.ntmps7
  go_wp2_with fail
  obtain ⟨n5, hn5⟩ : ∃ n, n = w.heap.size + 1 := ⟨_, rfl⟩
  obtain ⟨n3, hn3⟩ : ∃ n, n = w.heap.size := ⟨_, rfl⟩
  obtain ⟨wb, hwb⟩ : ∃ x_, x_ = (w.alloc (.cells #[.int .i64 a1_0, .int .i64 a1_1, .int .i64 a1_2, .int .i64 a1_3, .int .i64 a1_4, .int .i64 a1_5, .bool a1_6, .int .i64 a1_7, .int .i64 a1_8] 26)).alloc (.cells #[.int .i64 0, .int .i64 0, .int .i64 0, .int .i64 0, .int .i64 0, .int .i64 0, .bool false, .int .i64 0, .int .i64 0] 26) := ⟨_, rfl⟩
  have H3 := Aside0.mk (show wb.heap[n3]? = some (.cells #[.int .i64 a1_0, .int .i64 a1_1, .int .i64 a1_2, .int .i64 a1_3, .int .i64 a1_4, .int .i64 a1_5, .bool a1_6, .int .i64 a1_7, .int .i64 a1_8] 26 (0, 0)) by rw [hwb, hn3]; exact pe_alloc (heap_alloc_new w _) _)
  have H5 := Aside0.mk (show wb.heap[n5]? = some (.cells #[.int .i64 0, .int .i64 0, .int .i64 0, .int .i64 0, .int .i64 0, .int .i64 0, .bool false, .int .i64 0, .int .i64 0] 26 (0, 0)) by rw [hwb, hn5]; simpa only [World.size_alloc] using heap_alloc_new (w.alloc (.cells #[.int .i64 a1_0, .int .i64 a1_1, .int .i64 a1_2, .int .i64 a1_3, .int .i64 a1_4, .int .i64 a1_5, .bool a1_6, .int .i64 a1_7, .int .i64 a1_8] 26)) (.cells #[.int .i64 0, .int .i64 0, .int .i64 0, .int .i64 0, .int .i64 0, .int .i64 0, .bool false, .int .i64 0, .int .i64 0] 26 (0, 0)))
  have HB := Aside0.mk (show Below w.heap.size w wb by rw [hwb]; exact below_alloc (below_alloc (Below.refl _ _) _) _)
  have HN := Aside0.mk (show w.heap.size ≤ n3 ∧ w.heap.size ≤ n5 ∧ n3 ≠ n5 by omega)
  rw [← hwb, ← hn5, ← hn3]
  clear hwb hn5 hn3
  have k0 : wb.cell? ⟨n3, 0, none⟩ = some (.int .i64 a1_0) := (pe_cell H3.out).trans rfl
  have k1 : wb.cell? ⟨n3, 1, none⟩ = some (.int .i64 a1_1) := (pe_cell H3.out).trans rfl
  have k2 : wb.cell? ⟨n3, 2, none⟩ = some (.int .i64 a1_2) := (pe_cell H3.out).trans rfl
  have k3 : wb.cell? ⟨n3, 3, none⟩ = some (.int .i64 a1_3) := (pe_cell H3.out).trans rfl
  have k4 : wb.cell? ⟨n3, 4, none⟩ = some (.int .i64 a1_4) := (pe_cell H3.out).trans rfl
  have k5 : wb.cell? ⟨n3, 5, none⟩ = some (.int .i64 a1_5) := (pe_cell H3.out).trans rfl
  have k6 : wb.cell? ⟨n3, 6, none⟩ = some (.bool a1_6) := (pe_cell H3.out).trans rfl
  have k7 : wb.cell? ⟨n3, 7, none⟩ = some (.int .i64 a1_7) := (pe_cell H3.out).trans rfl
  have k8 : wb.cell? ⟨n3, 8, none⟩ = some (.int .i64 a1_8) := (pe_cell H3.out).trans rfl
  have z0 : wb.cell? ⟨n5, 0, none⟩ = some (.int .i64 0) := (pe_cell H5.out).trans rfl
  have y0 : wb.frozen? ⟨n5, 0, none⟩ = false := pe_free H5.out
  have z1 : wb.cell? ⟨n5, 1, none⟩ = some (.int .i64 0) := (pe_cell H5.out).trans rfl
  have y1 : wb.frozen? ⟨n5, 1, none⟩ = false := pe_free H5.out
  have z2 : wb.cell? ⟨n5, 2, none⟩ = some (.int .i64 0) := (pe_cell H5.out).trans rfl
  have y2 : wb.frozen? ⟨n5, 2, none⟩ = false := pe_free H5.out
  have z3 : wb.cell? ⟨n5, 3, none⟩ = some (.int .i64 0) := (pe_cell H5.out).trans rfl
  have y3 : wb.frozen? ⟨n5, 3, none⟩ = false := pe_free H5.out
  have z4 : wb.cell? ⟨n5, 4, none⟩ = some (.int .i64 0) := (pe_cell H5.out).trans rfl
  have y4 : wb.frozen? ⟨n5, 4, none⟩ = false := pe_free H5.out
  have z5 : wb.cell? ⟨n5, 5, none⟩ = some (.int .i64 0) := (pe_cell H5.out).trans rfl
  have y5 : wb.frozen? ⟨n5, 5, none⟩ = false := pe_free H5.out
  have z6 : wb.cell? ⟨n5, 6, none⟩ = some (.bool false) := (pe_cell H5.out).trans rfl
  have y6 : wb.frozen? ⟨n5, 6, none⟩ = false := pe_free H5.out
  have z7 : wb.cell? ⟨n5, 7, none⟩ = some (.int .i64 0) := (pe_cell H5.out).trans rfl
  have y7 : wb.frozen? ⟨n5, 7, none⟩ = false := pe_free H5.out
  have z8 : wb.cell? ⟨n5, 8, none⟩ = some (.int .i64 0) := (pe_cell H5.out).trans rfl
  have y8 : wb.frozen? ⟨n5, 8, none⟩ = false := pe_free H5.out
  by_cases hg : CcLaw.Good l0
  · have HG := Aside0.mk (show (open Classical in decide (CcLaw.Good l0)) = true from decide_eq_true hg)
    cases he : CcLaw.emB (⟨⟨a1_0, a1_1, a1_2, a1_3, a1_4⟩, a1_5, a1_6, a1_7, a1_8⟩ : S26)
    · have HE := Aside0.mk he
      obtain ⟨rfl, rfl, rfl, rfl⟩ : [] = r1 ∧ (⟨⟨0, 0, 0, 0, 0⟩, 0, false, 0, 0⟩ : S26) = q0_ ∧ false = r11 ∧ 1600 = r12 := by
        have h := HH.out
        unfold wharfageref10_PutEntry.g at h
        rw [if_neg (by intro hh; rw [he] at hh; exact absurd hh.2 (by decide))] at h
        simpa using h
      clear hg he
      go_wp2_with first
        | (go_at_call 17; refine (wharfageref10_CacheMay.calls (l0.length * (l0.length + 2) + 1) A0 c0 l0 true _ (Kd.C_below HR.out HB.out) HC0.out (HM.out true HG.out)).mono ?_; rintro e w1 ⟨rfl, hb⟩; replace H3 := Aside0.mk (pe_below H3.out hb); replace H5 := Aside0.mk (pe_below H5.out hb); replace HB := Aside0.mk (below_step HB.out hb); clear k0 k1 k2 k3 k4 k5 k6 k7 k8 z0 y0 z1 y1 z2 y2 z3 y3 z4 y4 z5 y5 z6 y6 z7 y7 z8 y8; have k0 : w1.cell? ⟨n3, 0, none⟩ = some (.int .i64 a1_0) := (pe_cell H3.out).trans rfl; have k1 : w1.cell? ⟨n3, 1, none⟩ = some (.int .i64 a1_1) := (pe_cell H3.out).trans rfl; have k2 : w1.cell? ⟨n3, 2, none⟩ = some (.int .i64 a1_2) := (pe_cell H3.out).trans rfl; have k3 : w1.cell? ⟨n3, 3, none⟩ = some (.int .i64 a1_3) := (pe_cell H3.out).trans rfl; have k4 : w1.cell? ⟨n3, 4, none⟩ = some (.int .i64 a1_4) := (pe_cell H3.out).trans rfl; have k5 : w1.cell? ⟨n3, 5, none⟩ = some (.int .i64 a1_5) := (pe_cell H3.out).trans rfl; have k6 : w1.cell? ⟨n3, 6, none⟩ = some (.bool a1_6) := (pe_cell H3.out).trans rfl; have k7 : w1.cell? ⟨n3, 7, none⟩ = some (.int .i64 a1_7) := (pe_cell H3.out).trans rfl; have k8 : w1.cell? ⟨n3, 8, none⟩ = some (.int .i64 a1_8) := (pe_cell H3.out).trans rfl; have z0 : w1.cell? ⟨n5, 0, none⟩ = some (.int .i64 0) := (pe_cell H5.out).trans rfl; have y0 : w1.frozen? ⟨n5, 0, none⟩ = false := pe_free H5.out; have z1 : w1.cell? ⟨n5, 1, none⟩ = some (.int .i64 0) := (pe_cell H5.out).trans rfl; have y1 : w1.frozen? ⟨n5, 1, none⟩ = false := pe_free H5.out; have z2 : w1.cell? ⟨n5, 2, none⟩ = some (.int .i64 0) := (pe_cell H5.out).trans rfl; have y2 : w1.frozen? ⟨n5, 2, none⟩ = false := pe_free H5.out; have z3 : w1.cell? ⟨n5, 3, none⟩ = some (.int .i64 0) := (pe_cell H5.out).trans rfl; have y3 : w1.frozen? ⟨n5, 3, none⟩ = false := pe_free H5.out; have z4 : w1.cell? ⟨n5, 4, none⟩ = some (.int .i64 0) := (pe_cell H5.out).trans rfl; have y4 : w1.frozen? ⟨n5, 4, none⟩ = false := pe_free H5.out; have z5 : w1.cell? ⟨n5, 5, none⟩ = some (.int .i64 0) := (pe_cell H5.out).trans rfl; have y5 : w1.frozen? ⟨n5, 5, none⟩ = false := pe_free H5.out; have z6 : w1.cell? ⟨n5, 6, none⟩ = some (.bool false) := (pe_cell H5.out).trans rfl; have y6 : w1.frozen? ⟨n5, 6, none⟩ = false := pe_free H5.out; have z7 : w1.cell? ⟨n5, 7, none⟩ = some (.int .i64 0) := (pe_cell H5.out).trans rfl; have y7 : w1.frozen? ⟨n5, 7, none⟩ = false := pe_free H5.out; have z8 : w1.cell? ⟨n5, 8, none⟩ = some (.int .i64 0) := (pe_cell H5.out).trans rfl; have y8 : w1.frozen? ⟨n5, 8, none⟩ = false := pe_free H5.out; clear hb)
        | (go_at_call 26; refine (wharfageref10_EntryMay.calls a1_0 a1_1 a1_2 a1_3 a1_4 a1_5 a1_6 a1_7 a1_8 false _ (HEM.out false HE.out)).mono ?_; rintro e w2 ⟨rfl, hb⟩; replace H3 := Aside0.mk (pe_below H3.out hb); replace H5 := Aside0.mk (pe_below H5.out hb); replace HB := Aside0.mk (below_step HB.out hb); clear k0 k1 k2 k3 k4 k5 k6 k7 k8 z0 y0 z1 y1 z2 y2 z3 y3 z4 y4 z5 y5 z6 y6 z7 y7 z8 y8; have k0 : w2.cell? ⟨n3, 0, none⟩ = some (.int .i64 a1_0) := (pe_cell H3.out).trans rfl; have k1 : w2.cell? ⟨n3, 1, none⟩ = some (.int .i64 a1_1) := (pe_cell H3.out).trans rfl; have k2 : w2.cell? ⟨n3, 2, none⟩ = some (.int .i64 a1_2) := (pe_cell H3.out).trans rfl; have k3 : w2.cell? ⟨n3, 3, none⟩ = some (.int .i64 a1_3) := (pe_cell H3.out).trans rfl; have k4 : w2.cell? ⟨n3, 4, none⟩ = some (.int .i64 a1_4) := (pe_cell H3.out).trans rfl; have k5 : w2.cell? ⟨n3, 5, none⟩ = some (.int .i64 a1_5) := (pe_cell H3.out).trans rfl; have k6 : w2.cell? ⟨n3, 6, none⟩ = some (.bool a1_6) := (pe_cell H3.out).trans rfl; have k7 : w2.cell? ⟨n3, 7, none⟩ = some (.int .i64 a1_7) := (pe_cell H3.out).trans rfl; have k8 : w2.cell? ⟨n3, 8, none⟩ = some (.int .i64 a1_8) := (pe_cell H3.out).trans rfl; have z0 : w2.cell? ⟨n5, 0, none⟩ = some (.int .i64 0) := (pe_cell H5.out).trans rfl; have y0 : w2.frozen? ⟨n5, 0, none⟩ = false := pe_free H5.out; have z1 : w2.cell? ⟨n5, 1, none⟩ = some (.int .i64 0) := (pe_cell H5.out).trans rfl; have y1 : w2.frozen? ⟨n5, 1, none⟩ = false := pe_free H5.out; have z2 : w2.cell? ⟨n5, 2, none⟩ = some (.int .i64 0) := (pe_cell H5.out).trans rfl; have y2 : w2.frozen? ⟨n5, 2, none⟩ = false := pe_free H5.out; have z3 : w2.cell? ⟨n5, 3, none⟩ = some (.int .i64 0) := (pe_cell H5.out).trans rfl; have y3 : w2.frozen? ⟨n5, 3, none⟩ = false := pe_free H5.out; have z4 : w2.cell? ⟨n5, 4, none⟩ = some (.int .i64 0) := (pe_cell H5.out).trans rfl; have y4 : w2.frozen? ⟨n5, 4, none⟩ = false := pe_free H5.out; have z5 : w2.cell? ⟨n5, 5, none⟩ = some (.int .i64 0) := (pe_cell H5.out).trans rfl; have y5 : w2.frozen? ⟨n5, 5, none⟩ = false := pe_free H5.out; have z6 : w2.cell? ⟨n5, 6, none⟩ = some (.bool false) := (pe_cell H5.out).trans rfl; have y6 : w2.frozen? ⟨n5, 6, none⟩ = false := pe_free H5.out; have z7 : w2.cell? ⟨n5, 7, none⟩ = some (.int .i64 0) := (pe_cell H5.out).trans rfl; have y7 : w2.frozen? ⟨n5, 7, none⟩ = false := pe_free H5.out; have z8 : w2.cell? ⟨n5, 8, none⟩ = some (.int .i64 0) := (pe_cell H5.out).trans rfl; have y8 : w2.frozen? ⟨n5, 8, none⟩ = false := pe_free H5.out; clear hb)
      refine bodyPost_ret (results_list (rs := [.tmp 4, .cell 5 26, .tmp 6, .tmp 7]) rfl (by simp) (.tmp (.cell n5 26 #[.int .i64 0, .int .i64 0, .int .i64 0, .int .i64 0, .int .i64 0, .int .i64 0, .bool false, .int .i64 0, .int .i64 0] (0, 0) _ rfl (by refine blk_put (cs := #[.int .i64 0, .int .i64 0, .int .i64 0, .int .i64 0, .int .i64 0, .int .i64 0, .bool false, .int .i64 0, .int .i64 0]) ?_ 8 _ rfl; refine blk_put (cs := #[.int .i64 0, .int .i64 0, .int .i64 0, .int .i64 0, .int .i64 0, .int .i64 0, .bool false, .int .i64 0, .int .i64 0]) ?_ 7 _ rfl; refine blk_put (cs := #[.int .i64 0, .int .i64 0, .int .i64 0, .int .i64 0, .int .i64 0, .int .i64 0, .bool false, .int .i64 0, .int .i64 0]) ?_ 6 _ rfl; refine blk_put (cs := #[.int .i64 0, .int .i64 0, .int .i64 0, .int .i64 0, .int .i64 0, .int .i64 0, .bool false, .int .i64 0, .int .i64 0]) ?_ 5 _ rfl; refine blk_put (cs := #[.int .i64 0, .int .i64 0, .int .i64 0, .int .i64 0, .int .i64 0, .int .i64 0, .bool false, .int .i64 0, .int .i64 0]) ?_ 4 _ rfl; refine blk_put (cs := #[.int .i64 0, .int .i64 0, .int .i64 0, .int .i64 0, .int .i64 0, .int .i64 0, .bool false, .int .i64 0, .int .i64 0]) ?_ 3 _ rfl; refine blk_put (cs := #[.int .i64 0, .int .i64 0, .int .i64 0, .int .i64 0, .int .i64 0, .int .i64 0, .bool false, .int .i64 0, .int .i64 0]) ?_ 2 _ rfl; refine blk_put (cs := #[.int .i64 0, .int .i64 0, .int .i64 0, .int .i64 0, .int .i64 0, .int .i64 0, .bool false, .int .i64 0, .int .i64 0]) ?_ 1 _ rfl; refine blk_put (cs := #[.int .i64 0, .int .i64 0, .int .i64 0, .int .i64 0, .int .i64 0, .int .i64 0, .bool false, .int .i64 0, .int .i64 0]) ?_ 0 _ rfl; exact H5.out) Try.underlying26 rfl (by kernel_rfl) (.tmp (.tmp .nil))))) rfl ?_
      exact ⟨_, rfl, Kd.R_nil _ _ _ _ _, (by (with_reducible repeat (first | exact HB.out | refine below_set ?_ HN.out.2.1 | refine below_drew1 ?_ | refine pw_below_drewN ?_ _)))⟩
    · have HE := Aside0.mk he
      have HGE := Aside0.mk (And.intro hg he)
      clear hg he
      go_upto_region 3 with first
        | (go_at_call 17; refine (wharfageref10_CacheMay.calls (l0.length * (l0.length + 2) + 1) A0 c0 l0 true _ (Kd.C_below HR.out HB.out) HC0.out (HM.out true HG.out)).mono ?_; rintro e w1 ⟨rfl, hb⟩; replace H3 := Aside0.mk (pe_below H3.out hb); replace H5 := Aside0.mk (pe_below H5.out hb); replace HB := Aside0.mk (below_step HB.out hb); clear k0 k1 k2 k3 k4 k5 k6 k7 k8 z0 y0 z1 y1 z2 y2 z3 y3 z4 y4 z5 y5 z6 y6 z7 y7 z8 y8; have k0 : w1.cell? ⟨n3, 0, none⟩ = some (.int .i64 a1_0) := (pe_cell H3.out).trans rfl; have k1 : w1.cell? ⟨n3, 1, none⟩ = some (.int .i64 a1_1) := (pe_cell H3.out).trans rfl; have k2 : w1.cell? ⟨n3, 2, none⟩ = some (.int .i64 a1_2) := (pe_cell H3.out).trans rfl; have k3 : w1.cell? ⟨n3, 3, none⟩ = some (.int .i64 a1_3) := (pe_cell H3.out).trans rfl; have k4 : w1.cell? ⟨n3, 4, none⟩ = some (.int .i64 a1_4) := (pe_cell H3.out).trans rfl; have k5 : w1.cell? ⟨n3, 5, none⟩ = some (.int .i64 a1_5) := (pe_cell H3.out).trans rfl; have k6 : w1.cell? ⟨n3, 6, none⟩ = some (.bool a1_6) := (pe_cell H3.out).trans rfl; have k7 : w1.cell? ⟨n3, 7, none⟩ = some (.int .i64 a1_7) := (pe_cell H3.out).trans rfl; have k8 : w1.cell? ⟨n3, 8, none⟩ = some (.int .i64 a1_8) := (pe_cell H3.out).trans rfl; have z0 : w1.cell? ⟨n5, 0, none⟩ = some (.int .i64 0) := (pe_cell H5.out).trans rfl; have y0 : w1.frozen? ⟨n5, 0, none⟩ = false := pe_free H5.out; have z1 : w1.cell? ⟨n5, 1, none⟩ = some (.int .i64 0) := (pe_cell H5.out).trans rfl; have y1 : w1.frozen? ⟨n5, 1, none⟩ = false := pe_free H5.out; have z2 : w1.cell? ⟨n5, 2, none⟩ = some (.int .i64 0) := (pe_cell H5.out).trans rfl; have y2 : w1.frozen? ⟨n5, 2, none⟩ = false := pe_free H5.out; have z3 : w1.cell? ⟨n5, 3, none⟩ = some (.int .i64 0) := (pe_cell H5.out).trans rfl; have y3 : w1.frozen? ⟨n5, 3, none⟩ = false := pe_free H5.out; have z4 : w1.cell? ⟨n5, 4, none⟩ = some (.int .i64 0) := (pe_cell H5.out).trans rfl; have y4 : w1.frozen? ⟨n5, 4, none⟩ = false := pe_free H5.out; have z5 : w1.cell? ⟨n5, 5, none⟩ = some (.int .i64 0) := (pe_cell H5.out).trans rfl; have y5 : w1.frozen? ⟨n5, 5, none⟩ = false := pe_free H5.out; have z6 : w1.cell? ⟨n5, 6, none⟩ = some (.bool false) := (pe_cell H5.out).trans rfl; have y6 : w1.frozen? ⟨n5, 6, none⟩ = false := pe_free H5.out; have z7 : w1.cell? ⟨n5, 7, none⟩ = some (.int .i64 0) := (pe_cell H5.out).trans rfl; have y7 : w1.frozen? ⟨n5, 7, none⟩ = false := pe_free H5.out; have z8 : w1.cell? ⟨n5, 8, none⟩ = some (.int .i64 0) := (pe_cell H5.out).trans rfl; have y8 : w1.frozen? ⟨n5, 8, none⟩ = false := pe_free H5.out; clear hb)
        | (go_at_call 26; refine (wharfageref10_EntryMay.calls a1_0 a1_1 a1_2 a1_3 a1_4 a1_5 a1_6 a1_7 a1_8 true _ (HEM.out true HE.out)).mono ?_; rintro e w2 ⟨rfl, hb⟩; replace H3 := Aside0.mk (pe_below H3.out hb); replace H5 := Aside0.mk (pe_below H5.out hb); replace HB := Aside0.mk (below_step HB.out hb); clear k0 k1 k2 k3 k4 k5 k6 k7 k8 z0 y0 z1 y1 z2 y2 z3 y3 z4 y4 z5 y5 z6 y6 z7 y7 z8 y8; have k0 : w2.cell? ⟨n3, 0, none⟩ = some (.int .i64 a1_0) := (pe_cell H3.out).trans rfl; have k1 : w2.cell? ⟨n3, 1, none⟩ = some (.int .i64 a1_1) := (pe_cell H3.out).trans rfl; have k2 : w2.cell? ⟨n3, 2, none⟩ = some (.int .i64 a1_2) := (pe_cell H3.out).trans rfl; have k3 : w2.cell? ⟨n3, 3, none⟩ = some (.int .i64 a1_3) := (pe_cell H3.out).trans rfl; have k4 : w2.cell? ⟨n3, 4, none⟩ = some (.int .i64 a1_4) := (pe_cell H3.out).trans rfl; have k5 : w2.cell? ⟨n3, 5, none⟩ = some (.int .i64 a1_5) := (pe_cell H3.out).trans rfl; have k6 : w2.cell? ⟨n3, 6, none⟩ = some (.bool a1_6) := (pe_cell H3.out).trans rfl; have k7 : w2.cell? ⟨n3, 7, none⟩ = some (.int .i64 a1_7) := (pe_cell H3.out).trans rfl; have k8 : w2.cell? ⟨n3, 8, none⟩ = some (.int .i64 a1_8) := (pe_cell H3.out).trans rfl; have z0 : w2.cell? ⟨n5, 0, none⟩ = some (.int .i64 0) := (pe_cell H5.out).trans rfl; have y0 : w2.frozen? ⟨n5, 0, none⟩ = false := pe_free H5.out; have z1 : w2.cell? ⟨n5, 1, none⟩ = some (.int .i64 0) := (pe_cell H5.out).trans rfl; have y1 : w2.frozen? ⟨n5, 1, none⟩ = false := pe_free H5.out; have z2 : w2.cell? ⟨n5, 2, none⟩ = some (.int .i64 0) := (pe_cell H5.out).trans rfl; have y2 : w2.frozen? ⟨n5, 2, none⟩ = false := pe_free H5.out; have z3 : w2.cell? ⟨n5, 3, none⟩ = some (.int .i64 0) := (pe_cell H5.out).trans rfl; have y3 : w2.frozen? ⟨n5, 3, none⟩ = false := pe_free H5.out; have z4 : w2.cell? ⟨n5, 4, none⟩ = some (.int .i64 0) := (pe_cell H5.out).trans rfl; have y4 : w2.frozen? ⟨n5, 4, none⟩ = false := pe_free H5.out; have z5 : w2.cell? ⟨n5, 5, none⟩ = some (.int .i64 0) := (pe_cell H5.out).trans rfl; have y5 : w2.frozen? ⟨n5, 5, none⟩ = false := pe_free H5.out; have z6 : w2.cell? ⟨n5, 6, none⟩ = some (.bool false) := (pe_cell H5.out).trans rfl; have y6 : w2.frozen? ⟨n5, 6, none⟩ = false := pe_free H5.out; have z7 : w2.cell? ⟨n5, 7, none⟩ = some (.int .i64 0) := (pe_cell H5.out).trans rfl; have y7 : w2.frozen? ⟨n5, 7, none⟩ = false := pe_free H5.out; have z8 : w2.cell? ⟨n5, 8, none⟩ = some (.int .i64 0) := (pe_cell H5.out).trans rfl; have y8 : w2.frozen? ⟨n5, 8, none⟩ = false := pe_free H5.out; clear hb)
      clear k0 k1 k2 k3 k4 k5 k6 k7 k8 z0 y0 z1 y1 z2 y2 z3 y3 z4 y4 z5 y5 z6 y6 z7 y7 z8 y8
      go_cut [8] (fun s8 wx => ∃ vr : Value, s8 = vr ∧ Aside0 (Kd.R k26 26 wx w2.heap.size (fun _ => True) (vr) (CcLaw.out l0 (⟨⟨a1_0, a1_1, a1_2, a1_3, a1_4⟩, a1_5, a1_6, a1_7, a1_8⟩ : S26))) ∧ Aside0 (Below w2.heap.size w2 wx))
      case first =>
        refine start_ (n := 8) (S := fun w' => True) (ds := []) #[false, false, false, false, false, false, false, false] (by kernel_rfl) rfl rfl trivial (fun hHeld => ?_); refine with_tabW wharfageref10_PutEntry.tab3 wharfageref10_PutEntry.bits3 (fun HT_ HW_ => ?_)
        refine inv_at [0, 1, 2, 3, 4, 5, 6, 7] (fun a0_ b a w' => ∃ (vo : Value) (nb : Nat) (vr vz : Value), a = putSel a0_ b [(0, 18, .slice A0 l0.length c0), (1, 19, .pointer (some ⟨n3, 0, none⟩)), (2, 20, .agg #[.int .i64 a1_0, .int .i64 a1_1, .int .i64 a1_2, .int .i64 a1_3, .int .i64 a1_4]), (3, 21, vo), (4, 22, .agg #[.int .i64 a1_0, .int .i64 a1_1, .int .i64 a1_2, .int .i64 a1_3, .int .i64 a1_4, .int .i64 a1_5, .bool a1_6, .int .i64 a1_7, .int .i64 a1_8]), (5, 23, .slice (some ⟨nb, 0, none⟩) 1 1), (6, 24, vr), (7, 8, vz)] ∧ Below w2.heap.size w2 w' ∧ (b 3 = true → b 6 = false → Kd.R k26 26 w' w2.heap.size (fun _ => True) (vo) (CcLaw.rest l0 (⟨a1_0, a1_1, a1_2, a1_3, a1_4⟩ : S24))) ∧ (b 5 = true → b 6 = false → Kd.C k26 w' (some ⟨nb, 0, none⟩) 1 [(⟨⟨a1_0, a1_1, a1_2, a1_3, a1_4⟩, a1_5, a1_6, a1_7, a1_8⟩ : S26)]) ∧ (b 6 = true → Kd.R k26 26 w' w2.heap.size (fun _ => True) (vr) (CcLaw.out l0 (⟨⟨a1_0, a1_1, a1_2, a1_3, a1_4⟩, a1_5, a1_6, a1_7, a1_8⟩ : S26))) ∧ (b 7 = true → vz = vr)) HT_.out HW_.out (by kernel_rfl) (by kernel_rfl) ?_ ?_ ?_
        · exact ⟨.slice none 0 0, 0, .slice none 0 0, .slice none 0 0, by simp only [putSel, Bool.false_eq_true, if_false], below_drew1 (Below.refl _ _), fun h_ => absurd h_ (by decide), fun h_ => absurd h_ (by decide), fun h_ => absurd h_ (by decide), fun h_ => absurd h_ (by decide)⟩
        · skip
          refine steps_cons ?_ ?_
          · rintro b a w' ⟨vo, nb, vr, vz, ha, QB, Q3, Q5, Q6, Q7⟩ hb_ hon hoff
            refine ⟨_, rfl, fun K hK => ?_⟩
            have e0 : a.tmps[0]? = some (.slice A0 l0.length c0) := by rw [ha]; exact (putSel_off rfl).trans rfl
            replace ha := Aside0.mk ha
            refine value_ (w1 := w') (v := .slice A0 l0.length c0) (by rfl) rfl ?_ ?_
            · go_simp
              try rfl
            exact hK.out _ _ ⟨vo, nb, vr, vz, (by rw [ha.out]; exact putSel_upk 0 hb_ rfl rfl rfl), QB, Q3, Q5, Q6, Q7⟩
          refine steps_cons ?_ ?_
          · rintro b a w' ⟨vo, nb, vr, vz, ha, QB, Q3, Q5, Q6, Q7⟩ hb_ hon hoff
            refine ⟨_, rfl, fun K hK => ?_⟩
            have e3 : a.tmps[3]? = some (.pointer (some ⟨n3, 0, none⟩)) := by rw [ha]; exact (putSel_off rfl).trans rfl
            replace ha := Aside0.mk ha
            refine value_ (w1 := w') (v := .pointer (some ⟨n3, 0, none⟩)) (by rfl) rfl ?_ ?_
            · go_simp
              try rfl
            exact hK.out _ _ ⟨vo, nb, vr, vz, (by rw [ha.out]; exact putSel_upk 1 hb_ rfl rfl rfl), QB, Q3, Q5, Q6, Q7⟩
          refine steps_cons ?_ ?_
          · rintro b a w' ⟨vo, nb, vr, vz, ha, QB, Q3, Q5, Q6, Q7⟩ hb_ hon hoff
            refine ⟨_, rfl, fun K hK => ?_⟩
            have e19 : a.tmps[19]? = some (.pointer (some ⟨n3, 0, none⟩)) := by rw [ha]; exact putSel_on (e := (1, 19, .pointer (some ⟨n3, 0, none⟩))) 1 rfl rfl (hon 1 (by kernel_rfl)) rfl
            have q0 : w'.cell? ⟨n3, 0, none⟩ = some (.int .i64 a1_0) := (pe_cell (pe_below H3.out QB)).trans rfl
            have q1 : w'.cell? ⟨n3, 1, none⟩ = some (.int .i64 a1_1) := (pe_cell (pe_below H3.out QB)).trans rfl
            have q2 : w'.cell? ⟨n3, 2, none⟩ = some (.int .i64 a1_2) := (pe_cell (pe_below H3.out QB)).trans rfl
            have q3 : w'.cell? ⟨n3, 3, none⟩ = some (.int .i64 a1_3) := (pe_cell (pe_below H3.out QB)).trans rfl
            have q4 : w'.cell? ⟨n3, 4, none⟩ = some (.int .i64 a1_4) := (pe_cell (pe_below H3.out QB)).trans rfl
            have q5 : w'.cell? ⟨n3, 5, none⟩ = some (.int .i64 a1_5) := (pe_cell (pe_below H3.out QB)).trans rfl
            have q6 : w'.cell? ⟨n3, 6, none⟩ = some (.bool a1_6) := (pe_cell (pe_below H3.out QB)).trans rfl
            have q7 : w'.cell? ⟨n3, 7, none⟩ = some (.int .i64 a1_7) := (pe_cell (pe_below H3.out QB)).trans rfl
            have q8 : w'.cell? ⟨n3, 8, none⟩ = some (.int .i64 a1_8) := (pe_cell (pe_below H3.out QB)).trans rfl
            replace ha := Aside0.mk ha
            refine value_ (w1 := w') (v := .agg #[.int .i64 a1_0, .int .i64 a1_1, .int .i64 a1_2, .int .i64 a1_3, .int .i64 a1_4]) (by rfl) rfl ?_ ?_
            · go_simp
              try rfl
            exact hK.out _ _ ⟨vo, nb, vr, vz, (by rw [ha.out]; exact putSel_upk 2 hb_ rfl rfl rfl), QB, Q3, Q5, Q6, Q7⟩
          refine steps_cons ?_ ?_
          · rintro b a w' ⟨vo, nb, vr, vz, ha, QB, Q3, Q5, Q6, Q7⟩ hb_ hon hoff
            refine ⟨_, rfl, fun K hK => ?_⟩
            have e18 : a.tmps[18]? = some (.slice A0 l0.length c0) := by rw [ha]; exact putSel_on (e := (0, 18, .slice A0 l0.length c0)) 0 rfl rfl (hon 0 (by kernel_rfl)) rfl
            have e20 : a.tmps[20]? = some (.agg #[.int .i64 a1_0, .int .i64 a1_1, .int .i64 a1_2, .int .i64 a1_3, .int .i64 a1_4]) := by rw [ha]; exact putSel_on (e := (2, 20, .agg #[.int .i64 a1_0, .int .i64 a1_1, .int .i64 a1_2, .int .i64 a1_3, .int .i64 a1_4])) 2 rfl rfl (hon 2 (by kernel_rfl)) rfl
            replace ha := Aside0.mk ha
            refine goes_ Try.func27 (by kernel_rfl) rfl #[.slice A0 l0.length c0, .agg #[.int .i64 a1_0, .int .i64 a1_1, .int .i64 a1_2, .int .i64 a1_3, .int .i64 a1_4]] (by rfl) rfl rfl (by simp only [List.map_toArray, List.map_cons, List.map_nil, Act.eval, Array.getD_eq_getD_getElem?, e18, e20, Option.getD_some]) ?_
            refine (wharfageref10_without.calls (l0.length + 1) A0 c0 l0 a1_0 a1_1 a1_2 a1_3 a1_4 (CcLaw.rest l0 (⟨a1_0, a1_1, a1_2, a1_3, a1_4⟩ : S24)) _ (Kd.C_below HR.out (below_step HB.out QB)) HC0.out (CcLaw.wo_f l0 (⟨a1_0, a1_1, a1_2, a1_3, a1_4⟩ : S24) HL.out _ (by omega))).mono ?_
            rintro e wc ⟨v1, rfl, ho, hb⟩
            have hR := Kd.R_lower ho (below_size QB)
            refine ⟨_, rfl, ?_⟩
            exact hK.out _ _ ⟨v1, nb, vr, vz, (by rw [ha.out]; exact putSel_upk 3 hb_ rfl rfl rfl), below_step QB hb, fun _ _ => hR, fun h5_ h6_ => Kd.C_below (Q5 h5_ h6_) hb, fun h6_ => absurd ((hoff 6 (by kernel_rfl)).symm.trans h6_) (by decide), fun h7_ => absurd ((hoff 7 (by kernel_rfl)).symm.trans h7_) (by decide)⟩
          refine steps_cons ?_ ?_
          · rintro b a w' ⟨vo, nb, vr, vz, ha, QB, Q3, Q5, Q6, Q7⟩ hb_ hon hoff
            refine ⟨_, rfl, fun K hK => ?_⟩
            have e3 : a.tmps[3]? = some (.pointer (some ⟨n3, 0, none⟩)) := by rw [ha]; exact (putSel_off rfl).trans rfl
            have q0 : w'.cell? ⟨n3, 0, none⟩ = some (.int .i64 a1_0) := (pe_cell (pe_below H3.out QB)).trans rfl
            have q1 : w'.cell? ⟨n3, 1, none⟩ = some (.int .i64 a1_1) := (pe_cell (pe_below H3.out QB)).trans rfl
            have q2 : w'.cell? ⟨n3, 2, none⟩ = some (.int .i64 a1_2) := (pe_cell (pe_below H3.out QB)).trans rfl
            have q3 : w'.cell? ⟨n3, 3, none⟩ = some (.int .i64 a1_3) := (pe_cell (pe_below H3.out QB)).trans rfl
            have q4 : w'.cell? ⟨n3, 4, none⟩ = some (.int .i64 a1_4) := (pe_cell (pe_below H3.out QB)).trans rfl
            have q5 : w'.cell? ⟨n3, 5, none⟩ = some (.int .i64 a1_5) := (pe_cell (pe_below H3.out QB)).trans rfl
            have q6 : w'.cell? ⟨n3, 6, none⟩ = some (.bool a1_6) := (pe_cell (pe_below H3.out QB)).trans rfl
            have q7 : w'.cell? ⟨n3, 7, none⟩ = some (.int .i64 a1_7) := (pe_cell (pe_below H3.out QB)).trans rfl
            have q8 : w'.cell? ⟨n3, 8, none⟩ = some (.int .i64 a1_8) := (pe_cell (pe_below H3.out QB)).trans rfl
            replace ha := Aside0.mk ha
            refine value_ (w1 := w') (v := .agg #[.int .i64 a1_0, .int .i64 a1_1, .int .i64 a1_2, .int .i64 a1_3, .int .i64 a1_4, .int .i64 a1_5, .bool a1_6, .int .i64 a1_7, .int .i64 a1_8]) (by rfl) rfl ?_ ?_
            · go_simp
              try rfl
            exact hK.out _ _ ⟨vo, nb, vr, vz, (by rw [ha.out]; exact putSel_upk 4 hb_ rfl rfl rfl), QB, Q3, Q5, Q6, Q7⟩
          refine steps_cons ?_ ?_
          · rintro b a w' ⟨vo, nb, vr, vz, ha, QB, Q3, Q5, Q6, Q7⟩ hb_ hon hoff
            refine ⟨_, rfl, fun K hK => ?_⟩
            have e22 : a.tmps[22]? = some (.agg #[.int .i64 a1_0, .int .i64 a1_1, .int .i64 a1_2, .int .i64 a1_3, .int .i64 a1_4, .int .i64 a1_5, .bool a1_6, .int .i64 a1_7, .int .i64 a1_8]) := by rw [ha]; exact putSel_on (e := (4, 22, .agg #[.int .i64 a1_0, .int .i64 a1_1, .int .i64 a1_2, .int .i64 a1_3, .int .i64 a1_4, .int .i64 a1_5, .bool a1_6, .int .i64 a1_7, .int .i64 a1_8])) 4 rfl rfl (hon 4 (by kernel_rfl)) rfl
            replace ha := Aside0.mk ha
            refine value_ (w1 := w'.alloc (.cells #[.int .i64 a1_0, .int .i64 a1_1, .int .i64 a1_2, .int .i64 a1_3, .int .i64 a1_4, .int .i64 a1_5, .bool a1_6, .int .i64 a1_7, .int .i64 a1_8] 26)) (v := .slice (some ⟨w'.heap.size, 0, none⟩) 1 1) (by rfl) rfl ?_ ?_
            · go_simp
              try rfl
            exact hK.out _ _ ⟨vo, w'.heap.size, vr, vz, (by rw [ha.out]; exact putSel_upk 5 hb_ rfl rfl rfl), below_alloc QB _, fun h3_ h6_ => Kd.R_alloc (Q3 h3_ h6_) _, fun _ _ => pe_lit (⟨⟨a1_0, a1_1, a1_2, a1_3, a1_4⟩, a1_5, a1_6, a1_7, a1_8⟩ : S26), fun h6_ => absurd ((hoff 6 (by kernel_rfl)).symm.trans h6_) (by decide), fun h7_ => absurd ((hoff 7 (by kernel_rfl)).symm.trans h7_) (by decide)⟩
          refine steps_cons ?_ ?_
          · rintro b a w' ⟨vo, nb, vr, vz, ha, QB, Q3, Q5, Q6, Q7⟩ hb_ hon hoff
            refine ⟨_, rfl, fun K hK => ?_⟩
            have e21 : a.tmps[21]? = some (vo) := by rw [ha]; exact putSel_on (e := (3, 21, vo)) 3 rfl rfl (hon 3 (by kernel_rfl)) rfl
            have e23 : a.tmps[23]? = some (.slice (some ⟨nb, 0, none⟩) 1 1) := by rw [ha]; exact putSel_on (e := (5, 23, .slice (some ⟨nb, 0, none⟩) 1 1)) 5 rfl rfl (hon 5 (by kernel_rfl)) rfl
            replace ha := Aside0.mk ha
            have h6f := hb_
            refine Kd.R_append_rows_step k26 (w0 := w2) w2.heap.size (by rfl) (.tmp 21) (.tmp 23) 22 26 (.agg #[.int .i64 0, .int .i64 0, .int .i64 0, .int .i64 0, .int .i64 0, .int .i64 0, .bool false, .int .i64 0, .int .i64 0]) 72 rfl Try.underlying22 wharfageref10_PutEntry.info rfl (by decide) (by omega) vo (CcLaw.rest l0 (⟨a1_0, a1_1, a1_2, a1_3, a1_4⟩ : S24)) [(⟨⟨a1_0, a1_1, a1_2, a1_3, a1_4⟩, a1_5, a1_6, a1_7, a1_8⟩ : S26)] (some ⟨nb, 0, none⟩) 1 1 (fun _ => True) (fun _ => False) (by simp only [Act.eval, Array.getD_eq_getD_getElem?, e21, Option.getD_some]) (by simp only [Act.eval, Array.getD_eq_getD_getElem?, e23, Option.getD_some]) (Q3 (hon 3 (by kernel_rfl)) h6f) (Q5 (hon 5 (by kernel_rfl)) h6f) (fun _ _ h => h) (fun _ h => h.elim) (fun _ _ => trivial) QB (below_size QB) (by have h1 : (CcLaw.rest l0 (⟨a1_0, a1_1, a1_2, a1_3, a1_4⟩ : S24)).length ≤ l0.length := List.length_filter_le _ _; have h2 := HL.out; omega) ?_
            intro v1 w1 hR hb hg_ hat_
            exact hK.out _ _ ⟨vo, nb, v1, vz, (by rw [ha.out]; exact putSel_upk 6 hb_ rfl rfl rfl), hb, fun _ h_ => absurd ((up_self b 6).symm.trans h_) (by decide), fun _ h_ => absurd ((up_self b 6).symm.trans h_) (by decide), fun _ => hR, fun h7_ => absurd ((hoff 7 (by kernel_rfl)).symm.trans h7_) (by decide)⟩
          refine steps_cons ?_ ?_
          · rintro b a w' ⟨vo, nb, vr, vz, ha, QB, Q3, Q5, Q6, Q7⟩ hb_ hon hoff
            refine ⟨_, rfl, fun K hK => ?_⟩
            have e24 : a.tmps[24]? = some (vr) := by rw [ha]; exact putSel_on (e := (6, 24, vr)) 6 rfl rfl (hon 6 (by kernel_rfl)) rfl
            replace ha := Aside0.mk ha
            refine value_ (w1 := w') (v := vr) (by rfl) rfl ?_ ?_
            · go_simp
              try rfl
            exact hK.out _ _ ⟨vo, nb, vr, vr, (by rw [ha.out]; exact putSel_upk 7 hb_ rfl rfl rfl), QB, Q3, Q5, Q6, fun _ => rfl⟩
          exact steps_nil
        rintro b a wx hall ⟨vo, nb, vr, vz, ha, QB, Q3, Q5, Q6, Q7⟩
        have hb0_ := hall 0 (by kernel_rfl)
        have hb1_ := hall 1 (by kernel_rfl)
        have hb2_ := hall 2 (by kernel_rfl)
        have hb3_ := hall 3 (by kernel_rfl)
        have hb4_ := hall 4 (by kernel_rfl)
        have hb5_ := hall 5 (by kernel_rfl)
        have hb6_ := hall 6 (by kernel_rfl)
        have hb7_ := hall 7 (by kernel_rfl)
        subst ha
        simp only [putSel, hb0_, hb1_, hb2_, hb3_, hb4_, hb5_, hb6_, hb7_, if_true, Act.put, List.setIfInBounds_toArray, List.set_cons_zero, List.set_cons_succ]
        obtain rfl := Q7 hb7_
        have Q6b := Q6 hb6_
        go_wp2_with fail
        go_meet
        exact ⟨_, rfl, ⟨Q6b⟩, ⟨QB⟩⟩
      case rest =>
        obtain ⟨vr, rfl, HO, HBX⟩ := hcut
        obtain ⟨lo, hlo⟩ : ∃ x, CcLaw.out l0 (⟨⟨a1_0, a1_1, a1_2, a1_3, a1_4⟩, a1_5, a1_6, a1_7, a1_8⟩ : S26) = x := ⟨_, rfl⟩
        have hpos : 0 < lo.length := by rw [← hlo]; simp [CcLaw.out]
        have hle : lo.length ≤ l0.length + 1 := by rw [← hlo]; simp only [CcLaw.out, List.length_append, List.length_singleton, Nat.add_le_add_iff_right]; exact List.length_filter_le _ _
        have hh := HH.out
        unfold wharfageref10_PutEntry.g at hh
        rw [if_pos HGE.out, hlo] at hh
        rw [hlo] at HO
        clear hlo
        obtain ⟨gR, cR, rfl, _, _⟩ := Go.Proofs.Ytiidegomccifaaa.Hand.hk_own HO.out hpos
        have HCO := Aside0.mk (Kd.R_reads' HO.out).2.2
        have HC2 := Aside0.mk (Kd.R_reads' HO.out).2.1
        obtain ⟨nO, hnO⟩ : ∃ n, lo.length = n := ⟨_, rfl⟩
        have HNL := Aside0.mk hnO
        have HNO := Aside0.mk (show nO ≤ l0.length + 1 by omega)
        have H52 := H5
        have HBW := HB
        replace H5 := Aside0.mk (pe_below H5.out HBX.out)
        replace HB := Aside0.mk (below_step HB.out HBX.out)
        rw [hnO] at hh HO HCO HC2 ⊢
        by_cases c8 : 8 < nO
        · rw [if_pos c8] at hh
          obtain ⟨q, hq0⟩ : ∃ q, rd_T26 lo 0 = q := ⟨_, rfl⟩
          rw [hq0] at hh
          have hq := Aside0.mk hq0
          obtain ⟨rfl, rfl, rfl, rfl⟩ : lo.drop 1 = r1 ∧ q = q0_ ∧ true = r11 ∧ 0 = r12 := by simpa only [Prod.mk.injEq] using hh
          clear hh hq0
          have c8b : decide ((8 : Int) < (nO : Int)) = true := decide_eq_true (by omega)
          have c8c : ((8 : Int) < (nO : Int)) = True := eq_true (by omega)
          have c8d : (8 < nO) = True := eq_true c8
          have C8 := Aside0.mk c8
          clear c8 hpos hle hnO
          obtain ⟨AD, hAD⟩ : ∃ A_, (if cR = 1 then (some ⟨gR, 0, none⟩ : Option Addr) else (some (⟨gR, 0, none⟩ : Addr)).map (·.add (1 * 9))) = A_ := ⟨_, rfl⟩
          obtain ⟨i0, hi0, _, hsz, _⟩ := info_parts wharfageref10_PutEntry.info
          have hcut : ∀ W : World, (Instr.slice 22 (.slice (some ⟨gR, 0, none⟩) nO cR) (some (.int .i64 1)) none none).run Try.prog W = .ok (.slice AD (nO - 1) (cR - 1)) W := by
            intro W
            rw [cut_from (P := Try.prog) 22 26 .i64 Try.underlying22 hi0 9 hsz (some ⟨gR, 0, none⟩) nO cR 1 (by omega) (by have := C8.out; omega) W, ← hAD]
            rfl
          have HCD := Aside0.mk (show Kd.C k26 wc AD (nO - 1) (lo.drop 1) by
            have h1 := Kd.C_drop (m := 1) (by have := HCO.out; rw [← HNL.out] at this; exact this) (by have := HNL.out; have := C8.out; omega) (c := cR) (by have := HC2.out; have := HNL.out; omega)
            rw [← hAD]
            have h2 : (lo.drop 1).length = nO - 1 := by rw [List.length_drop, HNL.out]
            rw [h2] at h1
            exact h1)
          clear hAD hi0 hsz
          go_upto_region 5 with fail
          refine start_ (n := 11) (S := fun w' => True) (ds := []) #[false, false, false, false, false, false, false, false, false, false, false] (by kernel_rfl) rfl rfl trivial (fun hHeld => ?_); refine with_tabW wharfageref10_PutEntry.tab5 wharfageref10_PutEntry.bits5 (fun HT_ HW_ => ?_)
          refine inv_at [0, 1, 2, 3, 4, 5, 6, 7, 8, 9, 10] (fun a0_ b a w' => ∃ (ve v3 vz : Value) (wq : World), a = putSel a0_ b [(0, 28, ve), (1, 29, .slice (some ⟨gR, 0, none⟩) nO cR), (2, 30, .slice AD (nO - 1) (cR - 1)), (3, 31, v3), (4, 32, .slice (some ⟨gR, 0, none⟩) nO cR), (5, 33, .pointer (some ⟨gR, 0, none⟩)), (6, 34, .agg #[.int .i64 q.f0.f0, .int .i64 q.f0.f1, .int .i64 q.f0.f2, .int .i64 q.f0.f3, .int .i64 q.f0.f4, .int .i64 q.f1, .bool q.f2, .int .i64 q.f3, .int .i64 q.f4]), (7, 4, vz), (9, 6, .bool true), (10, 7, .int .i64 0)] ∧ Below wc.heap.size wc wq ∧ (b 8 = false → w' = wq) ∧ (b 8 = true → w' = (((((((((wq.setCell ⟨n5, 0, none⟩ (.int .i64 q.f0.f0)).setCell ⟨n5, 1, none⟩ (.int .i64 q.f0.f1)).setCell ⟨n5, 2, none⟩ (.int .i64 q.f0.f2)).setCell ⟨n5, 3, none⟩ (.int .i64 q.f0.f3)).setCell ⟨n5, 4, none⟩ (.int .i64 q.f0.f4)).setCell ⟨n5, 5, none⟩ (.int .i64 q.f1)).setCell ⟨n5, 6, none⟩ (.bool q.f2)).setCell ⟨n5, 7, none⟩ (.int .i64 q.f3)).setCell ⟨n5, 8, none⟩ (.int .i64 q.f4))) ∧ (b 0 = true → b 3 = false → Kd.R k26 26 wq wc.heap.size (fun _ => True) (ve) ([])) ∧ (b 3 = true → Kd.R k26 26 wq wc.heap.size (fun _ => True) (v3) (lo.drop 1)) ∧ (b 7 = true → vz = v3)) HT_.out HW_.out (by kernel_rfl) (by kernel_rfl) ?_ ?_ ?_
          · exact ⟨.slice none 0 0, .slice none 0 0, .slice none 0 0, _, by simp only [putSel, Bool.false_eq_true, if_false], below_drew1 (Below.refl _ _), fun _ => rfl, fun h_ => absurd h_ (by decide), fun h_ => absurd h_ (by decide), fun h_ => absurd h_ (by decide), fun h_ => absurd h_ (by decide)⟩
          · skip
            refine steps_cons ?_ ?_
            · rintro b a w' ⟨ve, v3, vz, wq, ha, QB, Wf, Wt, Q0, Q3, Q7⟩ hb_ hon hoff
              have hw_ := Wf (hoff 8 (by kernel_rfl))
              subst hw_
              refine ⟨_, rfl, fun K hK => ?_⟩
              replace ha := Aside0.mk ha
              refine Kd.R_lit_step k26 (w0 := wc) wc.heap.size 26 (by rfl) rfl (xs := ([] : List S26)) (inner := []) (ok := fun _ => True) (okp := fun _ => True) ?_ (Reps.none _ _) (fun _ hk => hk) trivial QB (below_size QB) (by simp) ?_
              · first | (go_simp; done) | (go_simp; rfl)
              intro v1 w1 hR hb hg_ hat_
              exact hK.out _ _ ⟨v1, v3, vz, w1, (by rw [ha.out]; exact putSel_upk 0 hb_ rfl rfl rfl), hb, fun _ => rfl, fun h_ => absurd ((hoff 8 (by kernel_rfl)).symm.trans h_) (by decide), fun _ _ => hR, fun h_ => absurd ((hoff 3 (by kernel_rfl)).symm.trans h_) (by decide), fun h_ => absurd ((hoff 7 (by kernel_rfl)).symm.trans h_) (by decide)⟩
            refine steps_cons ?_ ?_
            · rintro b a w' ⟨ve, v3, vz, wq, ha, QB, Wf, Wt, Q0, Q3, Q7⟩ hb_ hon hoff
              have hw_ := Wf (hoff 8 (by kernel_rfl))
              subst hw_
              refine ⟨_, rfl, fun K hK => ?_⟩
              have e8 : a.tmps[8]? = some (.slice (some ⟨gR, 0, none⟩) nO cR) := by rw [ha]; exact (putSel_off rfl).trans rfl
              replace ha := Aside0.mk ha
              refine value_ (w1 := w') (v := .slice (some ⟨gR, 0, none⟩) nO cR) (by rfl) rfl ?_ ?_
              · go_simp
                try rfl
              exact hK.out _ _ ⟨ve, v3, vz, w', (by rw [ha.out]; exact putSel_upk 1 hb_ rfl rfl rfl), QB, fun _ => rfl, fun h_ => absurd ((hoff 8 (by kernel_rfl)).symm.trans h_) (by decide), Q0, Q3, Q7⟩
            refine steps_cons ?_ ?_
            · rintro b a w' ⟨ve, v3, vz, wq, ha, QB, Wf, Wt, Q0, Q3, Q7⟩ hb_ hon hoff
              have hw_ := Wf (hoff 8 (by kernel_rfl))
              subst hw_
              refine ⟨_, rfl, fun K hK => ?_⟩
              have e29 : a.tmps[29]? = some (.slice (some ⟨gR, 0, none⟩) nO cR) := by rw [ha]; exact putSel_on (e := (1, 29, .slice (some ⟨gR, 0, none⟩) nO cR)) 1 rfl rfl (hon 1 (by kernel_rfl)) rfl
              replace ha := Aside0.mk ha
              refine value_ (w1 := w') (v := .slice AD (nO - 1) (cR - 1)) (by rfl) rfl ?_ ?_
              · go_simp
                try rfl
              exact hK.out _ _ ⟨ve, v3, vz, w', (by rw [ha.out]; exact putSel_upk 2 hb_ rfl rfl rfl), QB, fun _ => rfl, fun h_ => absurd ((hoff 8 (by kernel_rfl)).symm.trans h_) (by decide), Q0, Q3, Q7⟩
            refine steps_cons ?_ ?_
            · rintro b a w' ⟨ve, v3, vz, wq, ha, QB, Wf, Wt, Q0, Q3, Q7⟩ hb_ hon hoff
              have hw_ := Wf (hoff 8 (by kernel_rfl))
              subst hw_
              refine ⟨_, rfl, fun K hK => ?_⟩
              have e28 : a.tmps[28]? = some (ve) := by rw [ha]; exact putSel_on (e := (0, 28, ve)) 0 rfl rfl (hon 0 (by kernel_rfl)) rfl
              have e30 : a.tmps[30]? = some (.slice AD (nO - 1) (cR - 1)) := by rw [ha]; exact putSel_on (e := (2, 30, .slice AD (nO - 1) (cR - 1))) 2 rfl rfl (hon 2 (by kernel_rfl)) rfl
              replace ha := Aside0.mk ha
              have h3f := hb_
              refine Kd.R_append_rows_step k26 (w0 := wc) wc.heap.size (by rfl) (.tmp 28) (.tmp 30) 22 26 (.agg #[.int .i64 0, .int .i64 0, .int .i64 0, .int .i64 0, .int .i64 0, .int .i64 0, .bool false, .int .i64 0, .int .i64 0]) 72 rfl Try.underlying22 wharfageref10_PutEntry.info rfl (by decide) (by omega) ve [] (lo.drop 1) AD (nO - 1) (cR - 1) (fun _ => True) (fun _ => False) (by simp only [Act.eval, Array.getD_eq_getD_getElem?, e28, Option.getD_some]) (by simp only [Act.eval, Array.getD_eq_getD_getElem?, e30, Option.getD_some]) (Q0 (hon 0 (by kernel_rfl)) h3f) (Kd.C_below HCD.out QB) (fun _ _ h => h) (fun _ h => h.elim) (fun _ _ => trivial) QB (below_size QB) (by have h2 := HL.out; have h3 := HNO.out; simp only [List.length_nil]; omega) ?_
              intro v1 w1 hR hb hg_ hat_
              exact hK.out _ _ ⟨ve, v1, vz, w1, (by rw [ha.out]; exact putSel_upk 3 hb_ rfl rfl rfl), hb, fun _ => rfl, fun h_ => absurd ((hoff 8 (by kernel_rfl)).symm.trans h_) (by decide), fun _ h_ => absurd ((up_self b 3).symm.trans h_) (by decide), fun _ => hR, fun h_ => absurd ((hoff 7 (by kernel_rfl)).symm.trans h_) (by decide)⟩
            refine steps_cons ?_ ?_
            · rintro b a w' ⟨ve, v3, vz, wq, ha, QB, Wf, Wt, Q0, Q3, Q7⟩ hb_ hon hoff
              have hw_ := Wf (hoff 8 (by kernel_rfl))
              subst hw_
              refine ⟨_, rfl, fun K hK => ?_⟩
              have e8 : a.tmps[8]? = some (.slice (some ⟨gR, 0, none⟩) nO cR) := by rw [ha]; exact (putSel_off rfl).trans rfl
              replace ha := Aside0.mk ha
              refine value_ (w1 := w') (v := .slice (some ⟨gR, 0, none⟩) nO cR) (by rfl) rfl ?_ ?_
              · go_simp
                try rfl
              exact hK.out _ _ ⟨ve, v3, vz, w', (by rw [ha.out]; exact putSel_upk 4 hb_ rfl rfl rfl), QB, fun _ => rfl, fun h_ => absurd ((hoff 8 (by kernel_rfl)).symm.trans h_) (by decide), Q0, Q3, Q7⟩
            refine steps_cons ?_ ?_
            · rintro b a w' ⟨ve, v3, vz, wq, ha, QB, Wf, Wt, Q0, Q3, Q7⟩ hb_ hon hoff
              have hw_ := Wf (hoff 8 (by kernel_rfl))
              subst hw_
              refine ⟨_, rfl, fun K hK => ?_⟩
              have e32 : a.tmps[32]? = some (.slice (some ⟨gR, 0, none⟩) nO cR) := by rw [ha]; exact putSel_on (e := (4, 32, .slice (some ⟨gR, 0, none⟩) nO cR)) 4 rfl rfl (hon 4 (by kernel_rfl)) rfl
              have p1 : (0 : Int) < (nO : Int) := by have := C8.out; omega
              have p2 : 0 < nO := by have := C8.out; omega
              replace ha := Aside0.mk ha
              refine value_ (w1 := w') (v := .pointer (some ⟨gR, 0, none⟩)) (by rfl) rfl ?_ ?_
              · go_simp
                try rfl
              exact hK.out _ _ ⟨ve, v3, vz, w', (by rw [ha.out]; exact putSel_upk 5 hb_ rfl rfl rfl), QB, fun _ => rfl, fun h_ => absurd ((hoff 8 (by kernel_rfl)).symm.trans h_) (by decide), Q0, Q3, Q7⟩
            refine steps_cons ?_ ?_
            · rintro b a w' ⟨ve, v3, vz, wq, ha, QB, Wf, Wt, Q0, Q3, Q7⟩ hb_ hon hoff
              have hw_ := Wf (hoff 8 (by kernel_rfl))
              subst hw_
              refine ⟨_, rfl, fun K hK => ?_⟩
              have e33 : a.tmps[33]? = some (.pointer (some ⟨gR, 0, none⟩)) := by rw [ha]; exact putSel_on (e := (5, 33, .pointer (some ⟨gR, 0, none⟩))) 5 rfl rfl (hon 5 (by kernel_rfl)) rfl
              obtain ⟨ad, ea, q0, q1, q2, q3, q4, q5, q6, q7, q8⟩ := at_T26 (Kd.C_below HCO.out QB) 0 (by omega) (by have := C8.out; have := HNL.out; omega)
              cases ea
              rw [hq.out] at q0 q1 q2 q3 q4 q5 q6 q7 q8
              simp only [Go.Proofs.Ytiidegomccifaaa.Hand.hk_add0, Int.toNat_zero, Nat.zero_mul, Nat.add_zero, Nat.zero_add] at q0 q1 q2 q3 q4 q5 q6 q7 q8
              replace ha := Aside0.mk ha
              refine value_ (w1 := w') (v := .agg #[.int .i64 q.f0.f0, .int .i64 q.f0.f1, .int .i64 q.f0.f2, .int .i64 q.f0.f3, .int .i64 q.f0.f4, .int .i64 q.f1, .bool q.f2, .int .i64 q.f3, .int .i64 q.f4]) (by rfl) rfl ?_ ?_
              · go_simp
                try rfl
              exact hK.out _ _ ⟨ve, v3, vz, w', (by rw [ha.out]; exact putSel_upk 6 hb_ rfl rfl rfl), QB, fun _ => rfl, fun h_ => absurd ((hoff 8 (by kernel_rfl)).symm.trans h_) (by decide), Q0, Q3, Q7⟩
            refine steps_cons ?_ ?_
            · rintro b a w' ⟨ve, v3, vz, wq, ha, QB, Wf, Wt, Q0, Q3, Q7⟩ hb_ hon hoff
              have hw_ := Wf (hoff 8 (by kernel_rfl))
              subst hw_
              refine ⟨_, rfl, fun K hK => ?_⟩
              have e31 : a.tmps[31]? = some (v3) := by rw [ha]; exact putSel_on (e := (3, 31, v3)) 3 rfl rfl (hon 3 (by kernel_rfl)) rfl
              replace ha := Aside0.mk ha
              refine value_ (w1 := w') (v := v3) (by rfl) rfl ?_ ?_
              · go_simp
                try rfl
              exact hK.out _ _ ⟨ve, v3, v3, w', (by rw [ha.out]; exact putSel_upk 7 hb_ rfl rfl rfl), QB, fun _ => rfl, fun h_ => absurd ((hoff 8 (by kernel_rfl)).symm.trans h_) (by decide), Q0, Q3, fun _ => rfl⟩
            refine steps_cons ?_ ?_
            · rintro b a w' ⟨ve, v3, vz, wq, ha, QB, Wf, Wt, Q0, Q3, Q7⟩ hb_ hon hoff
              have hw_ := Wf hb_
              subst hw_
              refine ⟨_, rfl, fun K hK => ?_⟩
              have e34 : a.tmps[34]? = some (.agg #[.int .i64 q.f0.f0, .int .i64 q.f0.f1, .int .i64 q.f0.f2, .int .i64 q.f0.f3, .int .i64 q.f0.f4, .int .i64 q.f1, .bool q.f2, .int .i64 q.f3, .int .i64 q.f4]) := by rw [ha]; exact putSel_on (e := (6, 34, .agg #[.int .i64 q.f0.f0, .int .i64 q.f0.f1, .int .i64 q.f0.f2, .int .i64 q.f0.f3, .int .i64 q.f0.f4, .int .i64 q.f1, .bool q.f2, .int .i64 q.f3, .int .i64 q.f4])) 6 rfl rfl (hon 6 (by kernel_rfl)) rfl
              have e5 : a.tmps[5]? = some (.pointer (some ⟨n5, 0, none⟩)) := by rw [ha]; exact (putSel_off rfl).trans rfl
              replace ha := Aside0.mk ha
              have z0 : w'.cell? ⟨n5, 0, none⟩ = some (.int .i64 0) := (pe_cell (pe_below H5.out QB)).trans rfl
              have y0 : w'.frozen? ⟨n5, 0, none⟩ = false := pe_free (pe_below H5.out QB)
              have z1 : w'.cell? ⟨n5, 1, none⟩ = some (.int .i64 0) := (pe_cell (pe_below H5.out QB)).trans rfl
              have y1 : w'.frozen? ⟨n5, 1, none⟩ = false := pe_free (pe_below H5.out QB)
              have z2 : w'.cell? ⟨n5, 2, none⟩ = some (.int .i64 0) := (pe_cell (pe_below H5.out QB)).trans rfl
              have y2 : w'.frozen? ⟨n5, 2, none⟩ = false := pe_free (pe_below H5.out QB)
              have z3 : w'.cell? ⟨n5, 3, none⟩ = some (.int .i64 0) := (pe_cell (pe_below H5.out QB)).trans rfl
              have y3 : w'.frozen? ⟨n5, 3, none⟩ = false := pe_free (pe_below H5.out QB)
              have z4 : w'.cell? ⟨n5, 4, none⟩ = some (.int .i64 0) := (pe_cell (pe_below H5.out QB)).trans rfl
              have y4 : w'.frozen? ⟨n5, 4, none⟩ = false := pe_free (pe_below H5.out QB)
              have z5 : w'.cell? ⟨n5, 5, none⟩ = some (.int .i64 0) := (pe_cell (pe_below H5.out QB)).trans rfl
              have y5 : w'.frozen? ⟨n5, 5, none⟩ = false := pe_free (pe_below H5.out QB)
              have z6 : w'.cell? ⟨n5, 6, none⟩ = some (.bool false) := (pe_cell (pe_below H5.out QB)).trans rfl
              have y6 : w'.frozen? ⟨n5, 6, none⟩ = false := pe_free (pe_below H5.out QB)
              have z7 : w'.cell? ⟨n5, 7, none⟩ = some (.int .i64 0) := (pe_cell (pe_below H5.out QB)).trans rfl
              have y7 : w'.frozen? ⟨n5, 7, none⟩ = false := pe_free (pe_below H5.out QB)
              have z8 : w'.cell? ⟨n5, 8, none⟩ = some (.int .i64 0) := (pe_cell (pe_below H5.out QB)).trans rfl
              have y8 : w'.frozen? ⟨n5, 8, none⟩ = false := pe_free (pe_below H5.out QB)
              refine skip_ (w1 := (((((((((w'.setCell ⟨n5, 0, none⟩ (.int .i64 q.f0.f0)).setCell ⟨n5, 1, none⟩ (.int .i64 q.f0.f1)).setCell ⟨n5, 2, none⟩ (.int .i64 q.f0.f2)).setCell ⟨n5, 3, none⟩ (.int .i64 q.f0.f3)).setCell ⟨n5, 4, none⟩ (.int .i64 q.f0.f4)).setCell ⟨n5, 5, none⟩ (.int .i64 q.f1)).setCell ⟨n5, 6, none⟩ (.bool q.f2)).setCell ⟨n5, 7, none⟩ (.int .i64 q.f3)).setCell ⟨n5, 8, none⟩ (.int .i64 q.f4))) (by rfl) rfl ?_ ?_
              · go_simp
                try rfl
              exact hK.out _ _ ⟨ve, v3, vz, w', (by rw [ha.out]; exact (putSel_same rfl).symm), QB, fun h_ => absurd ((up_self b 8).symm.trans h_) (by decide), fun _ => rfl, Q0, Q3, Q7⟩
            refine steps_cons ?_ ?_
            · rintro b a w' ⟨ve, v3, vz, wq, ha, QB, Wf, Wt, Q0, Q3, Q7⟩ hb_ hon hoff
              refine ⟨_, rfl, fun K hK => ?_⟩
              replace ha := Aside0.mk ha
              refine value_ (w1 := w') (v := .bool true) (by rfl) rfl ?_ ?_
              · go_simp
                try rfl
              exact hK.out _ _ ⟨ve, v3, vz, wq, (by rw [ha.out]; exact putSel_upk 8 hb_ rfl rfl rfl), QB, Wf, Wt, Q0, Q3, Q7⟩
            refine steps_cons ?_ ?_
            · rintro b a w' ⟨ve, v3, vz, wq, ha, QB, Wf, Wt, Q0, Q3, Q7⟩ hb_ hon hoff
              refine ⟨_, rfl, fun K hK => ?_⟩
              replace ha := Aside0.mk ha
              refine value_ (w1 := w') (v := .int .i64 0) (by rfl) rfl ?_ ?_
              · go_simp
                try rfl
              exact hK.out _ _ ⟨ve, v3, vz, wq, (by rw [ha.out]; exact putSel_upk 9 hb_ rfl rfl rfl), QB, Wf, Wt, Q0, Q3, Q7⟩
            exact steps_nil
          rintro b a wx hall ⟨ve, v3, vz, wq, ha, QB, Wf, Wt, Q0, Q3, Q7⟩
          have hb0_ := hall 0 (by kernel_rfl)
          have hb1_ := hall 1 (by kernel_rfl)
          have hb2_ := hall 2 (by kernel_rfl)
          have hb3_ := hall 3 (by kernel_rfl)
          have hb4_ := hall 4 (by kernel_rfl)
          have hb5_ := hall 5 (by kernel_rfl)
          have hb6_ := hall 6 (by kernel_rfl)
          have hb7_ := hall 7 (by kernel_rfl)
          have hb8_ := hall 8 (by kernel_rfl)
          have hb9_ := hall 9 (by kernel_rfl)
          have hb10_ := hall 10 (by kernel_rfl)
          subst ha
          simp only [putSel, hb0_, hb1_, hb2_, hb3_, hb4_, hb5_, hb6_, hb7_, hb9_, hb10_, if_true, Act.put, List.setIfInBounds_toArray, List.set_cons_zero, List.set_cons_succ]
          obtain rfl := Q7 hb7_
          have Q3b := Q3 hb3_
          rw [List.drop_one] at Q3b
          obtain rfl := Wt hb8_
          have H5q := Aside0.mk (pe_below H5.out QB)
          have HBq := Aside0.mk (below_step HB.out QB)
          go_wp2_with fail
          refine bodyPost_ret (results_list (rs := [.tmp 4, .cell 5 26, .tmp 6, .tmp 7]) rfl (by simp) (.tmp (.cell n5 26 #[.int .i64 q.f0.f0, .int .i64 q.f0.f1, .int .i64 q.f0.f2, .int .i64 q.f0.f3, .int .i64 q.f0.f4, .int .i64 q.f1, .bool q.f2, .int .i64 q.f3, .int .i64 q.f4] (0, 0) _ rfl (by refine blk_put (cs := #[.int .i64 q.f0.f0, .int .i64 q.f0.f1, .int .i64 q.f0.f2, .int .i64 q.f0.f3, .int .i64 q.f0.f4, .int .i64 q.f1, .bool q.f2, .int .i64 q.f3, .int .i64 0]) ?_ 8 _ rfl; refine blk_put (cs := #[.int .i64 q.f0.f0, .int .i64 q.f0.f1, .int .i64 q.f0.f2, .int .i64 q.f0.f3, .int .i64 q.f0.f4, .int .i64 q.f1, .bool q.f2, .int .i64 0, .int .i64 0]) ?_ 7 _ rfl; refine blk_put (cs := #[.int .i64 q.f0.f0, .int .i64 q.f0.f1, .int .i64 q.f0.f2, .int .i64 q.f0.f3, .int .i64 q.f0.f4, .int .i64 q.f1, .bool false, .int .i64 0, .int .i64 0]) ?_ 6 _ rfl; refine blk_put (cs := #[.int .i64 q.f0.f0, .int .i64 q.f0.f1, .int .i64 q.f0.f2, .int .i64 q.f0.f3, .int .i64 q.f0.f4, .int .i64 0, .bool false, .int .i64 0, .int .i64 0]) ?_ 5 _ rfl; refine blk_put (cs := #[.int .i64 q.f0.f0, .int .i64 q.f0.f1, .int .i64 q.f0.f2, .int .i64 q.f0.f3, .int .i64 0, .int .i64 0, .bool false, .int .i64 0, .int .i64 0]) ?_ 4 _ rfl; refine blk_put (cs := #[.int .i64 q.f0.f0, .int .i64 q.f0.f1, .int .i64 q.f0.f2, .int .i64 0, .int .i64 0, .int .i64 0, .bool false, .int .i64 0, .int .i64 0]) ?_ 3 _ rfl; refine blk_put (cs := #[.int .i64 q.f0.f0, .int .i64 q.f0.f1, .int .i64 0, .int .i64 0, .int .i64 0, .int .i64 0, .bool false, .int .i64 0, .int .i64 0]) ?_ 2 _ rfl; refine blk_put (cs := #[.int .i64 q.f0.f0, .int .i64 0, .int .i64 0, .int .i64 0, .int .i64 0, .int .i64 0, .bool false, .int .i64 0, .int .i64 0]) ?_ 1 _ rfl; refine blk_put (cs := #[.int .i64 0, .int .i64 0, .int .i64 0, .int .i64 0, .int .i64 0, .int .i64 0, .bool false, .int .i64 0, .int .i64 0]) ?_ 0 _ rfl; exact H5q.out) Try.underlying26 rfl (by kernel_rfl) (.tmp (.tmp .nil))))) rfl ?_
          exact ⟨vz, rfl, Kd.R_lower (Kd.R_mono (ok := fun k_ => True ∧ k_ ≠ n5) (ok' := fun _ => True) (by with_reducible repeat (first | exact Kd.R_newB (Q3b) H5.out | refine Kd.R_drew ?_ | refine Kd.R_far ?_ (fun _ hk => hk.2) _)) (fun _ _ => trivial)) (below_size HB.out), (by (with_reducible repeat (first | exact HBq.out | refine below_set ?_ HN.out.2.1 | refine below_drew1 ?_ | refine pw_below_drewN ?_ _)))⟩
        · rw [if_neg c8] at hh
          obtain ⟨rfl, rfl, rfl, rfl⟩ : lo = r1 ∧ (⟨⟨0, 0, 0, 0, 0⟩, 0, false, 0, 0⟩ : S26) = q0_ ∧ false = r11 ∧ 0 = r12 := by simpa using hh
          have c8b : decide ((8 : Int) < (nO : Int)) = false := decide_eq_false (by omega)
          have c8c : ((8 : Int) < (nO : Int)) = False := eq_false (by omega)
          have c8d : (8 < nO) = False := eq_false c8
          clear c8 hpos hle hnO hh
          have z0 : wc.cell? ⟨n5, 0, none⟩ = some (.int .i64 0) := (pe_cell H5.out).trans rfl
          have y0 : wc.frozen? ⟨n5, 0, none⟩ = false := pe_free H5.out
          have z1 : wc.cell? ⟨n5, 1, none⟩ = some (.int .i64 0) := (pe_cell H5.out).trans rfl
          have y1 : wc.frozen? ⟨n5, 1, none⟩ = false := pe_free H5.out
          have z2 : wc.cell? ⟨n5, 2, none⟩ = some (.int .i64 0) := (pe_cell H5.out).trans rfl
          have y2 : wc.frozen? ⟨n5, 2, none⟩ = false := pe_free H5.out
          have z3 : wc.cell? ⟨n5, 3, none⟩ = some (.int .i64 0) := (pe_cell H5.out).trans rfl
          have y3 : wc.frozen? ⟨n5, 3, none⟩ = false := pe_free H5.out
          have z4 : wc.cell? ⟨n5, 4, none⟩ = some (.int .i64 0) := (pe_cell H5.out).trans rfl
          have y4 : wc.frozen? ⟨n5, 4, none⟩ = false := pe_free H5.out
          have z5 : wc.cell? ⟨n5, 5, none⟩ = some (.int .i64 0) := (pe_cell H5.out).trans rfl
          have y5 : wc.frozen? ⟨n5, 5, none⟩ = false := pe_free H5.out
          have z6 : wc.cell? ⟨n5, 6, none⟩ = some (.bool false) := (pe_cell H5.out).trans rfl
          have y6 : wc.frozen? ⟨n5, 6, none⟩ = false := pe_free H5.out
          have z7 : wc.cell? ⟨n5, 7, none⟩ = some (.int .i64 0) := (pe_cell H5.out).trans rfl
          have y7 : wc.frozen? ⟨n5, 7, none⟩ = false := pe_free H5.out
          have z8 : wc.cell? ⟨n5, 8, none⟩ = some (.int .i64 0) := (pe_cell H5.out).trans rfl
          have y8 : wc.frozen? ⟨n5, 8, none⟩ = false := pe_free H5.out
          go_wp2_with fail
          refine bodyPost_ret (results_list (rs := [.tmp 4, .cell 5 26, .tmp 6, .tmp 7]) rfl (by simp) (.tmp (.cell n5 26 #[.int .i64 0, .int .i64 0, .int .i64 0, .int .i64 0, .int .i64 0, .int .i64 0, .bool false, .int .i64 0, .int .i64 0] (0, 0) _ rfl (by refine blk_put (cs := #[.int .i64 0, .int .i64 0, .int .i64 0, .int .i64 0, .int .i64 0, .int .i64 0, .bool false, .int .i64 0, .int .i64 0]) ?_ 8 _ rfl; refine blk_put (cs := #[.int .i64 0, .int .i64 0, .int .i64 0, .int .i64 0, .int .i64 0, .int .i64 0, .bool false, .int .i64 0, .int .i64 0]) ?_ 7 _ rfl; refine blk_put (cs := #[.int .i64 0, .int .i64 0, .int .i64 0, .int .i64 0, .int .i64 0, .int .i64 0, .bool false, .int .i64 0, .int .i64 0]) ?_ 6 _ rfl; refine blk_put (cs := #[.int .i64 0, .int .i64 0, .int .i64 0, .int .i64 0, .int .i64 0, .int .i64 0, .bool false, .int .i64 0, .int .i64 0]) ?_ 5 _ rfl; refine blk_put (cs := #[.int .i64 0, .int .i64 0, .int .i64 0, .int .i64 0, .int .i64 0, .int .i64 0, .bool false, .int .i64 0, .int .i64 0]) ?_ 4 _ rfl; refine blk_put (cs := #[.int .i64 0, .int .i64 0, .int .i64 0, .int .i64 0, .int .i64 0, .int .i64 0, .bool false, .int .i64 0, .int .i64 0]) ?_ 3 _ rfl; refine blk_put (cs := #[.int .i64 0, .int .i64 0, .int .i64 0, .int .i64 0, .int .i64 0, .int .i64 0, .bool false, .int .i64 0, .int .i64 0]) ?_ 2 _ rfl; refine blk_put (cs := #[.int .i64 0, .int .i64 0, .int .i64 0, .int .i64 0, .int .i64 0, .int .i64 0, .bool false, .int .i64 0, .int .i64 0]) ?_ 1 _ rfl; refine blk_put (cs := #[.int .i64 0, .int .i64 0, .int .i64 0, .int .i64 0, .int .i64 0, .int .i64 0, .bool false, .int .i64 0, .int .i64 0]) ?_ 0 _ rfl; exact H5.out) Try.underlying26 rfl (by kernel_rfl) (.tmp (.tmp .nil))))) rfl ?_
          exact ⟨.slice (some ⟨gR, 0, none⟩) nO cR, rfl, Kd.R_lower (Kd.R_mono (ok := fun k_ => True ∧ k_ ≠ n5) (ok' := fun _ => True) (by with_reducible repeat (first | exact Kd.R_newB (HO.out) H52.out | refine Kd.R_drew ?_ | refine Kd.R_far ?_ (fun _ hk => hk.2) _)) (fun _ _ => trivial)) (below_size HBW.out), (by (with_reducible repeat (first | exact HB.out | refine below_set ?_ HN.out.2.1 | refine below_drew1 ?_ | refine pw_below_drewN ?_ _)))⟩
  · have HG := Aside0.mk (show (open Classical in decide (CcLaw.Good l0)) = false from decide_eq_false hg)
    obtain ⟨rfl, rfl, rfl, rfl⟩ : [] = r1 ∧ (⟨⟨0, 0, 0, 0, 0⟩, 0, false, 0, 0⟩ : S26) = q0_ ∧ false = r11 ∧ 1600 = r12 := by
      have h := HH.out
      unfold wharfageref10_PutEntry.g at h
      rw [if_neg (by exact fun hh => hg hh.1)] at h
      simpa using h
    clear hg
    go_wp2_with first
      | (go_at_call 17; refine (wharfageref10_CacheMay.calls (l0.length * (l0.length + 2) + 1) A0 c0 l0 false _ (Kd.C_below HR.out HB.out) HC0.out (HM.out false HG.out)).mono ?_; rintro e w1 ⟨rfl, hb⟩; replace H3 := Aside0.mk (pe_below H3.out hb); replace H5 := Aside0.mk (pe_below H5.out hb); replace HB := Aside0.mk (below_step HB.out hb); clear k0 k1 k2 k3 k4 k5 k6 k7 k8 z0 y0 z1 y1 z2 y2 z3 y3 z4 y4 z5 y5 z6 y6 z7 y7 z8 y8; have k0 : w1.cell? ⟨n3, 0, none⟩ = some (.int .i64 a1_0) := (pe_cell H3.out).trans rfl; have k1 : w1.cell? ⟨n3, 1, none⟩ = some (.int .i64 a1_1) := (pe_cell H3.out).trans rfl; have k2 : w1.cell? ⟨n3, 2, none⟩ = some (.int .i64 a1_2) := (pe_cell H3.out).trans rfl; have k3 : w1.cell? ⟨n3, 3, none⟩ = some (.int .i64 a1_3) := (pe_cell H3.out).trans rfl; have k4 : w1.cell? ⟨n3, 4, none⟩ = some (.int .i64 a1_4) := (pe_cell H3.out).trans rfl; have k5 : w1.cell? ⟨n3, 5, none⟩ = some (.int .i64 a1_5) := (pe_cell H3.out).trans rfl; have k6 : w1.cell? ⟨n3, 6, none⟩ = some (.bool a1_6) := (pe_cell H3.out).trans rfl; have k7 : w1.cell? ⟨n3, 7, none⟩ = some (.int .i64 a1_7) := (pe_cell H3.out).trans rfl; have k8 : w1.cell? ⟨n3, 8, none⟩ = some (.int .i64 a1_8) := (pe_cell H3.out).trans rfl; have z0 : w1.cell? ⟨n5, 0, none⟩ = some (.int .i64 0) := (pe_cell H5.out).trans rfl; have y0 : w1.frozen? ⟨n5, 0, none⟩ = false := pe_free H5.out; have z1 : w1.cell? ⟨n5, 1, none⟩ = some (.int .i64 0) := (pe_cell H5.out).trans rfl; have y1 : w1.frozen? ⟨n5, 1, none⟩ = false := pe_free H5.out; have z2 : w1.cell? ⟨n5, 2, none⟩ = some (.int .i64 0) := (pe_cell H5.out).trans rfl; have y2 : w1.frozen? ⟨n5, 2, none⟩ = false := pe_free H5.out; have z3 : w1.cell? ⟨n5, 3, none⟩ = some (.int .i64 0) := (pe_cell H5.out).trans rfl; have y3 : w1.frozen? ⟨n5, 3, none⟩ = false := pe_free H5.out; have z4 : w1.cell? ⟨n5, 4, none⟩ = some (.int .i64 0) := (pe_cell H5.out).trans rfl; have y4 : w1.frozen? ⟨n5, 4, none⟩ = false := pe_free H5.out; have z5 : w1.cell? ⟨n5, 5, none⟩ = some (.int .i64 0) := (pe_cell H5.out).trans rfl; have y5 : w1.frozen? ⟨n5, 5, none⟩ = false := pe_free H5.out; have z6 : w1.cell? ⟨n5, 6, none⟩ = some (.bool false) := (pe_cell H5.out).trans rfl; have y6 : w1.frozen? ⟨n5, 6, none⟩ = false := pe_free H5.out; have z7 : w1.cell? ⟨n5, 7, none⟩ = some (.int .i64 0) := (pe_cell H5.out).trans rfl; have y7 : w1.frozen? ⟨n5, 7, none⟩ = false := pe_free H5.out; have z8 : w1.cell? ⟨n5, 8, none⟩ = some (.int .i64 0) := (pe_cell H5.out).trans rfl; have y8 : w1.frozen? ⟨n5, 8, none⟩ = false := pe_free H5.out; clear hb)
    refine bodyPost_ret (results_list (rs := [.tmp 4, .cell 5 26, .tmp 6, .tmp 7]) rfl (by simp) (.tmp (.cell n5 26 #[.int .i64 0, .int .i64 0, .int .i64 0, .int .i64 0, .int .i64 0, .int .i64 0, .bool false, .int .i64 0, .int .i64 0] (0, 0) _ rfl (by refine blk_put (cs := #[.int .i64 0, .int .i64 0, .int .i64 0, .int .i64 0, .int .i64 0, .int .i64 0, .bool false, .int .i64 0, .int .i64 0]) ?_ 8 _ rfl; refine blk_put (cs := #[.int .i64 0, .int .i64 0, .int .i64 0, .int .i64 0, .int .i64 0, .int .i64 0, .bool false, .int .i64 0, .int .i64 0]) ?_ 7 _ rfl; refine blk_put (cs := #[.int .i64 0, .int .i64 0, .int .i64 0, .int .i64 0, .int .i64 0, .int .i64 0, .bool false, .int .i64 0, .int .i64 0]) ?_ 6 _ rfl; refine blk_put (cs := #[.int .i64 0, .int .i64 0, .int .i64 0, .int .i64 0, .int .i64 0, .int .i64 0, .bool false, .int .i64 0, .int .i64 0]) ?_ 5 _ rfl; refine blk_put (cs := #[.int .i64 0, .int .i64 0, .int .i64 0, .int .i64 0, .int .i64 0, .int .i64 0, .bool false, .int .i64 0, .int .i64 0]) ?_ 4 _ rfl; refine blk_put (cs := #[.int .i64 0, .int .i64 0, .int .i64 0, .int .i64 0, .int .i64 0, .int .i64 0, .bool false, .int .i64 0, .int .i64 0]) ?_ 3 _ rfl; refine blk_put (cs := #[.int .i64 0, .int .i64 0, .int .i64 0, .int .i64 0, .int .i64 0, .int .i64 0, .bool false, .int .i64 0, .int .i64 0]) ?_ 2 _ rfl; refine blk_put (cs := #[.int .i64 0, .int .i64 0, .int .i64 0, .int .i64 0, .int .i64 0, .int .i64 0, .bool false, .int .i64 0, .int .i64 0]) ?_ 1 _ rfl; refine blk_put (cs := #[.int .i64 0, .int .i64 0, .int .i64 0, .int .i64 0, .int .i64 0, .int .i64 0, .bool false, .int .i64 0, .int .i64 0]) ?_ 0 _ rfl; exact H5.out) Try.underlying26 rfl (by kernel_rfl) (.tmp (.tmp .nil))))) rfl ?_
    exact ⟨_, rfl, Kd.R_nil _ _ _ _ _, (by (with_reducible repeat (first | exact HB.out | refine below_set ?_ HN.out.2.1 | refine below_drew1 ?_ | refine pw_below_drewN ?_ _)))⟩


end Go.Proofs.Ytiidegomccifaaa.PCaches
