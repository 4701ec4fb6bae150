/- Contracts: what calls of these functions of the program do, each as a plain function; written by a program of this session. -/
import Derived.Test.YtnocfhnandedoabPCacheSweepsx0
import Derived.Test.YtnocfhnandedoabPCacheSweepsx1
import Derived.Test.YtnocfhnandedoabPCacheSweepsx2
import Derived.Test.YtnocfhnandedoabPCacheSweepsx3
import Derived.Test.YtnocfhnandedoabPCacheSweepsx4
import Derived.Test.YtnocfhnandedoabPCacheSweepsx5
import Derived.Test.YtnocfhnandedoabPCacheSweepsx6
import Derived.Test.YtnocfhnandedoabPCacheSweepsx7
import Derived.Test.YtnocfhnandedoabPCacheSweepsx8
import Derived.Test.YtnocfhnandedoabPCacheSweepsx9
import Derived.Test.YtnocfhnandedoabPCacheSweepsx10
import Derived.Test.YtnocfhnandedoabPCacheSweepsx13
namespace Go.Proofs.Ytnocfhnandedoab.PCacheSweeps
open Go.RowKit Go.Proofs.YtnocfhnandedoabW.PrintWords Go.Proofs.YtnocfhnandedoabW.PrintLast Go.Proofs.YtnocfhnandedoabW.PrintMore
attribute [local go_sem] max2_int min2_int max_two min_two max_three min_three max_four min_four   -- for this text's walks alone
set_option linter.unusedVariables false
set_option linter.unusedSimpArgs false

/-! ### wharfagelaw16_CacheSweeps: function 7, by hand -/
def wharfagelaw16_CacheSweeps.f (l0 : List S37) (a1 : Int) : Option Bool := some true
namespace SwLaw
open Go.Proofs.Ytnocfhnandedoab.NumMath (wrap64_in and127)
def Fm (a b c d e : Int) : Prop := (0 ≤ a ∧ a < 4294967296) ∧ (0 ≤ b ∧ b < 4294967296) ∧ (c = 6 ∨ c = 17) ∧ (0 ≤ d ∧ d < 65536) ∧ (0 ≤ e ∧ e < 65536)
instance (a b c d e : Int) : Decidable (Fm a b c d e) := by unfold Fm; infer_instance
def Em (a b c d e t p u : Int) : Prop := Fm a b c d e ∧ (0 ≤ t ∧ t < 256) ∧ (0 ≤ p ∧ p ≤ 2) ∧ (0 ≤ u ∧ u ≤ 1048576)
instance (a b c d e t p u : Int) : Decidable (Em a b c d e t p u) := by unfold Em; infer_instance
theorem in_any (x : Int) (b n : Nat) (hb : b ≤ 64) (hn : 2 ^ b = n) : ip_In.f x (b : Int) = some (decide (0 ≤ x ∧ x < (n : Int))) := by
  unfold ip_In.f
  by_cases h : x ≥ 0
  · rw [if_pos h, if_pos (by omega)]
    have hn0 : 0 < n := by rw [← hn]; exact Nat.two_pow_pos b
    have e : shr .i64 x (b : Int) = x / (n : Int) := by
      unfold shr
      rw [Int.toNat_natCast, Nat.min_eq_left (by simpa [IntKind.bits] using hb), ← hn]
      simp
    rw [e]; congr 1
    rw [Bool.eq_iff_iff]
    simp only [beq_iff_eq, decide_eq_true_eq]
    constructor
    · intro hz
      refine ⟨h, ?_⟩
      have := Int.lt_ediv_add_one_mul_self x (show (0 : Int) < n by omega)
      rw [hz] at this
      omega
    · rintro ⟨_, hlt⟩
      exact Int.ediv_eq_zero_of_lt h hlt
  · rw [if_neg h]; congr 1; simp; omega
theorem in32 (x : Int) : ip_In.f x 32 = some (decide (0 ≤ x ∧ x < 4294967296)) := in_any x 32 4294967296 (by decide) (by decide)
theorem in16 (x : Int) : ip_In.f x 16 = some (decide (0 ≤ x ∧ x < 65536)) := in_any x 16 65536 (by decide) (by decide)
theorem in8 (x : Int) : ip_In.f x 8 = some (decide (0 ≤ x ∧ x < 256)) := in_any x 8 256 (by decide) (by decide)
theorem handled_f (c : Int) : flow_handled.f c = some (decide (c = 6 ∨ c = 17)) := by
  unfold flow_handled.f
  by_cases h : c = 6
  · simp [h]
  · rw [if_neg h]; simp [h]
    rfl
theorem flowMay_f (a b c d e : Int) : flow_May.f a b c d e = some (decide (Fm a b c d e)) := by
  unfold flow_May.f
  rw [in32, in32, in16, in16, handled_f]
  simp only [Option.bind_some]
  by_cases h1 : 0 ≤ a ∧ a < 4294967296 <;> by_cases h2 : 0 ≤ b ∧ b < 4294967296 <;> by_cases h3 : c = 6 ∨ c = 17 <;> by_cases h4 : 0 ≤ d ∧ d < 65536 <;> by_cases h5 : 0 ≤ e ∧ e < 65536 <;> simp [Fm, h1, h2, h3, h4, h5]
theorem to_f (x m : Int) : conf_to.f x m = some (decide (0 ≤ x ∧ x ≤ m)) := by
  unfold conf_to.f
  by_cases h : x ≥ 0
  · rw [if_pos h]; congr 1; simp; omega
  · rw [if_neg h]; congr 1; simp; omega
theorem time_f (x : Int) : conf_Time.f x = some (decide (0 ≤ x ∧ x ≤ 1048576)) := by
  unfold conf_Time.f
  rw [to_f]; rfl
theorem may_f (a : Int) : track_May.f a = some (decide (0 ≤ a ∧ a ≤ 2)) := by
  unfold track_May.f
  by_cases h : a ≥ 0
  · rw [if_pos h]; congr 1; simp; omega
  · rw [if_neg h]; congr 1; simp; omega
theorem entryMay_f (a b c d e t : Int) (z : Bool) (p u : Int) : entry_May.f a b c d e t z p u = some (decide (Em a b c d e t p u)) := by
  unfold entry_May.f
  rw [flowMay_f, in8, may_f, time_f]
  simp only [Option.bind_some]
  by_cases h1 : Fm a b c d e <;> by_cases h2 : 0 ≤ t ∧ t < 256 <;> by_cases h3 : 0 ≤ p ∧ p ≤ 2 <;> by_cases h4 : 0 ≤ u ∧ u ≤ 1048576 <;> simp [Em, h1, h2, h3, h4]
theorem num_f (a : Int) : wharfagelaw0_Num.f a = some a := rfl
def lim (p : Int) : Int := if p = 0 then 40 else 6
theorem ran_in (a b c d e t : Int) (z : Bool) (p u now : Int) (hm : Em a b c d e t p u) : entry_Ran.f a b c d e t z p u now = some (decide (u + lim p ≤ now)) := by
  unfold entry_Ran.f track_Limit.f
  have hu := hm.2.2.2
  rw [may_f, entryMay_f, decide_eq_true hm, decide_eq_true hm.2.2.1]
  simp only [Option.bind_some, if_true]
  by_cases h : p = 0
  · rw [if_pos h]
    simp only [Option.bind_some]
    rw [wrap64_in _ (by omega) (by omega)]
    simp [lim, h]
  · rw [if_neg h]
    simp only [Option.bind_some]
    rw [wrap64_in _ (by omega) (by omega)]
    simp [lim, h]
theorem ran_out (a b c d e t : Int) (z : Bool) (p u now : Int) (hm : ¬ Em a b c d e t p u) : entry_Ran.f a b c d e t z p u now = some true := by
  unfold entry_Ran.f track_Limit.f
  rw [may_f, entryMay_f, decide_eq_false hm]
  by_cases hp : 0 ≤ p ∧ p ≤ 2
  · rw [decide_eq_true hp]
    simp only [Option.bind_some, if_true]
    split <;> rfl
  · rw [decide_eq_false hp]; rfl

def emB (x : S37) : Bool := decide (Em x.f0.f0 x.f0.f1 x.f0.f2 x.f0.f3 x.f0.f4 x.f1 x.f3 x.f4)
theorem em_f (x : S37) : entry_May.f x.f0.f0 x.f0.f1 x.f0.f2 x.f0.f3 x.f0.f4 x.f1 x.f2 x.f3 x.f4 = some (emB x) := entryMay_f _ _ _ _ _ _ _ _ _
theorem rdE (l : List S37) (i : Nat) (h : i < l.length) : rd_T37 l (i : Int) = l[i] := by
  unfold rd_T37
  simp [List.getD, List.getElem?_eq_getElem h]
theorem idx_lo (f : S35) : ∀ (l : List S37) (n : Nat), idxFrom f l n = -1 ∨ (n : Int) ≤ idxFrom f l n
  | [], n => .inl rfl
  | x :: r, n => by
    unfold idxFrom
    split
    · exact .inr (Int.le_refl _)
    · rcases idx_lo f r (n + 1) with h | h
      · exact .inl h
      · exact .inr (by omega)
theorem idx_none (f : S35) : ∀ (l : List S37) (n : Nat), (∀ x ∈ l, x.f0 ≠ f) → idxFrom f l n = -1
  | [], n, _ => rfl
  | x :: r, n, h => by
    unfold idxFrom
    rw [if_neg (fun hb => h x List.mem_cons_self ((beqF_iff _ _).1 hb))]
    exact idx_none f r (n + 1) (fun y hy => h y (List.mem_cons_of_mem _ hy))
theorem idx_first (f : S35) : ∀ (l : List S37) (n j : Nat) (hj : j < l.length), (∀ i (hi : i < j), (l[i]'(by omega)).f0 ≠ f) → (l[j]).f0 = f → idxFrom f l n = ((n + j : Nat) : Int)
  | [], n, j, hj, _, _ => by simp at hj
  | x :: r, n, 0, _, _, he => by
    unfold idxFrom
    rw [if_pos (show beqF x.f0 f = true from (beqF_iff _ _).2 he)]
    rfl
  | x :: r, n, j + 1, hj, hn, he => by
    unfold idxFrom
    rw [if_neg (show ¬ (beqF x.f0 f = true) from fun hb => hn 0 (by omega) ((beqF_iff _ _).1 hb)), idx_first f r (n + 1) j (by simpa using hj) (fun i hi => hn (i + 1) (by omega)) he]
    congr 1
    omega
theorem idx_le (f : S35) : ∀ (l : List S37) (n i : Nat) (hi : i < l.length), (l[i]).f0 = f → idxFrom f l n ≤ ((n + i : Nat) : Int)
  | [], n, i, hi, _ => by simp at hi
  | x :: r, n, i, hi, he => by
    unfold idxFrom
    split
    · omega
    · rename_i hb
      cases i with
      | zero => exact absurd ((beqF_iff _ _).2 he) hb
      | succ i =>
        have := idx_le f r (n + 1) i (by simpa using hi) he
        omega
def Good (l : List S37) : Prop := (∀ x ∈ l, emB x = true) ∧ l.Pairwise (fun a b => a.f0 ≠ b.f0) ∧ l.length ≤ 8
noncomputable instance (l : List S37) : Decidable (Good l) := Classical.propDecidable _
theorem good_ix (l : List S37) : Good l ↔ ((∀ j (hj : j < l.length), emB l[j] = true ∧ idxFrom (l[j]).f0 l 0 = (j : Int)) ∧ l.length ≤ 8) := by
  constructor
  · rintro ⟨h1, h2, h3⟩
    refine ⟨fun j hj => ⟨h1 _ (List.getElem_mem hj), ?_⟩, h3⟩
    have := idx_first (l[j]).f0 l 0 j hj (fun i hi => List.pairwise_iff_getElem.1 h2 i j (by omega) hj hi) rfl
    rw [this, Nat.zero_add]
  · rintro ⟨h1, h3⟩
    refine ⟨fun x hx => ?_, List.pairwise_iff_getElem.2 (fun i j hi hj hij he => ?_), h3⟩
    · obtain ⟨j, hj, rfl⟩ := List.getElem_of_mem hx
      exact (h1 j hj).1
    · have h4 := idx_le (l[j]).f0 l 0 i hi he
      rw [(h1 j hj).2] at h4
      omega
theorem may_l0 (l : List S37) (hl : l.length ≤ 9223372036854775807) (d : Nat) : ∀ (k i : Nat), l.length - i ≤ d → d < k → i ≤ l.length → (∀ j (hj : j < l.length), j < i → emB l[j] = true ∧ idxFrom (l[j]).f0 l 0 = (j : Int)) → cache_May.l0 k l l (l.length : Int) (i : Int) = some (decide (Good l)) := by
  induction d with
  | zero =>
    intro k i hd hk hi hp
    obtain ⟨k, rfl⟩ : ∃ m, k = m + 1 := ⟨k - 1, by omega⟩
    simp only [cache_May.l0]
    rw [if_neg (by omega)]
    congr 1
    rw [decide_eq_decide, good_ix]
    constructor
    · intro h
      exact ⟨fun j hj => hp j hj (by omega), by omega⟩
    · intro h
      have := h.2
      omega
  | succ d ih =>
    intro k i hd hk hi hp
    obtain ⟨k, rfl⟩ : ∃ m, k = m + 1 := ⟨k - 1, by omega⟩
    simp only [cache_May.l0]
    by_cases h : (i : Int) < (l.length : Int)
    · have hlt : i < l.length := by omega
      rw [if_pos h, if_pos (show (0 : Int) ≤ (i : Int) by omega), if_pos h, rdE l i hlt, em_f, Option.bind_some]
      cases hb : emB l[i]
      · rw [if_neg (by simp)]
        congr 1
        rw [eq_comm, decide_eq_false_iff_not]
        intro hg
        rw [hg.1 _ (List.getElem_mem hlt)] at hb
        cases hb
      · rw [if_pos rfl]
        unfold cache_at.f
        rw [Option.bind_some]
        by_cases hx : idxFrom (l[i]).f0 l 0 = (i : Int)
        · rw [if_pos hx, show wrap64 ((i : Int) + 1) = ((i + 1 : Nat) : Int) by unfold wrap64; omega]
          refine ih k (i + 1) (by omega) (by omega) (by omega) (fun j hj hji => ?_)
          by_cases hj2 : j = i
          · subst hj2
            exact ⟨hb, hx⟩
          · exact hp j hj (by omega)
        · rw [if_neg hx]
          congr 1
          rw [eq_comm, decide_eq_false_iff_not]
          intro hg
          exact hx (((good_ix l).1 hg).1 i hlt).2
    · rw [if_neg h]
      congr 1
      rw [decide_eq_decide, good_ix]
      constructor
      · intro h
        exact ⟨fun j hj => hp j hj (by omega), by omega⟩
      · intro h
        have := h.2
        omega
theorem mayE_f (l : List S37) (k : Nat) (hl : l.length < k) (hl2 : l.length ≤ 9223372036854775807) : cache_May.f k l = some (decide (Good l)) := may_l0 l hl2 l.length k 0 (by omega) hl (by omega) (fun j _ h => absurd h (by omega))
theorem same_l0 (l : List S37) (hl : l.length ≤ 9223372036854775807) (d : Nat) : ∀ (k i : Nat), l.length - i ≤ d → d < k → i ≤ l.length → wharfagelaw0_SameEntrys.l0 k l l (i : Int) = some true := by
  induction d with
  | zero =>
    intro k i hd hk hi
    obtain ⟨k, rfl⟩ : ∃ m, k = m + 1 := ⟨k - 1, by omega⟩
    simp only [wharfagelaw0_SameEntrys.l0]
    rw [if_neg (by omega)]
  | succ d ih =>
    intro k i hd hk hi
    obtain ⟨k, rfl⟩ : ∃ m, k = m + 1 := ⟨k - 1, by omega⟩
    simp only [wharfagelaw0_SameEntrys.l0]
    by_cases h : (i : Int) < (l.length : Int)
    · rw [if_pos h, if_pos (show (0 : Int) ≤ (i : Int) by omega), if_pos h, if_neg (by simp), show wrap64 ((i : Int) + 1) = ((i + 1 : Nat) : Int) by unfold wrap64; omega]
      exact ih k (i + 1) (by omega) (by omega) (by omega)
    · rw [if_neg h]
theorem same_f (l : List S37) (k : Nat) (hl : l.length < k) (hl2 : l.length ≤ 9223372036854775807) : wharfagelaw0_SameEntrys.f k l l = some true := by
  unfold wharfagelaw0_SameEntrys.f
  rw [if_pos rfl]
  exact same_l0 l hl2 l.length k 0 (by omega) hl (by omega)
theorem good_nil : Good [] := ⟨by simp, List.Pairwise.nil, by simp⟩

theorem filter_good (l : List S37) (P : S37 → Bool) (h : Good l) : Good (l.filter P) :=
  ⟨fun x hx => h.1 x (List.mem_filter.1 hx).1, h.2.1.filter _, Nat.le_trans (List.length_filter_le _ _) h.2.2⟩
theorem sweep_bad (l : List S37) (t : Int) (k : Nat) (hl : l.length < k) (hl2 : l.length ≤ 9223372036854775807) (h : ¬ Good l) : cache_Sweep.f k l t = some ([], [], 1600) := by
  unfold cache_Sweep.f
  rw [mayE_f l k hl hl2, Option.bind_some, decide_eq_false h, if_neg (by simp)]
theorem sweep_good (l : List S37) (t : Int) (k : Nat) (hl : l.length < k) (hl2 : l.length ≤ 9223372036854775807) (h : Good l) (ht : 0 ≤ t ∧ t ≤ 127) : cache_Sweep.f k l t = some (l.filter (fun p => !ranB p t), l.filter (fun p => ranB p t), 0) := by
  unfold cache_Sweep.f
  rw [mayE_f l k hl hl2, Option.bind_some, decide_eq_true h, if_pos rfl, time_f, decide_eq_true ⟨ht.1, by omega⟩, Option.bind_some, if_pos rfl]
theorem find_is (l : List S37) (t : Int) (k : Nat) (hl : l.length < k) (hg : Good l) (i : Nat) (hi : i < l.length) (hr : ranB l[i] t = false) : cache_Find.f k l (l[i]).f0.f0 (l[i]).f0.f1 (l[i]).f0.f2 (l[i]).f0.f3 (l[i]).f0.f4 t = some ((l[i]).f0.f0, (l[i]).f0.f1, (l[i]).f0.f2, (l[i]).f0.f3, (l[i]).f0.f4, (l[i]).f1, (l[i]).f2, (l[i]).f3, (l[i]).f4, true) := by
  have h8 := hg.2.2
  have hx := (((good_ix l).1 hg).1 i hi).2
  unfold cache_Find.f cache_at.f
  rw [Option.bind_some, show (⟨(l[i]).f0.f0, (l[i]).f0.f1, (l[i]).f0.f2, (l[i]).f0.f3, (l[i]).f0.f4⟩ : S35) = (l[i]).f0 from rfl, hx, if_neg (by omega), mayE_f _ k hl (by omega), Option.bind_some, decide_eq_true hg, if_pos rfl, if_pos (by omega), if_pos (by omega), rdE _ _ hi, ranB_f, hr, Option.bind_some, if_neg (by simp)]
theorem find_ran (l : List S37) (t : Int) (k : Nat) (hl : l.length < k) (hg : Good l) (i : Nat) (hi : i < l.length) (hr : ranB l[i] t = true) : cache_Find.f k l (l[i]).f0.f0 (l[i]).f0.f1 (l[i]).f0.f2 (l[i]).f0.f3 (l[i]).f0.f4 t = some (0, 0, 0, 0, 0, 0, false, 0, 0, false) := by
  have h8 := hg.2.2
  have hx := (((good_ix l).1 hg).1 i hi).2
  unfold cache_Find.f cache_at.f
  rw [Option.bind_some, show (⟨(l[i]).f0.f0, (l[i]).f0.f1, (l[i]).f0.f2, (l[i]).f0.f3, (l[i]).f0.f4⟩ : S35) = (l[i]).f0 from rfl, hx, if_neg (by omega), mayE_f _ k hl (by omega), Option.bind_some, decide_eq_true hg, if_pos rfl, if_pos (by omega), if_pos (by omega), rdE _ _ hi, ranB_f, hr, Option.bind_some, if_pos rfl]
theorem filt_at (P : S37 → Bool) (l : List S37) (i : Nat) (hi : i < l.length) (hp : P l[i] = true) : ((l.take i).filter P).length < (l.filter P).length ∧ rd_T37 (l.filter P) (((l.take i).filter P).length : Int) = l[i] := by
  have h1 : l.filter P = (l.take i).filter P ++ l[i] :: (l.drop (i + 1)).filter P := by
    conv => lhs; rw [← List.take_append_drop i l, List.filter_append, List.drop_eq_getElem_cons hi, List.filter_cons, hp]
    simp
  have hlt : ((l.take i).filter P).length < (l.filter P).length := by rw [h1]; simp
  refine ⟨hlt, ?_⟩
  rw [rdE _ _ hlt]
  simp [h1]
theorem filt_step (P : S37 → Bool) (l : List S37) (i : Nat) (hi : i < l.length) : ((l.take (i + 1)).filter P).length = ((l.take i).filter P).length + (if P l[i] = true then 1 else 0) := by
  rw [List.take_add_one, List.getElem?_eq_getElem hi, List.filter_append, List.length_append]
  cases h : P l[i] <;> simp [h]
theorem filt_two (P : S37 → Bool) : ∀ l : List S37, (l.filter (fun p => !P p)).length + (l.filter P).length = l.length
  | [] => rfl
  | x :: r => by
    have := filt_two P r
    cases h : P x <;> simp [List.filter_cons, h] <;> omega
theorem filt_none (P : S37 → Bool) (l : List S37) : (l.filter (fun p => !P p)).filter P = [] := by
  rw [List.filter_eq_nil_iff]
  intro x hx
  have := (List.mem_filter.1 hx).2
  simpa using this
theorem filt_all (P : S37 → Bool) (l : List S37) : (l.filter (fun p => !P p)).filter (fun p => !P p) = l.filter (fun p => !P p) := by
  rw [List.filter_eq_self]
  intro x hx
  exact (List.mem_filter.1 hx).2
end SwLaw
theorem wharfagelaw16_CacheSweeps.hide {P : Program} {c : Code} {Q : Exit → Act → World → Prop} {a : Act} {w : World} (R : World → Prop) (h : R w) (k : ∀ w', R w' → c.wp P Q a w') : c.wp P Q a w := k w h
set_option maxHeartbeats 8000000 in
set_option maxRecDepth 100000 in
theorem wharfagelaw16_CacheSweeps.calls (A0 : Option Addr) (c0 : Nat) (l0 : List S37) (a1 : Int) (r : Bool) (w : World) (hr0 : Kd.C k37 w A0 l0.length l0) (hc0 : l0.length ≤ c0) (h : wharfagelaw16_CacheSweeps.f l0 a1 = some r) : Calls Try.prog 7 #[.slice A0 l0.length c0, .int .i64 a1] w fun e w' => e = .returned (.bool r) ∧ Below w.heap.size w w' := by
  obtain rfl := Option.some.inj h
  clear h
  have hu := Try.underlying37
  have hu2 := Try.underlying35
  have hq1 := eqA35
  have hq2 := eqA37
  obtain ⟨t, ht, HT⟩ : ∃ t : Int, bits .and .i64 a1 127 = t ∧ Aside0 (0 ≤ t ∧ t ≤ 127) := ⟨_, rfl, ⟨by rw [Go.Proofs.Ytnocfhnandedoab.NumMath.and127]; omega⟩⟩
  have HL := Aside0.mk hr0.2.1
  have HR := Aside0.mk hr0
  have HC0 := Aside0.mk hc0
  have HB := Aside0.mk (Below.refl w.heap.size w)
  have F1 := Aside0.mk trivial
  clear hr0 hc0
  by_cases hg : SwLaw.Good l0
  · have HG := Aside0.mk hg
    have HN := Aside0.mk (List.length_filter_le (fun p => !ranB p t) l0)
    have HN2 := Aside0.mk (List.length_filter_le (fun p => ranB p t) l0)
    have HSUM := Aside0.mk (show (l0.filter (fun p => !ranB p t)).length + (l0.filter (fun p => ranB p t)).length = l0.length from SwLaw.filt_two (fun p => ranB p t) l0)
    clear hg
    obtain ⟨ns, hns⟩ : ∃ ns : Nat, Aside0 ((l0.filter (fun p => !ranB p t)).length = ns) := ⟨_, ⟨rfl⟩⟩
    obtain ⟨ng, hng⟩ : ∃ ng : Nat, Aside0 ((l0.filter (fun p => ranB p t)).length = ng) := ⟨_, ⟨rfl⟩⟩
    have hsum : wrap64 (((l0.filter (fun p => !ranB p t)).length : Int) + ((l0.filter (fun p => ranB p t)).length : Int)) = (l0.length : Int) := by have h1 := HSUM.out; have h2 := HL.out; unfold wrap64; omega
    go_enter Try.func7, Try.ntmps7
    go_wp2_with (first | (go_at_call 36; refine (wharfagelaw16_awake.calls true _ rfl).mono ?_; rintro e w1 ⟨rfl, hb⟩; replace HR := Aside0.mk (Kd.C_below HR.out hb); replace HB := Aside0.mk (below_step HB.out hb); clear hb) | (go_at_call 29; clear F1; refine (cache_Sweep.calls (l0.length + 1) _ _ l0 t (l0.filter (fun p => !ranB p t)) (l0.filter (fun p => ranB p t)) 0 _ HR.out HC0.out (SwLaw.sweep_good l0 t _ (by omega) HL.out HG.out HT.out)).mono ?_; rintro e w2 ⟨v0, v1, rfl, ho, hp, hb⟩; obtain ⟨A5, n5, rfl, hl, hr⟩ := Kd.R_reads ho; have L5 := Aside0.mk hl; have R5 := Aside0.mk hr; clear ho hl hr; obtain ⟨A6, n6, rfl, hl, hr⟩ := Kd.R_reads hp; have L6 := Aside0.mk hl; have R6 := Aside0.mk hr; clear hp hl hr; replace HR := Aside0.mk (Kd.C_below HR.out hb); replace HB := Aside0.mk (below_step HB.out hb); clear hb; have F2 := Aside0.mk trivial) | (go_at_call 29; clear F2; refine (cache_Sweep.calls (l0.length + 1) _ _ (l0.filter (fun p => !ranB p t)) t (l0.filter (fun p => !ranB p t)) [] 0 _ R5.out L5.out ?hs).mono ?_; (case hs => have h1 := SwLaw.sweep_good (l0.filter (fun p => !ranB p t)) t (l0.length + 1) (by have := HN.out; omega) (by have := HN.out; have := HL.out; omega) (SwLaw.filter_good _ _ HG.out) HT.out; rw [SwLaw.filt_all, SwLaw.filt_none] at h1; exact h1); rintro e w3 ⟨v0, v1, rfl, ho, hp, hb⟩; obtain ⟨A7, n7, rfl, hl, hr⟩ := Kd.R_reads ho; have L7 := Aside0.mk hl; have R7 := Aside0.mk hr; clear ho hl hr; obtain ⟨A8, n8, rfl, _, _⟩ := Kd.R_reads hp; clear hp; replace HR := Aside0.mk (Kd.C_below HR.out hb); replace R5 := Aside0.mk (Kd.C_below R5.out hb); replace R6 := Aside0.mk (Kd.C_below R6.out hb); replace HB := Aside0.mk (below_step HB.out hb); clear hb) | (first | (go_at_call 17; refine (wharfagelaw0_Num.calls _ _ _ rfl).mono ?_; rintro e wn ⟨rfl, hn⟩; have hb := Go.Proofs.Ytnocfhnandedoab.Hand.hk_drawn hn; clear hn; replace HR := Aside0.mk (Kd.C_below HR.out hb); replace R5 := Aside0.mk (Kd.C_below R5.out hb); replace R6 := Aside0.mk (Kd.C_below R6.out hb); replace R7 := Aside0.mk (Kd.C_below R7.out hb); replace HB := Aside0.mk (below_step HB.out hb); clear hb) | (go_at_call 17; refine (wharfagelaw0_Num.calls _ _ _ rfl).mono ?_; rintro e wn ⟨rfl, hn⟩; have hb := Go.Proofs.Ytnocfhnandedoab.Hand.hk_drawn hn; clear hn; replace HR := Aside0.mk (Kd.C_below HR.out hb); replace R5 := Aside0.mk (Kd.C_below R5.out hb); replace R6 := Aside0.mk (Kd.C_below R6.out hb); replace HB := Aside0.mk (below_step HB.out hb); clear hb)) | (go_at_call 31; refine (wharfagelaw0_SameEntrys.calls (l0.length + 1) _ _ (l0.filter (fun p => !ranB p t)) _ _ (l0.filter (fun p => !ranB p t)) true _ R7.out L7.out R5.out L5.out (SwLaw.same_f _ _ (by have := HN.out; omega) (by have := HN.out; have := HL.out; omega))).mono ?_; rintro e w4 ⟨rfl, hn⟩; have hb := Go.Proofs.Ytnocfhnandedoab.Hand.hk_drawn hn; clear hn; replace HR := Aside0.mk (Kd.C_below HR.out hb); replace R5 := Aside0.mk (Kd.C_below R5.out hb); replace R6 := Aside0.mk (Kd.C_below R6.out hb); replace HB := Aside0.mk (below_step HB.out hb); clear hb))
    try simp only [hsum]
    clear hsum
    go_loopg [12, 13, 14] (l0.length + 1) (fun kq v12 v13 v14 w' => ∃ (x : Int) (na nb : Int), v12 = .int .i64 na ∧ v13 = .int .i64 nb ∧ v14 = .int .i64 x ∧ Aside0 (0 ≤ x ∧ x ≤ (l0.length : Int) ∧ (kq : Int) + x = l0.length + 1) ∧ Aside0 (na = (((l0.take x.toNat).filter (fun p => !ranB p t)).length : Int)) ∧ Aside0 (nb = (((l0.take x.toNat).filter (fun p => ranB p t)).length : Int)) ∧ Aside0 (Kd.C k37 w' A0 l0.length l0) ∧ Aside0 (Kd.C k37 w' A5 (l0.filter (fun p => !ranB p t)).length (l0.filter (fun p => !ranB p t))) ∧ Aside0 (Kd.C k37 w' A6 (l0.filter (fun p => ranB p t)).length (l0.filter (fun p => ranB p t))) ∧ Aside0 (Below w.heap.size w w'))
    case atStart => exact ⟨0, 0, 0, rfl, rfl, rfl, ⟨by omega⟩, ⟨rfl⟩, ⟨rfl⟩, HR, R5, R6, HB⟩
    case round =>
      clear HR R5 R6 HB
      obtain ⟨x, na, nb, rfl, rfl, rfl, HX, HNA, HNB, HR, R5, R6, HB⟩ := hrel
      cases gk with
      | zero => have := HX.out; omega
      | succ k1 =>
        by_cases c3 : x < (l0.length : Int)
        · have c3b := decide_eq_true c3
          have p1 : 0 ≤ x := HX.out.1
          have p1b := decide_eq_true p1
          obtain ⟨ad, ea, hx0, hx1, hx2, hx3, hx4, hx5, hx6, hx7, hx8⟩ := at_T37 HR.out x p1 c3
          cases ea
          have HC3 := Aside0.mk c3
          have HX2 := Aside0.mk (show x.toNat < l0.length by omega)
          have p1' := eq_true p1
          have c3' := eq_true c3
          obtain ⟨p, hp⟩ : ∃ p_, Aside0 (p_ = rd_T37 l0 x) := ⟨_, ⟨rfl⟩⟩
          have HPP := Aside0.mk (show p = l0[x.toNat]'HX2.out from by rw [hp.out, ← SwLaw.rdE l0 x.toNat HX2.out, Int.toNat_of_nonneg p1])
          rw [← hp.out] at hx0 hx1 hx2 hx3 hx4 hx5 hx6 hx7 hx8
          obtain ⟨bq, HRN⟩ : ∃ b_ : Bool, Aside0 (ranB p t = b_) := ⟨_, ⟨rfl⟩⟩
          have HFF := SwLaw.find_is l0 t (l0.length + 1) (by omega) HG.out x.toNat HX2.out
          have HFR := SwLaw.find_ran l0 t (l0.length + 1) (by omega) HG.out x.toNat HX2.out
          rw [← HPP.out] at HFF HFR
          cases bq
          · have HFI := Aside0.mk (HFF HRN.out)
            clear HFF HFR
            go_upto_region 15 with (first | (go_at_call 25; refine (cache_Find.calls (l0.length + 1) _ _ l0 p.f0.f0 p.f0.f1 p.f0.f2 p.f0.f3 p.f0.f4 t p.f0.f0 p.f0.f1 p.f0.f2 p.f0.f3 p.f0.f4 p.f1 p.f2 p.f3 p.f4 true _ HR.out HC0.out HFI.out).mono ?_; rintro e w5 ⟨rfl, hb⟩; replace HR := Aside0.mk (Kd.C_below HR.out hb); replace R5 := Aside0.mk (Kd.C_below R5.out hb); replace R6 := Aside0.mk (Kd.C_below R6.out hb); replace HB := Aside0.mk (below_step HB.out hb); clear hb) | ((with_reducible refine gate_dst (N := 15) rfl ?_); refine box_event ?hg (N := 15) ?hd (cs := #[.int .i64 0, .int .i64 0, .int .i64 0, .int .i64 0, .int .i64 0, .int .i64 0, .bool false, .int .i64 0, .int .i64 0]) (t := 37) ?hr ?_; (case hd => rfl); (case hg => rfl); (case hr => first | (go_simp; done) | (go_simp; rfl)); intro gb hg wb hbox hb; have HW := Aside0.mk hb; have G := Aside0.mk (Nat.le_of_eq hg.symm : w5.heap.size ≤ gb); have Zb := Aside0.mk hbox; clear hb hbox hg; have z0 : wb.cell? ⟨gb, 0, none⟩ = some (.int .i64 0) := (blk_cell Zb.out 0).trans rfl; have y0 := blk_frozen Zb.out 0; have z1 : wb.cell? ⟨gb, 1, none⟩ = some (.int .i64 0) := (blk_cell Zb.out 1).trans rfl; have y1 := blk_frozen Zb.out 1; have z2 : wb.cell? ⟨gb, 2, none⟩ = some (.int .i64 0) := (blk_cell Zb.out 2).trans rfl; have y2 := blk_frozen Zb.out 2; have z3 : wb.cell? ⟨gb, 3, none⟩ = some (.int .i64 0) := (blk_cell Zb.out 3).trans rfl; have y3 := blk_frozen Zb.out 3; have z4 : wb.cell? ⟨gb, 4, none⟩ = some (.int .i64 0) := (blk_cell Zb.out 4).trans rfl; have y4 := blk_frozen Zb.out 4; have z5 : wb.cell? ⟨gb, 5, none⟩ = some (.int .i64 0) := (blk_cell Zb.out 5).trans rfl; have y5 := blk_frozen Zb.out 5; have z6 : wb.cell? ⟨gb, 6, none⟩ = some (.bool false) := (blk_cell Zb.out 6).trans rfl; have y6 := blk_frozen Zb.out 6; have z7 : wb.cell? ⟨gb, 7, none⟩ = some (.int .i64 0) := (blk_cell Zb.out 7).trans rfl; have y7 := blk_frozen Zb.out 7; have z8 : wb.cell? ⟨gb, 8, none⟩ = some (.int .i64 0) := (blk_cell Zb.out 8).trans rfl; have y8 := blk_frozen Zb.out 8; skip))
            refine wharfagelaw16_CacheSweeps.hide (fun W => Below w5.heap.size w5 W ∧ W.heap[gb]? = some (.cells #[.int .i64 p.f0.f0, .int .i64 p.f0.f1, .int .i64 p.f0.f2, .int .i64 p.f0.f3, .int .i64 p.f0.f4, .int .i64 p.f1, .bool p.f2, .int .i64 p.f3, .int .i64 p.f4] 37 (0, 0))) ⟨by with_reducible repeat (first | exact HW.out | refine below_set ?_ G.out), by refine blk_put (cs := #[.int .i64 p.f0.f0, .int .i64 p.f0.f1, .int .i64 p.f0.f2, .int .i64 p.f0.f3, .int .i64 p.f0.f4, .int .i64 p.f1, .bool p.f2, .int .i64 p.f3, .int .i64 0]) ?_ 8 _ rfl; refine blk_put (cs := #[.int .i64 p.f0.f0, .int .i64 p.f0.f1, .int .i64 p.f0.f2, .int .i64 p.f0.f3, .int .i64 p.f0.f4, .int .i64 p.f1, .bool p.f2, .int .i64 0, .int .i64 0]) ?_ 7 _ rfl; refine blk_put (cs := #[.int .i64 p.f0.f0, .int .i64 p.f0.f1, .int .i64 p.f0.f2, .int .i64 p.f0.f3, .int .i64 p.f0.f4, .int .i64 p.f1, .bool false, .int .i64 0, .int .i64 0]) ?_ 6 _ rfl; refine blk_put (cs := #[.int .i64 p.f0.f0, .int .i64 p.f0.f1, .int .i64 p.f0.f2, .int .i64 p.f0.f3, .int .i64 p.f0.f4, .int .i64 0, .bool false, .int .i64 0, .int .i64 0]) ?_ 5 _ rfl; refine blk_put (cs := #[.int .i64 p.f0.f0, .int .i64 p.f0.f1, .int .i64 p.f0.f2, .int .i64 p.f0.f3, .int .i64 0, .int .i64 0, .bool false, .int .i64 0, .int .i64 0]) ?_ 4 _ rfl; refine blk_put (cs := #[.int .i64 p.f0.f0, .int .i64 p.f0.f1, .int .i64 p.f0.f2, .int .i64 0, .int .i64 0, .int .i64 0, .bool false, .int .i64 0, .int .i64 0]) ?_ 3 _ rfl; refine blk_put (cs := #[.int .i64 p.f0.f0, .int .i64 p.f0.f1, .int .i64 0, .int .i64 0, .int .i64 0, .int .i64 0, .bool false, .int .i64 0, .int .i64 0]) ?_ 2 _ rfl; refine blk_put (cs := #[.int .i64 p.f0.f0, .int .i64 0, .int .i64 0, .int .i64 0, .int .i64 0, .int .i64 0, .bool false, .int .i64 0, .int .i64 0]) ?_ 1 _ rfl; refine blk_put (cs := #[.int .i64 0, .int .i64 0, .int .i64 0, .int .i64 0, .int .i64 0, .int .i64 0, .bool false, .int .i64 0, .int .i64 0]) ?_ 0 _ rfl; exact Zb.out⟩ ?_
            intro w6 ⟨hb, hz⟩
            replace HR := Aside0.mk (Kd.C_below HR.out hb)
            replace R5 := Aside0.mk (Kd.C_below R5.out hb)
            replace R6 := Aside0.mk (Kd.C_below R6.out hb)
            replace HB := Aside0.mk (below_step HB.out hb)
            have BZ := Aside0.mk hz
            clear hb hz HW G Zb z0 y0 z1 y1 z2 y2 z3 y3 z4 y4 z5 y5 z6 y6 z7 y7 z8 y8
            clear hx0 hx1 hx2 hx3 hx4 hx5 hx6 hx7 hx8
            obtain ⟨adkx, eakx, kx0, kx1, kx2, kx3, kx4, kx5, kx6, kx7, kx8⟩ := at_T37 HR.out x p1 c3
            cases eakx
            rw [← hp.out] at kx0 kx1 kx2 kx3 kx4 kx5 kx6 kx7 kx8
            have HAT := Aside0.mk (SwLaw.filt_at (fun p => !ranB p t) l0 x.toNat HX2.out (by rw [← HPP.out]; simp [HRN.out]))
            have q0 : (0 : Int) ≤ na := by have h1 := HNA.out; have h2 := HNB.out; omega
            have q1 : na < (((l0.filter (fun p => !ranB p t)).length : Nat) : Int) := by have h1 := HAT.out.1; have h2 := HNA.out; omega
            obtain ⟨admx, eamx, mx0, mx1, mx2, mx3, mx4, mx5, mx6, mx7, mx8⟩ := at_T37 R5.out na q0 q1
            cases eamx
            rw [show rd_T37 (l0.filter (fun p => !ranB p t)) na = p from by rw [HNA.out, HAT.out.2, ← HPP.out]] at mx0 mx1 mx2 mx3 mx4 mx5 mx6 mx7 mx8
            have b0 : w6.cell? ⟨gb, 0, none⟩ = some (.int .i64 p.f0.f0) := (blk_cell BZ.out 0).trans rfl
            have b1 : w6.cell? ⟨gb, 1, none⟩ = some (.int .i64 p.f0.f1) := (blk_cell BZ.out 1).trans rfl
            have b2 : w6.cell? ⟨gb, 2, none⟩ = some (.int .i64 p.f0.f2) := (blk_cell BZ.out 2).trans rfl
            have b3 : w6.cell? ⟨gb, 3, none⟩ = some (.int .i64 p.f0.f3) := (blk_cell BZ.out 3).trans rfl
            have b4 : w6.cell? ⟨gb, 4, none⟩ = some (.int .i64 p.f0.f4) := (blk_cell BZ.out 4).trans rfl
            have b5 : w6.cell? ⟨gb, 5, none⟩ = some (.int .i64 p.f1) := (blk_cell BZ.out 5).trans rfl
            have b6 : w6.cell? ⟨gb, 6, none⟩ = some (.bool p.f2) := (blk_cell BZ.out 6).trans rfl
            have b7 : w6.cell? ⟨gb, 7, none⟩ = some (.int .i64 p.f3) := (blk_cell BZ.out 7).trans rfl
            have b8 : w6.cell? ⟨gb, 8, none⟩ = some (.int .i64 p.f4) := (blk_cell BZ.out 8).trans rfl
            have q0' := eq_true q0
            have q1' := eq_true q1
            have q2a : decide (na ≥ (((l0.filter (fun p => !ranB p t)).length : Nat) : Int)) = false := decide_eq_false (by omega)
            have q2b : decide ((((l0.filter (fun p => !ranB p t)).length : Nat) : Int) ≤ na) = false := decide_eq_false (by omega)
            have q2c : ((((l0.filter (fun p => !ranB p t)).length : Nat) : Int) ≤ na) = False := eq_false (by omega)
            have q2d : (na ≥ (((l0.filter (fun p => !ranB p t)).length : Nat) : Int)) = False := eq_false (by omega)
            go_wp2
            repeat (go_quiet (fail); try go_wp2)
            go_roundg k1
            case measure => have := HX.out; omega
            case rel =>
              have h1 := HX.out
              have h2 := HC3.out
              have hw : wrap64 (x + 1) = x + 1 := by have := HL.out; unfold wrap64; omega
              have h3 := SwLaw.filt_step (fun p => !ranB p t) l0 x.toNat HX2.out
              have h4 := SwLaw.filt_step (fun p => ranB p t) l0 x.toNat HX2.out
              have h5 : (x + 1).toNat = x.toNat + 1 := by omega
              rw [← HPP.out] at h3 h4
              simp only [HRN.out] at h3 h4
              have h6 := HNA.out
              have h7 := HNB.out
              have hna : na ≤ (l0.length : Int) := by have h8 := List.length_filter_le (fun p => !ranB p t) (l0.take x.toNat); have h9 := List.length_take_le' x.toNat l0; omega
              have hnb : nb ≤ (l0.length : Int) := by have h8 := List.length_filter_le (fun p => ranB p t) (l0.take x.toNat); have h9 := List.length_take_le' x.toNat l0; omega
              have h10 := HG.out.2.2
              refine ⟨x + 1, (na + 1), nb, ?_, ?_, ?_, ⟨by omega⟩, ⟨?_⟩, ⟨?_⟩, HR, R5, R6, ⟨pw_below_drewN HB.out _⟩⟩
              · rw [show wrap64 (na + 1) = na + 1 by unfold wrap64; omega]
              · rfl
              · rw [hw]
              · rw [h5, h3, h6]; simp
              · rw [h5, h4, h7]; simp
          · have HFI := Aside0.mk (HFR HRN.out)
            clear HFF HFR
            go_upto_region 15 with (first | (go_at_call 25; refine (cache_Find.calls (l0.length + 1) _ _ l0 p.f0.f0 p.f0.f1 p.f0.f2 p.f0.f3 p.f0.f4 t 0 0 0 0 0 0 false 0 0 false _ HR.out HC0.out HFI.out).mono ?_; rintro e w5 ⟨rfl, hb⟩; replace HR := Aside0.mk (Kd.C_below HR.out hb); replace R5 := Aside0.mk (Kd.C_below R5.out hb); replace R6 := Aside0.mk (Kd.C_below R6.out hb); replace HB := Aside0.mk (below_step HB.out hb); clear hb) | ((with_reducible refine gate_dst (N := 15) rfl ?_); refine box_event ?hg (N := 15) ?hd (cs := #[.int .i64 0, .int .i64 0, .int .i64 0, .int .i64 0, .int .i64 0, .int .i64 0, .bool false, .int .i64 0, .int .i64 0]) (t := 37) ?hr ?_; (case hd => rfl); (case hg => rfl); (case hr => first | (go_simp; done) | (go_simp; rfl)); intro gb hg wb hbox hb; have HW := Aside0.mk hb; have G := Aside0.mk (Nat.le_of_eq hg.symm : w5.heap.size ≤ gb); have Zb := Aside0.mk hbox; clear hb hbox hg; have z0 : wb.cell? ⟨gb, 0, none⟩ = some (.int .i64 0) := (blk_cell Zb.out 0).trans rfl; have y0 := blk_frozen Zb.out 0; have z1 : wb.cell? ⟨gb, 1, none⟩ = some (.int .i64 0) := (blk_cell Zb.out 1).trans rfl; have y1 := blk_frozen Zb.out 1; have z2 : wb.cell? ⟨gb, 2, none⟩ = some (.int .i64 0) := (blk_cell Zb.out 2).trans rfl; have y2 := blk_frozen Zb.out 2; have z3 : wb.cell? ⟨gb, 3, none⟩ = some (.int .i64 0) := (blk_cell Zb.out 3).trans rfl; have y3 := blk_frozen Zb.out 3; have z4 : wb.cell? ⟨gb, 4, none⟩ = some (.int .i64 0) := (blk_cell Zb.out 4).trans rfl; have y4 := blk_frozen Zb.out 4; have z5 : wb.cell? ⟨gb, 5, none⟩ = some (.int .i64 0) := (blk_cell Zb.out 5).trans rfl; have y5 := blk_frozen Zb.out 5; have z6 : wb.cell? ⟨gb, 6, none⟩ = some (.bool false) := (blk_cell Zb.out 6).trans rfl; have y6 := blk_frozen Zb.out 6; have z7 : wb.cell? ⟨gb, 7, none⟩ = some (.int .i64 0) := (blk_cell Zb.out 7).trans rfl; have y7 := blk_frozen Zb.out 7; have z8 : wb.cell? ⟨gb, 8, none⟩ = some (.int .i64 0) := (blk_cell Zb.out 8).trans rfl; have y8 := blk_frozen Zb.out 8; skip))
            refine wharfagelaw16_CacheSweeps.hide (fun W => Below w5.heap.size w5 W ∧ W.heap[gb]? = some (.cells #[.int .i64 0, .int .i64 0, .int .i64 0, .int .i64 0, .int .i64 0, .int .i64 0, .bool false, .int .i64 0, .int .i64 0] 37 (0, 0))) ⟨by with_reducible repeat (first | exact HW.out | refine below_set ?_ G.out), by refine blk_put (cs := #[.int .i64 0, .int .i64 0, .int .i64 0, .int .i64 0, .int .i64 0, .int .i64 0, .bool false, .int .i64 0, .int .i64 0]) ?_ 8 _ rfl; refine blk_put (cs := #[.int .i64 0, .int .i64 0, .int .i64 0, .int .i64 0, .int .i64 0, .int .i64 0, .bool false, .int .i64 0, .int .i64 0]) ?_ 7 _ rfl; refine blk_put (cs := #[.int .i64 0, .int .i64 0, .int .i64 0, .int .i64 0, .int .i64 0, .int .i64 0, .bool false, .int .i64 0, .int .i64 0]) ?_ 6 _ rfl; refine blk_put (cs := #[.int .i64 0, .int .i64 0, .int .i64 0, .int .i64 0, .int .i64 0, .int .i64 0, .bool false, .int .i64 0, .int .i64 0]) ?_ 5 _ rfl; refine blk_put (cs := #[.int .i64 0, .int .i64 0, .int .i64 0, .int .i64 0, .int .i64 0, .int .i64 0, .bool false, .int .i64 0, .int .i64 0]) ?_ 4 _ rfl; refine blk_put (cs := #[.int .i64 0, .int .i64 0, .int .i64 0, .int .i64 0, .int .i64 0, .int .i64 0, .bool false, .int .i64 0, .int .i64 0]) ?_ 3 _ rfl; refine blk_put (cs := #[.int .i64 0, .int .i64 0, .int .i64 0, .int .i64 0, .int .i64 0, .int .i64 0, .bool false, .int .i64 0, .int .i64 0]) ?_ 2 _ rfl; refine blk_put (cs := #[.int .i64 0, .int .i64 0, .int .i64 0, .int .i64 0, .int .i64 0, .int .i64 0, .bool false, .int .i64 0, .int .i64 0]) ?_ 1 _ rfl; refine blk_put (cs := #[.int .i64 0, .int .i64 0, .int .i64 0, .int .i64 0, .int .i64 0, .int .i64 0, .bool false, .int .i64 0, .int .i64 0]) ?_ 0 _ rfl; exact Zb.out⟩ ?_
            intro w6 ⟨hb, hz⟩
            replace HR := Aside0.mk (Kd.C_below HR.out hb)
            replace R5 := Aside0.mk (Kd.C_below R5.out hb)
            replace R6 := Aside0.mk (Kd.C_below R6.out hb)
            replace HB := Aside0.mk (below_step HB.out hb)
            have BZ := Aside0.mk hz
            clear hb hz HW G Zb z0 y0 z1 y1 z2 y2 z3 y3 z4 y4 z5 y5 z6 y6 z7 y7 z8 y8
            clear hx0 hx1 hx2 hx3 hx4 hx5 hx6 hx7 hx8
            obtain ⟨adkx, eakx, kx0, kx1, kx2, kx3, kx4, kx5, kx6, kx7, kx8⟩ := at_T37 HR.out x p1 c3
            cases eakx
            rw [← hp.out] at kx0 kx1 kx2 kx3 kx4 kx5 kx6 kx7 kx8
            have HAT := Aside0.mk (SwLaw.filt_at (fun p => ranB p t) l0 x.toNat HX2.out (by rw [← HPP.out]; exact HRN.out))
            have q0 : (0 : Int) ≤ nb := by have h1 := HNA.out; have h2 := HNB.out; omega
            have q1 : nb < (((l0.filter (fun p => ranB p t)).length : Nat) : Int) := by have h1 := HAT.out.1; have h2 := HNB.out; omega
            obtain ⟨admx, eamx, mx0, mx1, mx2, mx3, mx4, mx5, mx6, mx7, mx8⟩ := at_T37 R6.out nb q0 q1
            cases eamx
            rw [show rd_T37 (l0.filter (fun p => ranB p t)) nb = p from by rw [HNB.out, HAT.out.2, ← HPP.out]] at mx0 mx1 mx2 mx3 mx4 mx5 mx6 mx7 mx8
            have q0' := eq_true q0
            have q1' := eq_true q1
            have q2a : decide (nb ≥ (((l0.filter (fun p => ranB p t)).length : Nat) : Int)) = false := decide_eq_false (by omega)
            have q2b : decide ((((l0.filter (fun p => ranB p t)).length : Nat) : Int) ≤ nb) = false := decide_eq_false (by omega)
            have q2c : ((((l0.filter (fun p => ranB p t)).length : Nat) : Int) ≤ nb) = False := eq_false (by omega)
            have q2d : (nb ≥ (((l0.filter (fun p => ranB p t)).length : Nat) : Int)) = False := eq_false (by omega)
            go_wp2
            repeat (go_quiet (fail); try go_wp2)
            go_roundg k1
            case measure => have := HX.out; omega
            case rel =>
              have h1 := HX.out
              have h2 := HC3.out
              have hw : wrap64 (x + 1) = x + 1 := by have := HL.out; unfold wrap64; omega
              have h3 := SwLaw.filt_step (fun p => !ranB p t) l0 x.toNat HX2.out
              have h4 := SwLaw.filt_step (fun p => ranB p t) l0 x.toNat HX2.out
              have h5 : (x + 1).toNat = x.toNat + 1 := by omega
              rw [← HPP.out] at h3 h4
              simp only [HRN.out] at h3 h4
              have h6 := HNA.out
              have h7 := HNB.out
              have hna : na ≤ (l0.length : Int) := by have h8 := List.length_filter_le (fun p => !ranB p t) (l0.take x.toNat); have h9 := List.length_take_le' x.toNat l0; omega
              have hnb : nb ≤ (l0.length : Int) := by have h8 := List.length_filter_le (fun p => ranB p t) (l0.take x.toNat); have h9 := List.length_take_le' x.toNat l0; omega
              have h10 := HG.out.2.2
              refine ⟨x + 1, na, (nb + 1), ?_, ?_, ?_, ⟨by omega⟩, ⟨?_⟩, ⟨?_⟩, HR, R5, R6, ⟨pw_below_drewN HB.out _⟩⟩
              · rfl
              · rw [show wrap64 (nb + 1) = nb + 1 by unfold wrap64; omega]
              · rw [hw]
              · rw [h5, h3, h6]; simp
              · rw [h5, h4, h7]; simp
        · have c3b := decide_eq_false c3
          go_wp2_with fail
          go_ret
          exact ⟨rfl, HB.out⟩
  · have HG := Aside0.mk hg
    clear hg
    go_enter Try.func7, Try.ntmps7
    go_wp2_with (first | (go_at_call 36; refine (wharfagelaw16_awake.calls true _ rfl).mono ?_; rintro e w1 ⟨rfl, hb⟩; replace HR := Aside0.mk (Kd.C_below HR.out hb); replace HB := Aside0.mk (below_step HB.out hb); clear hb) | (go_at_call 29; clear F1; refine (cache_Sweep.calls (l0.length + 1) _ _ l0 t [] [] 1600 _ HR.out HC0.out (SwLaw.sweep_bad l0 t _ (by omega) HL.out HG.out)).mono ?_; rintro e w2 ⟨v0, v1, rfl, ho, hp, hb⟩; obtain ⟨A5, n5, rfl, _, _⟩ := Kd.R_reads ho; obtain ⟨A6, n6, rfl, _, _⟩ := Kd.R_reads hp; replace HB := Aside0.mk (below_step HB.out hb); clear ho hp hb) | (go_at_call 17; refine (wharfagelaw0_Num.calls _ _ _ rfl).mono ?_; rintro e wn ⟨rfl, hn⟩; have hb := Go.Proofs.Ytnocfhnandedoab.Hand.hk_drawn hn; clear hn; replace HB := Aside0.mk (below_step HB.out hb); clear hb))
    go_ret
    exact ⟨rfl, HB.out⟩


end Go.Proofs.Ytnocfhnandedoab.PCacheSweeps
