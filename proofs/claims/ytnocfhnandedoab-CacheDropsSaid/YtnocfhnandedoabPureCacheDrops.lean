/- What was dropped is not found; what was put is. -/
import Derived.Test.YtnocfhnandedoabPCachex17
import Derived.Test.YtnocfhnandedoabOpenCacheDrops
import Derived.Test.YtnocfhnandedoabNumMath
set_option linter.unusedVariables false
set_option linter.unusedSimpArgs false
namespace Go.Proofs.Ytnocfhnandedoab.Pure
open Go.RowKit Go.Proofs.Ytnocfhnandedoab.PCache Go.Proofs.YtnocfhnandedoabW.PrintWords Go.Proofs.YtnocfhnandedoabW.PrintLast Go.Proofs.YtnocfhnandedoabW.PrintMore Go.Proofs.Ytnocfhnandedoab.NumMath

def Fm (a b c d e : Int) : Prop := (0 ≤ a ∧ a < 4294967296) ∧ (0 ≤ b ∧ b < 4294967296) ∧ (c = 6 ∨ c = 17) ∧ (0 ≤ d ∧ d < 65536) ∧ (0 ≤ e ∧ e < 65536)
instance (a b c d e : Int) : Decidable (Fm a b c d e) := by unfold Fm; infer_instance
def Em (a b c d e t p u : Int) : Prop := Fm a b c d e ∧ (0 ≤ t ∧ t < 256) ∧ (0 ≤ p ∧ p ≤ 2) ∧ (0 ≤ u ∧ u ≤ 1048576)
instance (a b c d e t p u : Int) : Decidable (Em a b c d e t p u) := by unfold Em; infer_instance
theorem in_any (x : Int) (b n : Nat) (hb : b ≤ 64) (hn : 2 ^ b = n) : ip_In.f x (b : Int) = some (decide (0 ≤ x ∧ x < (n : Int))) := by
  unfold ip_In.f
  by_cases h : x ≥ 0
  · rw [if_pos h, if_pos (by omega)]
    have hn0 : 0 < n := by rw [← hn]; exact Nat.two_pow_pos b
    have e : shr .i64 x (b : Int) = x / (n : Int) := by
      unfold shr
      rw [Int.toNat_natCast, Nat.min_eq_left (by simpa [IntKind.bits] using hb), ← hn]
      simp
    rw [e]; congr 1
    rw [Bool.eq_iff_iff]
    simp only [beq_iff_eq, decide_eq_true_eq]
    constructor
    · intro hz
      refine ⟨h, ?_⟩
      have := Int.lt_ediv_add_one_mul_self x (show (0 : Int) < n by omega)
      rw [hz] at this
      omega
    · rintro ⟨_, hlt⟩
      exact Int.ediv_eq_zero_of_lt h hlt
  · rw [if_neg h]; congr 1; simp; omega
theorem in32 (x : Int) : ip_In.f x 32 = some (decide (0 ≤ x ∧ x < 4294967296)) := in_any x 32 4294967296 (by decide) (by decide)
theorem in16 (x : Int) : ip_In.f x 16 = some (decide (0 ≤ x ∧ x < 65536)) := in_any x 16 65536 (by decide) (by decide)
theorem in8 (x : Int) : ip_In.f x 8 = some (decide (0 ≤ x ∧ x < 256)) := in_any x 8 256 (by decide) (by decide)
theorem handled_f (c : Int) : flow_handled.f c = some (decide (c = 6 ∨ c = 17)) := by
  unfold flow_handled.f
  by_cases h : c = 6
  · simp [h]
  · rw [if_neg h]; simp [h]
    rfl
theorem flowMay_f (a b c d e : Int) : flow_May.f a b c d e = some (decide (Fm a b c d e)) := by
  unfold flow_May.f
  rw [in32, in32, in16, in16, handled_f]
  simp only [Option.bind_some]
  by_cases h1 : 0 ≤ a ∧ a < 4294967296 <;> by_cases h2 : 0 ≤ b ∧ b < 4294967296 <;> by_cases h3 : c = 6 ∨ c = 17 <;> by_cases h4 : 0 ≤ d ∧ d < 65536 <;> by_cases h5 : 0 ≤ e ∧ e < 65536 <;> simp [Fm, h1, h2, h3, h4, h5]
theorem to_f (x m : Int) : conf_to.f x m = some (decide (0 ≤ x ∧ x ≤ m)) := by
  unfold conf_to.f
  by_cases h : x ≥ 0
  · rw [if_pos h]; congr 1; simp; omega
  · rw [if_neg h]; congr 1; simp; omega
theorem time_f (x : Int) : conf_Time.f x = some (decide (0 ≤ x ∧ x ≤ 1048576)) := by
  unfold conf_Time.f
  rw [to_f]; rfl
theorem may_f (a : Int) : track_May.f a = some (decide (0 ≤ a ∧ a ≤ 2)) := by
  unfold track_May.f
  by_cases h : a ≥ 0
  · rw [if_pos h]; congr 1; simp; omega
  · rw [if_neg h]; congr 1; simp; omega
theorem entryMay_f (a b c d e t : Int) (z : Bool) (p u : Int) : entry_May.f a b c d e t z p u = some (decide (Em a b c d e t p u)) := by
  unfold entry_May.f
  rw [flowMay_f, in8, may_f, time_f]
  simp only [Option.bind_some]
  by_cases h1 : Fm a b c d e <;> by_cases h2 : 0 ≤ t ∧ t < 256 <;> by_cases h3 : 0 ≤ p ∧ p ≤ 2 <;> by_cases h4 : 0 ≤ u ∧ u ≤ 1048576 <;> simp [Em, h1, h2, h3, h4]
theorem num_f (a : Int) : wharfagelaw0_Num.f a = some a := rfl
def lim (p : Int) : Int := if p = 0 then 40 else 6
theorem ran_in (a b c d e t : Int) (z : Bool) (p u now : Int) (hm : Em a b c d e t p u) : entry_Ran.f a b c d e t z p u now = some (decide (u + lim p ≤ now)) := by
  unfold entry_Ran.f track_Limit.f
  have hu := hm.2.2.2
  rw [may_f, entryMay_f, decide_eq_true hm, decide_eq_true hm.2.2.1]
  simp only [Option.bind_some, if_true]
  by_cases h : p = 0
  · rw [if_pos h]
    simp only [Option.bind_some]
    rw [wrap64_in _ (by omega) (by omega)]
    simp [lim, h]
  · rw [if_neg h]
    simp only [Option.bind_some]
    rw [wrap64_in _ (by omega) (by omega)]
    simp [lim, h]
theorem ran_out (a b c d e t : Int) (z : Bool) (p u now : Int) (hm : ¬ Em a b c d e t p u) : entry_Ran.f a b c d e t z p u now = some true := by
  unfold entry_Ran.f track_Limit.f
  rw [may_f, entryMay_f, decide_eq_false hm]
  by_cases hp : 0 ≤ p ∧ p ≤ 2
  · rw [decide_eq_true hp]
    simp only [Option.bind_some, if_true]
    split <;> rfl
  · rw [decide_eq_false hp]; rfl

abbrev En := S37
abbrev Fl := S35
def emB (x : En) : Bool := decide (Em x.f0.f0 x.f0.f1 x.f0.f2 x.f0.f3 x.f0.f4 x.f1 x.f3 x.f4)
theorem em_f (x : En) : entry_May.f x.f0.f0 x.f0.f1 x.f0.f2 x.f0.f3 x.f0.f4 x.f1 x.f2 x.f3 x.f4 = some (emB x) := entryMay_f _ _ _ _ _ _ _ _ _
theorem rdE (l : List En) (i : Nat) (h : i < l.length) : rd_T37 l (i : Int) = l[i] := by
  unfold rd_T37
  simp [List.getD, List.getElem?_eq_getElem h]
theorem idx_lo (f : Fl) : ∀ (l : List En) (n : Nat), idxFrom f l n = -1 ∨ (n : Int) ≤ idxFrom f l n
  | [], n => .inl rfl
  | x :: r, n => by
    unfold idxFrom
    split
    · exact .inr (Int.le_refl _)
    · rcases idx_lo f r (n + 1) with h | h
      · exact .inl h
      · exact .inr (by omega)
theorem idx_none (f : Fl) : ∀ (l : List En) (n : Nat), (∀ x ∈ l, x.f0 ≠ f) → idxFrom f l n = -1
  | [], n, _ => rfl
  | x :: r, n, h => by
    unfold idxFrom
    rw [if_neg (fun hb => h x List.mem_cons_self ((beqF_iff _ _).1 hb))]
    exact idx_none f r (n + 1) (fun y hy => h y (List.mem_cons_of_mem _ hy))
theorem idx_first (f : Fl) : ∀ (l : List En) (n j : Nat) (hj : j < l.length), (∀ i (hi : i < j), (l[i]'(by omega)).f0 ≠ f) → (l[j]).f0 = f → idxFrom f l n = ((n + j : Nat) : Int)
  | [], n, j, hj, _, _ => by simp at hj
  | x :: r, n, 0, _, _, he => by
    unfold idxFrom
    rw [if_pos (show beqF x.f0 f = true from (beqF_iff _ _).2 he)]
    rfl
  | x :: r, n, j + 1, hj, hn, he => by
    unfold idxFrom
    rw [if_neg (show ¬ (beqF x.f0 f = true) from fun hb => hn 0 (by omega) ((beqF_iff _ _).1 hb)), idx_first f r (n + 1) j (by simpa using hj) (fun i hi => hn (i + 1) (by omega)) he]
    congr 1
    omega
theorem idx_le (f : Fl) : ∀ (l : List En) (n i : Nat) (hi : i < l.length), (l[i]).f0 = f → idxFrom f l n ≤ ((n + i : Nat) : Int)
  | [], n, i, hi, _ => by simp at hi
  | x :: r, n, i, hi, he => by
    unfold idxFrom
    split
    · omega
    · rename_i hb
      cases i with
      | zero => exact absurd ((beqF_iff _ _).2 he) hb
      | succ i =>
        have := idx_le f r (n + 1) i (by simpa using hi) he
        omega
def Good (l : List En) : Prop := (∀ x ∈ l, emB x = true) ∧ l.Pairwise (fun a b => a.f0 ≠ b.f0) ∧ l.length ≤ 8
noncomputable instance (l : List En) : Decidable (Good l) := Classical.propDecidable _
theorem good_ix (l : List En) : Good l ↔ ((∀ j (hj : j < l.length), emB l[j] = true ∧ idxFrom (l[j]).f0 l 0 = (j : Int)) ∧ l.length ≤ 8) := by
  constructor
  · rintro ⟨h1, h2, h3⟩
    refine ⟨fun j hj => ⟨h1 _ (List.getElem_mem hj), ?_⟩, h3⟩
    have := idx_first (l[j]).f0 l 0 j hj (fun i hi => List.pairwise_iff_getElem.1 h2 i j (by omega) hj hi) rfl
    rw [this, Nat.zero_add]
  · rintro ⟨h1, h3⟩
    refine ⟨fun x hx => ?_, List.pairwise_iff_getElem.2 (fun i j hi hj hij he => ?_), h3⟩
    · obtain ⟨j, hj, rfl⟩ := List.getElem_of_mem hx
      exact (h1 j hj).1
    · have h4 := idx_le (l[j]).f0 l 0 i hi he
      rw [(h1 j hj).2] at h4
      omega
theorem may_l0 (l : List En) (hl : l.length ≤ 9223372036854775807) (d : Nat) : ∀ (k i : Nat), l.length - i ≤ d → d < k → i ≤ l.length → (∀ j (hj : j < l.length), j < i → emB l[j] = true ∧ idxFrom (l[j]).f0 l 0 = (j : Int)) → cache_May.l0 k l l (l.length : Int) (i : Int) = some (decide (Good l)) := by
  induction d with
  | zero =>
    intro k i hd hk hi hp
    obtain ⟨k, rfl⟩ : ∃ m, k = m + 1 := ⟨k - 1, by omega⟩
    simp only [cache_May.l0]
    rw [if_neg (by omega)]
    congr 1
    rw [decide_eq_decide, good_ix]
    constructor
    · intro h
      exact ⟨fun j hj => hp j hj (by omega), by omega⟩
    · intro h
      have := h.2
      omega
  | succ d ih =>
    intro k i hd hk hi hp
    obtain ⟨k, rfl⟩ : ∃ m, k = m + 1 := ⟨k - 1, by omega⟩
    simp only [cache_May.l0]
    by_cases h : (i : Int) < (l.length : Int)
    · have hlt : i < l.length := by omega
      rw [if_pos h, if_pos (show (0 : Int) ≤ (i : Int) by omega), if_pos h, rdE l i hlt, em_f, Option.bind_some]
      cases hb : emB l[i]
      · rw [if_neg (by simp)]
        congr 1
        rw [eq_comm, decide_eq_false_iff_not]
        intro hg
        rw [hg.1 _ (List.getElem_mem hlt)] at hb
        cases hb
      · rw [if_pos rfl]
        unfold cache_at.f
        rw [Option.bind_some]
        by_cases hx : idxFrom (l[i]).f0 l 0 = (i : Int)
        · rw [if_pos hx, show wrap64 ((i : Int) + 1) = ((i + 1 : Nat) : Int) by unfold wrap64; omega]
          refine ih k (i + 1) (by omega) (by omega) (by omega) (fun j hj hji => ?_)
          by_cases hj2 : j = i
          · subst hj2
            exact ⟨hb, hx⟩
          · exact hp j hj (by omega)
        · rw [if_neg hx]
          congr 1
          rw [eq_comm, decide_eq_false_iff_not]
          intro hg
          exact hx (((good_ix l).1 hg).1 i hlt).2
    · rw [if_neg h]
      congr 1
      rw [decide_eq_decide, good_ix]
      constructor
      · intro h
        exact ⟨fun j hj => hp j hj (by omega), by omega⟩
      · intro h
        have := h.2
        omega
theorem mayE_f (l : List En) (k : Nat) (hl : l.length < k) (hl2 : l.length ≤ 9223372036854775807) : cache_May.f k l = some (decide (Good l)) := may_l0 l hl2 l.length k 0 (by omega) hl (by omega) (fun j _ h => absurd h (by omega))
theorem same_l0 (l : List En) (hl : l.length ≤ 9223372036854775807) (d : Nat) : ∀ (k i : Nat), l.length - i ≤ d → d < k → i ≤ l.length → wharfagelaw0_SameEntrys.l0 k l l (i : Int) = some true := by
  induction d with
  | zero =>
    intro k i hd hk hi
    obtain ⟨k, rfl⟩ : ∃ m, k = m + 1 := ⟨k - 1, by omega⟩
    simp only [wharfagelaw0_SameEntrys.l0]
    rw [if_neg (by omega)]
  | succ d ih =>
    intro k i hd hk hi
    obtain ⟨k, rfl⟩ : ∃ m, k = m + 1 := ⟨k - 1, by omega⟩
    simp only [wharfagelaw0_SameEntrys.l0]
    by_cases h : (i : Int) < (l.length : Int)
    · rw [if_pos h, if_pos (show (0 : Int) ≤ (i : Int) by omega), if_pos h, if_neg (by simp), show wrap64 ((i : Int) + 1) = ((i + 1 : Nat) : Int) by unfold wrap64; omega]
      exact ih k (i + 1) (by omega) (by omega) (by omega)
    · rw [if_neg h]
theorem same_f (l : List En) (k : Nat) (hl : l.length < k) (hl2 : l.length ≤ 9223372036854775807) : wharfagelaw0_SameEntrys.f k l l = some true := by
  unfold wharfagelaw0_SameEntrys.f
  rw [if_pos rfl]
  exact same_l0 l hl2 l.length k 0 (by omega) hl (by omega)
/-- What is there of other flows. -/
def rest (l : List En) (f : Fl) : List En := l.filter (fun x => !beqF x.f0 f)
def out (l : List En) (p : En) : List En := rest l p.f0 ++ [p]
def put (l : List En) (p : En) : List En := if 8 < (out l p).length then (out l p).drop 1 else out l p
theorem rest_ne (l : List En) (f : Fl) : ∀ x ∈ rest l f, x.f0 ≠ f := by
  intro x hx he
  have h := (List.mem_filter.1 hx).2
  rw [(beqF_iff _ _).2 he] at h
  cases h
theorem rest_self (l : List En) (f : Fl) (h : ∀ x ∈ l, x.f0 ≠ f) : rest l f = l := by
  unfold rest
  rw [List.filter_eq_self]
  intro x hx
  have : beqF x.f0 f = false := Bool.eq_false_iff.2 (fun hb => h x hx ((beqF_iff _ _).1 hb))
  rw [this]; rfl
theorem rest_len (f : Fl) : ∀ l : List En, l.Pairwise (fun a b => a.f0 ≠ b.f0) → l.length ≤ (rest l f).length + 1
  | [], _ => by simp
  | x :: r, h => by
    rw [List.pairwise_cons] at h
    by_cases hx : x.f0 = f
    · have h2 : rest r f = r := rest_self r f (fun y hy he => h.1 y hy (hx.trans he.symm))
      have h3 : rest (x :: r) f = rest r f := by
        unfold rest
        rw [List.filter_cons, (beqF_iff _ _).2 hx]
        simp
      rw [h3, h2]
      simp
    · have h3 : rest (x :: r) f = x :: rest r f := by
        have hb : beqF x.f0 f = false := Bool.eq_false_iff.2 (fun hb => hx ((beqF_iff _ _).1 hb))
        unfold rest
        rw [List.filter_cons, hb]
        simp
      have := rest_len f r h.2
      rw [h3]
      simp
      omega
theorem rest_good (l : List En) (f : Fl) (h : Good l) : Good (rest l f) :=
  ⟨fun x hx => h.1 x (List.mem_filter.1 hx).1, h.2.1.filter _, Nat.le_trans (List.length_filter_le _ _) h.2.2⟩
theorem put_shape (l : List En) (p : En) (hg : Good l) (hp : emB p = true) : ∃ y, put l p = y ++ [p] ∧ (∀ x ∈ y, x.f0 ≠ p.f0) ∧ Good (put l p) ∧ l.length ≤ (put l p).length := by
  have hr := rest_good l p.f0 hg
  have hn := rest_ne l p.f0
  have hlen := rest_len p.f0 l hg.2.1
  have h8 := hr.2.2
  have h9 := hg.2.2
  have key : ∀ y : List En, (∀ x ∈ y, x ∈ rest l p.f0) → y.Pairwise (fun a b => a.f0 ≠ b.f0) → y.length ≤ 7 → Good (y ++ [p]) := by
    intro y hy hpw hyl
    refine ⟨fun x hx => ?_, ?_, by simp; omega⟩
    · rcases List.mem_append.1 hx with h | h
      · exact hr.1 x (hy x h)
      · rw [List.mem_singleton.1 h]; exact hp
    · rw [List.pairwise_append]
      refine ⟨hpw, by simp, fun a ha b hb => ?_⟩
      rw [List.mem_singleton.1 hb]
      exact hn a (hy a ha)
  unfold put
  by_cases h : 8 < (out l p).length
  · rw [if_pos h]
    have ho : (out l p).length = (rest l p.f0).length + 1 := by unfold out; simp
    have hd : (out l p).drop 1 = (rest l p.f0).drop 1 ++ [p] := by
      unfold out
      rw [List.drop_append_of_le_length (by omega)]
    rw [hd]
    refine ⟨_, rfl, fun x hx => hn x (List.mem_of_mem_drop hx), key _ (fun x hx => List.mem_of_mem_drop hx) (hr.2.1.sublist (List.drop_sublist _ _)) (by simp; omega), by simp; omega⟩
  · rw [if_neg h]
    have ho : (out l p).length = (rest l p.f0).length + 1 := by unfold out; simp
    exact ⟨_, rfl, hn, key _ (fun x hx => hx) hr.2.1 (by omega), by rw [ho]; omega⟩
abbrev PutR := Option (List En × Int × Int × Int × Int × Int × Int × Bool × Int × Int × Bool × Int)
theorem put_bad (l : List En) (p : En) (k : Nat) (hl : l.length < k) (hl2 : l.length ≤ 9223372036854775807) (h : ¬ (Good l ∧ emB p = true)) :
    cache_Put.f k l p.f0.f0 p.f0.f1 p.f0.f2 p.f0.f3 p.f0.f4 p.f1 p.f2 p.f3 p.f4 = some ([], 0, 0, 0, 0, 0, 0, false, 0, 0, false, 1600) := by
  unfold cache_Put.f
  rw [mayE_f l k hl hl2, em_f p, Option.bind_some]
  by_cases hg : Good l
  · have hp : emB p = false := Bool.eq_false_iff.2 (fun hp => h ⟨hg, hp⟩)
    rw [decide_eq_true hg, if_pos rfl, hp, Option.bind_some, if_neg (by simp)]
  · rw [decide_eq_false hg, if_neg (by simp)]
theorem put_good (l : List En) (p : En) (k : Nat) (hl : l.length < k) (hl2 : l.length ≤ 9223372036854775807) (hg : Good l) (hp : emB p = true) :
    ∃ a b c d e f g h i, cache_Put.f k l p.f0.f0 p.f0.f1 p.f0.f2 p.f0.f3 p.f0.f4 p.f1 p.f2 p.f3 p.f4 = some (put l p, a, b, c, d, e, f, g, h, i, decide (8 < (out l p).length), 0) := by
  unfold cache_Put.f
  rw [mayE_f l k hl hl2, em_f p, Option.bind_some, decide_eq_true hg, if_pos rfl, hp, Option.bind_some, if_pos rfl]
  show ∃ a b c d e f g h i, putRes (out l p) = _
  unfold putRes put
  by_cases h : 8 < (out l p).length
  · simp only [if_pos h, decide_eq_true h]
    exact ⟨_, _, _, _, _, _, _, _, _, rfl⟩
  · simp only [if_neg h, decide_eq_false h]
    exact ⟨_, _, _, _, _, _, _, _, _, rfl⟩
theorem good_nil : Good [] := ⟨by simp, List.Pairwise.nil, by simp⟩

theorem drop_bad (l : List En) (f : Fl) (k : Nat) (hl : l.length < k) (hl2 : l.length ≤ 9223372036854775807) (h : ¬ Good l) : cache_Drop.f k l f.f0 f.f1 f.f2 f.f3 f.f4 = some ([], 1600) := by
  unfold cache_Drop.f
  rw [mayE_f l k hl hl2, Option.bind_some, decide_eq_false h, if_neg (by simp)]
theorem drop_good (l : List En) (f : Fl) (k : Nat) (hl : l.length < k) (hl2 : l.length ≤ 9223372036854775807) (h : Good l) : cache_Drop.f k l f.f0 f.f1 f.f2 f.f3 f.f4 = some (rest l f, 0) := by
  unfold cache_Drop.f
  rw [mayE_f l k hl hl2, Option.bind_some, decide_eq_true h, if_pos rfl]
  rfl
theorem find_none (l : List En) (f : Fl) (k : Nat) (t : Int) (h : ∀ x ∈ l, x.f0 ≠ f) : cache_Find.f k l f.f0 f.f1 f.f2 f.f3 f.f4 t = some (0, 0, 0, 0, 0, 0, false, 0, 0, false) := by
  unfold cache_Find.f cache_at.f
  rw [Option.bind_some, idx_none f l 0 h, if_pos (by decide)]
theorem find_last (y : List En) (p : En) (k : Nat) (t : Int) (hl : (y ++ [p]).length < k) (hg : Good (y ++ [p])) (hy : ∀ x ∈ y, x.f0 ≠ p.f0) (hr : ¬ (p.f4 + lim p.f3 ≤ t)) :
    cache_Find.f k (y ++ [p]) p.f0.f0 p.f0.f1 p.f0.f2 p.f0.f3 p.f0.f4 t = some (p.f0.f0, p.f0.f1, p.f0.f2, p.f0.f3, p.f0.f4, p.f1, p.f2, p.f3, p.f4, true) := by
  have hlt : y.length < (y ++ [p]).length := by simp
  have hat : (y ++ [p])[y.length] = p := by simp
  have hix : idxFrom p.f0 (y ++ [p]) 0 = ((y.length : Nat) : Int) := by
    have := idx_first p.f0 (y ++ [p]) 0 y.length hlt (fun i hi => by
      rw [List.getElem_append_left hi]
      exact hy _ (List.getElem_mem hi)) (by rw [hat])
    rw [this, Nat.zero_add]
  have hp : emB p = true := hg.1 p (by simp)
  have h8 := hg.2.2
  unfold cache_Find.f cache_at.f
  rw [Option.bind_some, show (⟨p.f0.f0, p.f0.f1, p.f0.f2, p.f0.f3, p.f0.f4⟩ : Fl) = p.f0 from rfl, hix, if_neg (by omega), mayE_f _ k hl (by omega), Option.bind_some, decide_eq_true hg, if_pos rfl, if_pos (by omega), if_pos (by omega), rdE _ _ hlt, hat, ran_in _ _ _ _ _ _ _ _ _ _ (of_decide_eq_true hp), Option.bind_some, decide_eq_false hr, if_neg (by simp)]
theorem drops_law (es : List En) (kk now : Int) (hl : es.length ≤ 9223372036854775807) (k : Nat) (hk : es.length + 20 < k) : wharfagelaw16_CacheDrops.f k es kk now = some true := by
  obtain ⟨m, hm⟩ : ∃ m, m = bits .and .i64 kk 15 := ⟨_, rfl⟩
  obtain ⟨t, ht⟩ : ∃ t, t = bits .and .i64 now 63 := ⟨_, rfl⟩
  have hm1 : 0 ≤ m ∧ m ≤ 15 := by rw [hm, and15]; omega
  have ht1 : 0 ≤ t ∧ t ≤ 63 := by rw [ht, and63]; omega
  unfold wharfagelaw16_CacheDrops.f wharfagelaw16_flow.f
  rw [show wharfagelaw16_awake.f = some true from rfl, Option.bind_some, if_pos rfl, ← hm, ← ht, Option.bind_some]
  simp only []
  obtain ⟨p, hp⟩ : ∃ p : En, p = ⟨⟨m, 167772161, 6, 7, 80⟩, 3, false, 0, t⟩ := ⟨_, rfl⟩
  have hpe : emB p = true := by
    rw [hp]
    unfold emB
    rw [decide_eq_true_eq]
    exact ⟨⟨⟨hm1.1, by show m < 4294967296; omega⟩, ⟨by simp, by simp⟩, .inl rfl, ⟨by simp, by simp⟩, ⟨by simp, by simp⟩⟩, ⟨by simp, by simp⟩, ⟨by simp, by simp⟩, ⟨ht1.1, by show t ≤ 1048576; omega⟩⟩
  by_cases hg : Good es
  · have e1 : cache_Drop.f k es m 167772161 6 7 80 = some (rest es p.f0, 0) := by rw [hp]; exact drop_good es ⟨m, 167772161, 6, 7, 80⟩ k (by omega) hl hg
    obtain ⟨c1, c2, c3, c4, c5, c6, c7, c8, c9, e2⟩ := put_good es p k (by omega) hl hg hpe
    obtain ⟨y, hy, hyn, hg1, hlen1⟩ := put_shape es p hg hpe
    have h8 := hg1.2.2
    have e3 := find_none (rest es p.f0) p.f0 k t (rest_ne es p.f0)
    rw [hy] at e2 hg1 h8
    have e4 := find_last y p k t (by omega) hg1 hyn (by rw [hp]; simp only [lim]; omega)
    have e5 : cache_Drop.f k (y ++ [p]) p.f0.f0 p.f0.f1 p.f0.f2 p.f0.f3 p.f0.f4 = some (rest (y ++ [p]) p.f0, 0) := drop_good _ p.f0 k (by omega) (by omega) hg1
    have e6 := find_none (rest (y ++ [p]) p.f0) p.f0 k t (rest_ne _ p.f0)
    have hyl : (y ++ [p]).length = y.length + 1 := by simp
    have hlast : rd_T37 (y ++ [p]) (y.length : Int) = p := by
      rw [rdE _ y.length (by omega)]
      simp
    clear hm ht
    subst hp
    try simp only [] at e1
    try simp only [] at e2
    try simp only [] at e3
    try simp only [] at e4
    try simp only [] at e5
    try simp only [] at e6
    rw [e1, Option.bind_some, num_f, Option.bind_some, if_pos rfl]
    simp only []
    rw [e3, Option.bind_some, e2, Option.bind_some]
    simp only []
    rw [e4, Option.bind_some, e5, Option.bind_some]
    simp only []
    rw [e6, Option.bind_some]
    simp only [Bool.false_eq_true, if_false]
    try rw [num_f]
    rw [Option.bind_some, if_pos rfl]
    simp only [if_true]
    try rw [num_f]
    rw [Option.bind_some, if_pos rfl, if_pos (by omega)]
    have hw : ∀ q : En, wrap64 (((y ++ [q]).length : Int) - 1) = (y.length : Int) := by
      intro q
      have h1 : (y ++ [q]).length = y.length + 1 := by simp
      have h2 : y.length ≤ 8 := by omega
      rw [h1]
      unfold wrap64
      omega
    simp only [hw]
    rw [if_pos (by omega), if_pos (by omega), hlast]
    simp
  · have e1 : cache_Drop.f k es m 167772161 6 7 80 = some ([], 1600) := drop_bad es ⟨m, 167772161, 6, 7, 80⟩ k (by omega) hl hg
    rw [e1, Option.bind_some, num_f, Option.bind_some, if_neg (by decide)]
    rfl
theorem CacheDrops : wharfagelaw16_CacheDrops.PureX := fun es kk now g _ _ => ⟨es.length + 21, drops_law es kk now (by have := g.2.1; omega) _ (by omega)⟩

end Go.Proofs.Ytnocfhnandedoab.Pure
